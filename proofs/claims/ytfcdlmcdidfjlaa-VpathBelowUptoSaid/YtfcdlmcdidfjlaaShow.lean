/- Show and Clean, walked. Conditions: texts and lists of a machine's size. -/
import Derived.Test.YtfcdlmcdidfjlaaParse
import Derived.Test.YtfcdlmcdidfjlaaRParse
import Derived.Test.YtfcdlmcdidfjlaaShowL
import Derived.Test.YtfcdlmcdidfjlaaJoin
namespace VK
open Go Go.Proofs
set_option linter.unusedSimpArgs false
set_option linter.unusedVariables false
set_option maxRecDepth 100000
set_option maxHeartbeats 40000000
theorem join_len (l : List (List UInt8)) : (Lib.join l [47]).length + 1 ≤ bulkR l + 1 := by
  have h := congrArg List.length (join_show l)
  simp only [List.length_cons] at h
  unfold bulkR
  unfold showR at h
  split at h
  · simp only [List.length_cons, List.length_nil] at h; omega
  · omega
theorem bulk_len (l : List (List UInt8)) : l.length ≤ bulkR l := by
  unfold bulkR
  induction l with
  | nil => simp
  | cons a l ih => simp only [List.map_cons, List.flatten_cons, List.length_append, List.length_cons]; omega
theorem bulk_ok {l : List (List UInt8)} (h : checkN l = 0) : bulkR l ≤ 136 := by
  obtain ⟨h1, h2⟩ := check_ok h
  have := flat_len l h1
  unfold bulkR
  unfold flatR at this
  omega
theorem Show_c (L : List Atom) (va : Value) (la : List (List UInt8)) [ra : Rd L va (mrow str 9 la)] (hb : bulkR la ≤ 1407374883553) :
    Fn Try.prog 14 [va] L fun w L' => w = str (showR la) ∧ L' = L := by
  have hj := join_len la
  have hl := bulk_len la
  refine fn_intro Try.func14 rfl Try.ntmps14 rfl (fun W0 => ?_)
  simp only [argE]
  refine r_seq ?_
  refine r_region (id := 0) ?_
  refine o_give (g_assign (evv rfl)) rfl rfl ?_
  refine o_nil ?_
  refine c_code ?_
  refine r_seq ?_
  refine r_region (id := 1) ?_
  refine o_give (g_move (evv rfl)) rfl rfl ?_
  (refine o_call rfl _ (Ent.refl _) (Join_c _ _ _ [47] (by first | assumption | omega) (by first | assumption | omega)) rfl ?_; rintro _ _ ⟨rfl, hLz⟩; obtain rfl := hLz.symm; clear hLz)
  refine o_give (g_cat (evv rfl) (evv rfl) (by (try simp only [bsOf, List.length_append, List.length_cons, List.length_nil, List.length_take, List.length_drop]); omega)) rfl rfl ?_
  refine o_give (g_assign (evv rfl)) rfl rfl ?_
  refine o_nil ?_
  refine c_code ?_
  rw [List.singleton_append, join_show]
  first | refine r_ret (rs := [.tmp 2]) rfl rfl _ (Ent.refl _) ?_ | refine c_end (rs := [.tmp 2]) rfl rfl _ (Ent.refl _) ?_
  (refine ⟨?_, ?_⟩ <;> first | rfl | trivial | omega)
theorem Clean_c (L : List Atom) (s : List UInt8) (hs : s.length ≤ 9223372036854775806) :
    Fn Try.prog 11 [str s] L fun w L' => w = .tuple #[str (cleanR s), .int .i64 (parseR s).2] ∧ L' = L := by
  refine fn_intro Try.func11 rfl Try.ntmps11 rfl (fun W0 => ?_)
  simp only [argE]
  refine r_seq ?_
  refine r_region (id := 0) ?_
  refine o_give (g_assign (evv rfl)) rfl rfl ?_
  refine o_give (g_assign (evv rfl)) rfl rfl ?_
  refine o_nil ?_
  refine c_code ?_
  refine r_seq ?_
  refine r_region (id := 1) ?_
  refine o_give (g_move (evv rfl)) rfl rfl ?_
  (refine o_call rfl _ (Ent.refl _) (Parse_c _ _ (by first | assumption | omega)) rfl ?_; rintro _ _ ⟨v, rfl, rfl⟩)
  refine o_give (g_move (evv rfl)) rfl rfl ?_
  refine o_give (g_extract (evv rfl) (by rfl)) rfl rfl ?_
  refine o_give (g_extract (evv rfl) (by rfl)) rfl rfl ?_
  refine o_give (g_assign (evv rfl)) rfl rfl ?_
  refine o_give (g_assign (evv rfl)) rfl rfl ?_
  refine o_nil ?_
  refine c_code ?_
  refine r_seq ?_
  refine r_seq ?_
  refine r_region (id := 2) ?_
  refine o_give (g_move (evv rfl)) rfl rfl ?_
  refine o_give (g_bin (evv rfl) (evv rfl) (by rfl)) rfl rfl ?_
  refine o_nil ?_
  refine c_code ?_
  refine r_cond rfl (fun h0 => ?_) (fun h0 => ?_) <;> (try simp only [decide_eq_true_eq, decide_eq_false_iff_not, Bool.and_eq_true, Bool.or_eq_true, Bool.not_eq_true', Bool.and_eq_false_iff, Bool.or_eq_false_iff, Bool.not_eq_false', Bool.not_eq_true, Bool.not_eq_false, Bool.true_eq_false, Bool.false_eq_true, Int.not_lt, Int.not_le, not_and, not_or, ne_eq] at h0)
  · rw [show cleanR s = [] from if_neg h0]
    refine r_seq ?_
    refine r_region (id := 3) ?_
    refine o_give (g_move (evv rfl)) rfl rfl ?_
    refine o_give (g_assign (evv rfl)) rfl rfl ?_
    refine o_give (g_assign (evv rfl)) rfl rfl ?_
    refine o_nil ?_
    refine c_code ?_
    first | refine r_ret (rs := [.tmp 2, .tmp 3]) rfl rfl _ (Ent.drop) ?_ | refine c_end (rs := [.tmp 2, .tmp 3]) rfl rfl _ (Ent.drop) ?_
    (refine ⟨?_, ?_⟩ <;> first | rfl | trivial | omega)
  · have h0 : (parseR s).2 = 0 := by first | exact h0 | exact Decidable.of_not_not h0
    have hb := bulk_ok (parse_ok h0)
    rw [show cleanR s = _ from if_pos h0, h0]
    refine r_skip ?_
    refine c_code ?_
    refine r_seq ?_
    refine r_region (id := 4) ?_
    refine o_give (g_move (evv rfl)) rfl rfl ?_
    (refine o_call rfl _ (Ent.refl _) (Show_c _ _ _ (by first | assumption | omega)) rfl ?_; rintro _ _ ⟨rfl, hLz⟩; obtain rfl := hLz.symm; clear hLz)
    refine o_give (g_assign (evv rfl)) rfl rfl ?_
    refine o_give (g_assign (evv rfl)) rfl rfl ?_
    refine o_nil ?_
    refine c_code ?_
    first | refine r_ret (rs := [.tmp 2, .tmp 3]) rfl rfl _ (Ent.drop) ?_ | refine c_end (rs := [.tmp 2, .tmp 3]) rfl rfl _ (Ent.drop) ?_
    (refine ⟨?_, ?_⟩ <;> first | rfl | trivial | omega)
end VK
