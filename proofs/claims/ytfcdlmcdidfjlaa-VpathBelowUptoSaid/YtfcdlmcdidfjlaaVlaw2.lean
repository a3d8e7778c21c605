/- VpathBack, walked: what is parsed is shown and parsed as the same. Conditions: texts of a machine's size. -/
import Derived.Test.YtfcdlmcdidfjlaaVlaw
namespace VK
open Go Go.Proofs
set_option linter.unusedSimpArgs false
set_option linter.unusedVariables false
set_option maxRecDepth 100000
set_option maxHeartbeats 40000000
@[simp] theorem dots_zero : dotsR 0 = [] := rfl
theorem dots_snoc (k : Nat) : dotsR (k + 1) = dotsR k ++ [46, 47] := by simp [dotsR, List.replicate_succ']
theorem dots_len (k : Nat) : (dotsR k).length = 2 * k := by
  induction k with
  | zero => rfl
  | succ k ih => rw [dots_succ, List.length_cons, List.length_cons, ih]; omega
theorem wide_step {k : Nat} {l : List (List UInt8)} {i : Nat} (h : i < l.length) : wideR k (l.take (i + 1)) = wideR k (l.take i) ++ [47] ++ dotsR k ++ l.getD i default ++ [47] := by
  have e : l.getD i default = l[i] := by simp [List.getD_eq_getElem?_getD, h]
  rw [List.take_succ_eq_append_getElem h, e]
  unfold wideR
  rw [List.map_append, List.flatten_append]
  simp
theorem wide_len {k : Nat} (hk : k ≤ 3) : ∀ (l : List (List UInt8)), (∀ s ∈ l, nameP s) → (wideR k l).length ≤ 24 * l.length
  | [], _ => by simp [wideR]
  | n :: l, h => by
    have h1 := (h n (by simp)).2.1
    have := wide_len hk l (fun s hs => h s (by simp [hs]))
    have := dots_len k
    rw [wide_cons]
    simp only [List.length_cons, List.length_append]
    omega
theorem clean_show {l : List (List UInt8)} (h : checkN l = 0) : cleanR (showR l) = showR l := by
  unfold cleanR
  rw [show_parse h]
  rfl
theorem show_len {l : List (List UInt8)} (h : checkN l = 0) : (showR l).length ≤ 136 := by
  obtain ⟨h1, h2⟩ := check_ok h
  have := flat_len l h1
  by_cases hl : l = []
  · subst hl; decide
  · rw [show_ne hl]; omega
theorem VpathBack_c (W : World) (s : List UInt8) (more : Int) (hs : s.length ≤ 1048576) (hm : inR .u8 more) : Fn Try.prog 4 [str s, .int .u8 more] [base W] fun w L' => w = .bool true ∧ L' = [base W] := by
  have hs2 : s.length ≤ 9223372036854775806 := by omega
  simp only [inR] at hm
  refine fn_intro Try.func4 rfl Try.ntmps4 rfl (fun W0 => ?_)
  simp only [argE]
  refine r_seq ?_
  refine r_region (id := 0) ?_
  refine o_give (g_assign (evv rfl)) rfl rfl ?_
  refine o_nil ?_
  refine c_code ?_
  refine r_seq ?_
  refine r_seq ?_
  refine r_region (id := 1) ?_
  (refine o_call rfl _ (Ent.refl _) (awake_c _) rfl ?_; rintro _ _ ⟨rfl, hLz⟩; obtain rfl := hLz.symm; clear hLz)
  refine o_give (g_not (evv rfl)) rfl rfl ?_
  refine o_nil ?_
  refine c_code ?_
  refine r_cond_false rfl ?_
  refine r_skip ?_
  refine c_code ?_
  refine r_seq ?_
  refine r_region (id := 3) ?_
  refine o_give (g_move (evv rfl)) rfl rfl ?_
  (refine o_call rfl _ (Ent.refl _) (Parse_c _ _ (by first | assumption | omega)) rfl ?_; rintro _ _ ⟨v, rfl, rfl⟩)
  refine o_give (g_move (evv rfl)) rfl rfl ?_
  refine o_give (g_extract (evv rfl) (by rfl)) rfl rfl ?_
  refine o_give (g_extract (evv rfl) (by rfl)) rfl rfl ?_
  refine o_give (g_assign (evv rfl)) rfl rfl ?_
  refine o_give (g_assign (evv rfl)) rfl rfl ?_
  refine o_nil ?_
  refine c_code ?_
  refine r_seq ?_
  refine r_seq ?_
  refine r_region (id := 4) ?_
  refine o_give (g_move (evv rfl)) rfl rfl ?_
  refine o_give (g_bin (evv rfl) (evv rfl) (by rfl)) rfl rfl ?_
  refine o_nil ?_
  refine c_code ?_
  refine r_cond rfl (fun h0 => ?_) (fun h0 => ?_) <;> (try simp only [decide_eq_true_eq, decide_eq_false_iff_not, Bool.and_eq_true, Bool.or_eq_true, Bool.not_eq_true', Bool.and_eq_false_iff, Bool.or_eq_false_iff, Bool.not_eq_false', Bool.not_eq_true, Bool.not_eq_false, Bool.true_eq_false, Bool.false_eq_true, Int.not_lt, Int.not_le, not_and, not_or, ne_eq] at h0)
  · rw [parse_bad h0]
    refine r_seq ?_
    refine r_region (id := 5) ?_
    refine o_give (g_move (evv rfl)) rfl rfl ?_
    refine o_give (g_lenM (evv rfl)) rfl rfl ?_
    refine o_give (g_bin (evv rfl) (evv rfl) (by rfl)) rfl rfl ?_
    refine o_give (g_assign (evv rfl)) rfl rfl ?_
    refine o_nil ?_
    refine c_code ?_
    first | refine r_ret (rs := [.tmp 4]) rfl rfl _ ((Lay.ent (L' := [base W]))) ?_ | refine c_end (rs := [.tmp 4]) rfl rfl _ ((Lay.ent (L' := [base W]))) ?_
    (refine ⟨?_, ?_⟩ <;> first | rfl | trivial | omega)
  · have h0 : (parseR s).2 = 0 := by first | exact h0 | exact Decidable.of_not_not h0
    have hc := parse_ok h0
    have hb := bulk_ok hc
    rw [h0]
    generalize (parseR s).1 = l at *
    obtain ⟨hn, hl8⟩ := check_ok hc
    have hsp := show_parse hc
    have hcl := clean_show hc
    have hsl := show_len hc
    have hsn : ∀ s ∈ l, s.length ≤ 9223372036854775807 := fun s hs => by have := (hn s hs).2.1; omega
    refine r_skip ?_
    refine c_code ?_
    refine r_seq ?_
    refine r_region (id := 6) ?_
    refine o_give (g_move (evv rfl)) rfl rfl ?_
    (refine o_call rfl _ (Ent.refl _) (Show_c _ _ _ (by first | assumption | omega)) rfl ?_; rintro _ _ ⟨rfl, hLz⟩; obtain rfl := hLz.symm; clear hLz)
    refine o_give (g_assign (evv rfl)) rfl rfl ?_
    refine o_nil ?_
    refine c_code ?_
    refine r_seq ?_
    generalize hT : showR l = t at *
    have ht2 : t.length ≤ 9223372036854775806 := by omega
    refine r_region (id := 7) ?_
    refine o_give (g_move (evv rfl)) rfl rfl ?_
    (refine o_call rfl _ (Ent.refl _) (Parse_c _ _ (by first | assumption | omega)) rfl ?_; rintro _ _ ⟨v, rfl, rfl⟩)
    refine o_give (g_move (evv rfl)) rfl rfl ?_
    refine o_give (g_extract (evv rfl) (by rfl)) rfl rfl ?_
    refine o_give (g_extract (evv rfl) (by rfl)) rfl rfl ?_
    refine o_give (g_assign (evv rfl)) rfl rfl ?_
    refine o_give (g_assign (evv rfl)) rfl rfl ?_
    refine o_nil ?_
    refine c_code ?_
    refine r_seq ?_
    refine r_region (id := 8) ?_
    refine o_give (g_move (evv rfl)) rfl rfl ?_
    (refine o_call rfl _ (Ent.refl _) (Clean_c _ _ (by first | assumption | omega)) rfl ?_; rintro _ _ ⟨rfl, hLz⟩; obtain rfl := hLz.symm; clear hLz)
    refine o_give (g_move (evv rfl)) rfl rfl ?_
    refine o_give (g_extract (evv rfl) (by rfl)) rfl rfl ?_
    refine o_give (g_extract (evv rfl) (by rfl)) rfl rfl ?_
    refine o_give (g_assign (evv rfl)) rfl rfl ?_
    refine o_give (g_assign (evv rfl)) rfl rfl ?_
    refine o_nil ?_
    refine c_code ?_
    refine r_seq ?_
    refine r_seq ?_
    rw [hsp, hcl]
    dsimp only
    refine r_region (id := 9) ?_
    refine o_give (g_move (evv rfl)) rfl rfl ?_
    refine o_give (g_bin (evv rfl) (evv rfl) (by rfl)) rfl rfl ?_
    refine o_give (g_move (evv rfl)) rfl rfl ?_
    refine o_gyes rfl ?_
    refine o_give (g_move (evv rfl)) rfl rfl ?_
    refine o_gyes rfl ?_
    refine o_give (g_bin (evv rfl) (evv rfl) (by rfl)) rfl rfl ?_
    refine o_give (g_pick (b := false) (evv rfl) (fun h => by cases h) (fun _ => (evv rfl))) rfl rfl ?_
    refine o_give (g_move (evv rfl)) rfl rfl ?_
    refine o_gyes rfl ?_
    refine o_give (g_move (evv rfl)) rfl rfl ?_
    refine o_gyes rfl ?_
    refine o_give (g_move (evv rfl)) rfl rfl ?_
    refine o_gyes rfl ?_
    refine o_give (g_binS (evv rfl) (evv rfl) (by rfl)) rfl rfl ?_
    refine o_give (g_pick (b := false) (evv rfl) (fun h => by cases h) (fun _ => (evv rfl))) rfl rfl ?_
    refine o_give (g_move (evv rfl)) rfl rfl ?_
    refine o_lazy rfl (fun hg => g_move (by first | exact evv rfl | exact evg rfl (by rw [hp]; rfl) | exact evg rfl hp | exact evg rfl hg | exact evg rfl (by first | (simp_all; done) | (simp [*]; done) | fail) | fail)) rfl rfl ?_
    refine o_lazy rfl (fun hg => g_move (by first | exact evv rfl | exact evg rfl (by rw [hp]; rfl) | exact evg rfl hp | exact evg rfl hg | exact evg rfl (by first | (simp_all; done) | (simp [*]; done) | fail) | fail)) rfl rfl ?_
    rename_i v0 v
    simp only [decide_true, Bool.not_true, Bool.not_false]
    refine o_sure (t := 53) rfl rfl ?_
    refine o_sure (t := 54) rfl rfl ?_
    refine o_gyes rfl ?_
    (refine o_call rfl _ (Ent.refl _) (Texts_c _ _ _ _ _) rfl ?_; rintro _ _ ⟨rfl, hLz⟩; obtain rfl := hLz.symm; clear hLz)
    refine o_gyes rfl ?_
    refine o_give (g_not (evv rfl)) rfl rfl ?_
    refine o_give (g_pick (b := false) (evv rfl) (fun h => by cases h) (fun _ => (evv rfl))) rfl rfl ?_
    refine o_give (g_move (evv rfl)) rfl rfl ?_
    refine o_lazy rfl (fun hg => g_move (by first | exact evv rfl | exact evg rfl (by rw [hp]; rfl) | exact evg rfl hp | exact evg rfl hg | exact evg rfl (by first | (simp_all; done) | (simp [*]; done) | fail) | fail)) rfl rfl ?_
    simp only [decide_true, Bool.not_true, Bool.not_false, Bool.or_self]
    refine o_sure (t := 59) rfl rfl ?_
    refine o_gyes rfl ?_
    (refine o_call rfl _ (Ent.refl _) (Check_n _ _ _ (by first | assumption | (simp only [List.mem_singleton, forall_eq]; first | assumption | omega))) rfl ?_; rintro _ _ ⟨rfl, hLz⟩; obtain rfl := hLz.symm; clear hLz)
    refine o_gyes rfl ?_
    refine o_give (g_bin (evv rfl) (evv rfl) (by rfl)) rfl rfl ?_
    refine o_give (g_pick (b := false) (evv rfl) (fun h => by cases h) (fun _ => (evv rfl))) rfl rfl ?_
    refine o_nil ?_
    refine c_code ?_
    rw [hc]
    refine r_cond_false rfl ?_
    refine r_skip ?_
    refine c_code ?_
    refine r_seq ?_
    refine r_region (id := 11) ?_
    refine o_give (g_assign (evv rfl)) rfl rfl ?_
    refine o_nil ?_
    refine c_code ?_
    refine r_seq ?_
    refine r_seq ?_
    refine r_region (id := 12) ?_
    refine o_give (g_assign (evv rfl)) rfl rfl ?_
    refine o_nil ?_
    refine c_code ?_
    refine r_block ?_
    obtain ⟨k, hk⟩ : ∃ k : Nat, (k : Int) = more % 4 ∧ k ≤ 3 := ⟨(more % 4).toNat, by omega, by omega⟩
    obtain ⟨hk, hk3⟩ := hk
    have hwl := wide_len hk3
    have hdl := dots_len
    refine r_loopE (σ := Nat) (fun i => i ≤ l.length) (fun i => l.length - i) (fun i => [(12, .v (str (wideR k (l.take i)))), (13, .v (.int .i64 i))]) [1, 5, 7] (fun i => sl v (mrow str 9 l) :: sl v0 (mrow str 9 l) :: [base W]) 0 (by dsimp only [pickE, pick1, lk2, Nat.reduceBEq, Nat.reduceAdd, Nat.zero_add, cond_true, cond_false] <;> exact rfl) ?_ (by repeat (first | exact trivial | refine ⟨rfl, ?_⟩ | refine envsub_v rfl (by first | rfl | (refine int_eq ?_; first | omega | (simp; omega) | (simp; done)) | (refine bool_eq ?_; first | (simp [*]; done) | (simp; done)) | (refine str_eq ?_; simp; done) | (refine ptr_eq ?_; omega) | fail) ?_)) ?_ ?_
    · exact Nat.zero_le _
    · exact Ent.refl _
    rintro i hi; (try dsimp only at hi); dsimp only [List.cons_append, List.nil_append]
    have hw1 := hwl (l.take i) (fun s hs => hn s (List.mem_of_mem_take hs))
    rw [List.length_take] at hw1
    refine r_seq ?_
    refine r_seq ?_
    refine r_region (id := 13) ?_
    refine o_give (g_move (evv rfl)) rfl rfl ?_
    refine o_give (g_move (evv rfl)) rfl rfl ?_
    refine o_give (g_lenM (evv rfl)) rfl rfl ?_
    refine o_give (g_bin (evv rfl) (evv rfl) (by rfl)) rfl rfl ?_
    refine o_nil ?_
    refine c_code ?_
    refine r_cond rfl (fun hc2 => ?_) (fun hc2 => ?_) <;> (try simp only [decide_eq_true_eq, decide_eq_false_iff_not, Bool.and_eq_true, Bool.or_eq_true, Bool.not_eq_true', Bool.and_eq_false_iff, Bool.or_eq_false_iff, Bool.not_eq_false', Bool.not_eq_true, Bool.not_eq_false, Bool.true_eq_false, Bool.false_eq_true, Int.not_lt, Int.not_le, not_and, not_or, ne_eq] at hc2)
    · have h1 : i < l.length := by omega
      have hn1 := hn (l.getD i default) (by simp [h1])
      have hn2 := hn1.2.1
      refine r_skip ?_
      refine c_code ?_
      refine r_seq ?_
      refine r_block ?_
      refine r_seq ?_
      refine r_region (id := 15) ?_
      refine o_give (g_move (evv rfl)) rfl rfl ?_
      refine o_give (g_cat (evv rfl) (evv rfl) (by (try simp only [bsOf, List.length_append, List.length_cons, List.length_nil, List.length_take, List.length_drop]); omega)) rfl rfl ?_
      refine o_give (g_assign (evv rfl)) rfl rfl ?_
      refine o_nil ?_
      refine c_code ?_
      refine r_seq ?_
      refine r_seq ?_
      refine r_region (id := 16) ?_
      refine o_give (g_assign (evv rfl)) rfl rfl ?_
      refine o_nil ?_
      refine c_code ?_
      refine r_block ?_
      refine r_loopE (σ := Nat) (fun j => j ≤ k) (fun j => k - j) (fun j => [(12, .v (str (wideR k (l.take i) ++ [47] ++ dotsR j))), (14, .v (.int .i64 j))]) [1, 5, 7, 13] (fun j => sl v (mrow str 9 l) :: sl v0 (mrow str 9 l) :: [base W]) 0 (by dsimp only [pickE, pick1, lk2, Nat.reduceBEq, Nat.reduceAdd, Nat.zero_add, cond_true, cond_false] <;> exact rfl) ?_ (by repeat (first | exact trivial | refine ⟨rfl, ?_⟩ | refine envsub_v rfl (by first | rfl | (refine int_eq ?_; first | omega | (simp; omega) | (simp; done)) | (refine bool_eq ?_; first | (simp [*]; done) | (simp; done)) | (refine str_eq ?_; simp; done) | (refine ptr_eq ?_; omega) | fail) ?_)) ?_ ?_
      · exact Nat.zero_le _
      · exact Ent.refl _
      rintro j hj; (try dsimp only at hj); dsimp only [List.cons_append, List.nil_append]
      have hd1 := hdl j
      refine r_seq ?_
      refine r_seq ?_
      refine r_region (id := 17) ?_
      refine o_give (g_move (evv rfl)) rfl rfl ?_
      refine o_give (g_move (evv rfl)) rfl rfl ?_
      refine o_give (g_remP (evv rfl) (evv rfl) (by omega) (by omega)) rfl rfl ?_
      refine o_giveN (g_conv TyU.h TyU.h (evv rfl)) (by simp only [inR]; omega) rfl ?_
      refine o_give (g_bin (evv rfl) (evv rfl) (by rfl)) rfl rfl ?_
      refine o_nil ?_
      refine c_code ?_
      refine r_cond rfl (fun hc3 => ?_) (fun hc3 => ?_) <;> (try simp only [decide_eq_true_eq, decide_eq_false_iff_not, Bool.and_eq_true, Bool.or_eq_true, Bool.not_eq_true', Bool.and_eq_false_iff, Bool.or_eq_false_iff, Bool.not_eq_false', Bool.not_eq_true, Bool.not_eq_false, Bool.true_eq_false, Bool.false_eq_true, Int.not_lt, Int.not_le, not_and, not_or, ne_eq] at hc3)
      · have e : wideR k (l.take i) ++ [47] ++ dotsR j ++ [46, 47] = wideR k (l.take i) ++ [47] ++ dotsR (j + 1) := by rw [dots_snoc, List.append_assoc (_ ++ _)]
        refine r_skip ?_
        refine c_code ?_
        refine r_seq ?_
        refine r_block ?_
        refine r_region (id := 19) ?_
        refine o_give (g_move (evv rfl)) rfl rfl ?_
        refine o_give (g_cat (evv rfl) (evv rfl) (by (try simp only [bsOf, List.length_append, List.length_cons, List.length_nil, List.length_take, List.length_drop]); omega)) rfl rfl ?_
        refine o_give (g_assign (evv rfl)) rfl rfl ?_
        refine o_nil ?_
        refine c_blk ?_
        refine c_code ?_
        refine r_region (id := 18) ?_
        refine o_give (g_move (evv rfl)) rfl rfl ?_
        refine o_giveN (g_bin (evv rfl) (evv rfl) (by rfl)) (by simp only [inR]; omega) rfl ?_
        refine o_give (g_assign (evv rfl)) rfl rfl ?_
        refine o_nil ?_
        rw [e]
        refine c_loop (j + 1) ?_ ?_ (by repeat (first | exact trivial | refine ⟨rfl, ?_⟩ | refine envsub_v rfl (by first | rfl | (refine int_eq ?_; first | omega | (simp; omega) | (simp; done)) | (refine bool_eq ?_; first | (simp [*]; done) | (simp; done)) | (refine str_eq ?_; simp; done) | (refine ptr_eq ?_; omega) | fail) ?_)) ?_ <;> (try dsimp only)
        · omega
        · omega
        · exact Ent.refl _
      · have : j = k := by omega
        subst this
        refine r_exit rfl ?_
        refine c_code ?_
        refine r_region (id := 20) ?_
        refine o_give (g_move (evv rfl)) rfl rfl ?_
        refine o_give (g_move (evv rfl)) rfl rfl ?_
        refine o_give (g_move (evv rfl)) rfl rfl ?_
        refine o_give (g_idxMN (evv rfl) (evv rfl) (by rfl) (by first | omega | (have := of_decide_eq_true hg; omega) | (simp at hg; omega) | (simp only [List.length_set, List.length_append, List.length_cons, List.length_nil, List.length_map, List.length_take, List.length_drop, List.length_replicate]; omega))) rfl rfl ?_
        refine o_give (g_loadM (evv rfl) (by rfl) (by first | omega | (have := of_decide_eq_true hg; omega) | (simp at hg; omega) | (simp only [List.length_set, List.length_append, List.length_cons, List.length_nil, List.length_map, List.length_take, List.length_drop, List.length_replicate]; omega))) rfl rfl ?_
        refine o_give (g_cat (evv rfl) (evv rfl) (by (try simp only [bsOf, List.length_append, List.length_cons, List.length_nil, List.length_take, List.length_drop]); omega)) rfl rfl ?_
        refine o_give (g_cat (evv rfl) (evv rfl) (by (try simp only [bsOf, List.length_append, List.length_cons, List.length_nil, List.length_take, List.length_drop]); omega)) rfl rfl ?_
        refine o_give (g_assign (evv rfl)) rfl rfl ?_
        refine o_nil ?_
        refine c_blk ?_
        refine c_code ?_
        refine r_region (id := 14) ?_
        refine o_give (g_move (evv rfl)) rfl rfl ?_
        refine o_giveN (g_bin (evv rfl) (evv rfl) (by rfl)) (by simp only [inR]; omega) rfl ?_
        refine o_give (g_assign (evv rfl)) rfl rfl ?_
        refine o_nil ?_
        rw [← wide_step h1]
        refine c_loop (i + 1) ?_ ?_ (by repeat (first | exact trivial | refine ⟨rfl, ?_⟩ | refine envsub_v rfl (by first | rfl | (refine int_eq ?_; first | omega | (simp; omega) | (simp; done)) | (refine bool_eq ?_; first | (simp [*]; done) | (simp; done)) | (refine str_eq ?_; simp; done) | (refine ptr_eq ?_; omega) | fail) ?_)) ?_ <;> (try dsimp only)
        · omega
        · omega
        · exact Ent.refl _
    · rw [List.take_of_length_le (by omega)] at hw1 ⊢
      refine r_exit rfl ?_
      refine c_code ?_
      refine r_seq ?_
      refine r_seq ?_
      refine r_region (id := 21) ?_
      refine o_give (g_move (evv rfl)) rfl rfl ?_
      refine o_give (g_lenM (evv rfl)) rfl rfl ?_
      refine o_give (g_bin (evv rfl) (evv rfl) (by rfl)) rfl rfl ?_
      refine o_nil ?_
      refine c_code ?_
      refine r_cond rfl (fun hl0 => ?_) (fun hl0 => ?_) <;> (try simp only [decide_eq_true_eq, decide_eq_false_iff_not, Bool.and_eq_true, Bool.or_eq_true, Bool.not_eq_true', Bool.and_eq_false_iff, Bool.or_eq_false_iff, Bool.not_eq_false', Bool.not_eq_true, Bool.not_eq_false, Bool.true_eq_false, Bool.false_eq_true, Int.not_lt, Int.not_le, not_and, not_or, ne_eq] at hl0)
      · have : l = [] := List.eq_nil_of_length_eq_zero (by omega)
        subst this
        have e1 : cleanR [47, 46, 46, 47, 46, 47] = [47] := by decide
        have e2 : (parseR [47, 46, 46, 47, 46, 47]).2 = 0 := by decide
        have e3 : t = [47] := hT.symm
        have e4 : ([47, 46, 46, 47, 46, 47] : List UInt8).length ≤ 9223372036854775806 := by decide
        subst e3
        refine r_region (id := 22) ?_
        refine o_give (g_assign (evv rfl)) rfl rfl ?_
        refine o_nil ?_
        refine c_code ?_
        refine r_seq ?_
        refine r_seq ?_
        refine r_region (id := 23) ?_
        refine o_give (g_move (evv rfl)) rfl rfl ?_
        refine o_give (g_lenS TyU.h (evv rfl)) rfl rfl ?_
        refine o_give (g_bin (evv rfl) (evv rfl) (by rfl)) rfl rfl ?_
        refine o_nil ?_
        refine c_code ?_
        refine r_cond_false rfl ?_
        refine r_skip ?_
        refine c_code ?_
        refine r_seq ?_
        refine r_region (id := 25) ?_
        refine o_give (g_move (evv rfl)) rfl rfl ?_
        (refine o_call rfl _ (Ent.refl _) (Clean_c _ _ (by first | assumption | omega)) rfl ?_; rintro _ _ ⟨rfl, hLz⟩; obtain rfl := hLz.symm; clear hLz)
        refine o_give (g_move (evv rfl)) rfl rfl ?_
        refine o_give (g_extract (evv rfl) (by rfl)) rfl rfl ?_
        refine o_give (g_extract (evv rfl) (by rfl)) rfl rfl ?_
        refine o_give (g_assign (evv rfl)) rfl rfl ?_
        refine o_give (g_assign (evv rfl)) rfl rfl ?_
        refine o_nil ?_
        refine c_code ?_
        refine r_seq ?_
        refine r_region (id := 26) ?_
        refine o_give (g_move (evv rfl)) rfl rfl ?_
        refine o_give (g_bin (evv rfl) (evv rfl) (by rfl)) rfl rfl ?_
        refine o_give (g_move (evv rfl)) rfl rfl ?_
        refine o_gyes rfl ?_
        refine o_give (g_move (evv rfl)) rfl rfl ?_
        refine o_gyes rfl ?_
        refine o_give (g_move (evv rfl)) rfl rfl ?_
        refine o_gyes rfl ?_
        refine o_give (g_binS (evv rfl) (evv rfl) (by rfl)) rfl rfl ?_
        refine o_give (g_pick (b := true) (evv rfl) (fun _ => (evv rfl)) (fun h => by cases h)) rfl rfl ?_
        refine o_give (g_assign (evv rfl)) rfl rfl ?_
        refine o_nil ?_
        refine c_code ?_
        rw [e1, e2]
        skip
        first | refine r_ret (rs := [.tmp 4]) rfl rfl _ ((Lay.ent (L' := [base W]))) ?_ | refine c_end (rs := [.tmp 4]) rfl rfl _ ((Lay.ent (L' := [base W]))) ?_
        (refine ⟨?_, ?_⟩ <;> first | rfl | trivial | omega)
      · have hne : l ≠ [] := fun h => hl0 (by rw [h]; rfl)
        refine r_skip ?_
        refine c_code ?_
        refine r_seq ?_
        refine r_seq ?_
        refine r_region (id := 23) ?_
        refine o_give (g_move (evv rfl)) rfl rfl ?_
        refine o_give (g_lenS TyU.h (evv rfl)) rfl rfl ?_
        refine o_give (g_bin (evv rfl) (evv rfl) (by rfl)) rfl rfl ?_
        refine o_nil ?_
        refine c_code ?_
        refine r_cond rfl (fun hbig => ?_) (fun hbig => ?_) <;> (try simp only [decide_eq_true_eq, decide_eq_false_iff_not, Bool.and_eq_true, Bool.or_eq_true, Bool.not_eq_true', Bool.and_eq_false_iff, Bool.or_eq_false_iff, Bool.not_eq_false', Bool.not_eq_true, Bool.not_eq_false, Bool.true_eq_false, Bool.false_eq_true, Int.not_lt, Int.not_le, not_and, not_or, ne_eq] at hbig)
        · refine r_seq ?_
          refine r_region (id := 24) ?_
          refine o_give (g_assign (evv rfl)) rfl rfl ?_
          refine o_nil ?_
          refine c_code ?_
          first | refine r_ret (rs := [.tmp 4]) rfl rfl _ ((Lay.ent (L' := [base W]))) ?_ | refine c_end (rs := [.tmp 4]) rfl rfl _ ((Lay.ent (L' := [base W]))) ?_
          (refine ⟨?_, ?_⟩ <;> first | rfl | trivial | omega)
        · have hp := wide_parse (k := k) hc hne (by omega)
          have hcw : cleanR (wideR k l) = t := by
            unfold cleanR
            rw [hp, ← hT]
            rfl
          have hlw : (wideR k l).length ≤ 9223372036854775806 := by omega
          refine r_skip ?_
          refine c_code ?_
          refine r_seq ?_
          refine r_region (id := 25) ?_
          refine o_give (g_move (evv rfl)) rfl rfl ?_
          (refine o_call rfl _ (Ent.refl _) (Clean_c _ _ (by first | assumption | omega)) rfl ?_; rintro _ _ ⟨rfl, hLz⟩; obtain rfl := hLz.symm; clear hLz)
          refine o_give (g_move (evv rfl)) rfl rfl ?_
          refine o_give (g_extract (evv rfl) (by rfl)) rfl rfl ?_
          refine o_give (g_extract (evv rfl) (by rfl)) rfl rfl ?_
          refine o_give (g_assign (evv rfl)) rfl rfl ?_
          refine o_give (g_assign (evv rfl)) rfl rfl ?_
          refine o_nil ?_
          refine c_code ?_
          refine r_seq ?_
          rw [hcw, hp]
          refine r_region (id := 26) ?_
          refine o_give (g_move (evv rfl)) rfl rfl ?_
          refine o_give (g_bin (evv rfl) (evv rfl) (by rfl)) rfl rfl ?_
          refine o_give (g_move (evv rfl)) rfl rfl ?_
          refine o_gyes rfl ?_
          refine o_give (g_move (evv rfl)) rfl rfl ?_
          refine o_gyes rfl ?_
          refine o_give (g_move (evv rfl)) rfl rfl ?_
          refine o_gyes rfl ?_
          refine o_give (g_binS (evv rfl) (evv rfl) (by rfl)) rfl rfl ?_
          refine o_give (g_pick (b := true) (evv rfl) (fun _ => (evv rfl)) (fun h => by cases h)) rfl rfl ?_
          refine o_give (g_assign (evv rfl)) rfl rfl ?_
          refine o_nil ?_
          refine c_code ?_
          first | refine r_ret (rs := [.tmp 4]) rfl rfl _ ((Lay.ent (L' := [base W]))) ?_ | refine c_end (rs := [.tmp 4]) rfl rfl _ ((Lay.ent (L' := [base W]))) ?_
          refine ⟨bool_eq ?_, rfl⟩
          simp
end VK
