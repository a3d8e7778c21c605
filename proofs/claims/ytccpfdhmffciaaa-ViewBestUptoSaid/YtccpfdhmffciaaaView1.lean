/- Numbers compared, votes compared, the least of votes, a vote's place. Conditions: none. -/
import Derived.Test.YtccpfdhmffciaaaT
import Derived.Test.YtccpfdhmffciaaaV2
namespace VK
open Go Go.Proofs
set_option linter.unusedSimpArgs false
set_option linter.unusedVariables false
set_option maxRecDepth 100000
set_option maxHeartbeats 40000000
/-- api.Vote -/
structure VoteS where
  replica : Int
  normal : Int
  last : Int
  deriving DecidableEq, Inhabited
def voteSC (a : VoteS) : List Value := [.int .i64 a.replica, .int .i64 a.normal, .int .i64 a.last]
theorem voteSC_len (a : VoteS) : (voteSC a).length = 3 := rfl
instance (L : List Atom) (a : VoteS) : AllOne L (voteSC a) := ⟨fun _ _ _ u hu => by
  simp only [voteSC, List.mem_cons, List.mem_append, List.not_mem_nil, or_false] at hu
  rcases hu with rfl | rfl | rfl <;> rfl⟩
instance : LenC voteSC 3 := ⟨fun _ => rfl⟩
instance : TyC Try.prog 31 voteSC := ⟨trivial⟩
def VoteS.ok (a : VoteS) : Prop := inR .i64 a.replica ∧ inR .i64 a.normal ∧ inR .i64 a.last
def VoteS.wt (a : VoteS) : Nat := 1 + 1 + 1 + 1
instance (a : VoteS) (v : Int) : SetF voteSC a 0 (.int .i64 v) { a with replica := v } := ⟨rfl⟩
instance (a : VoteS) (v : Int) : SetF voteSC a 1 (.int .i64 v) { a with normal := v } := ⟨rfl⟩
instance (a : VoteS) (v : Int) : SetF voteSC a 2 (.int .i64 v) { a with last := v } := ⟨rfl⟩
instance (x0 : Int) (x1 : Int) (x2 : Int) : OfC voteSC [.int .i64 x0, .int .i64 x1, .int .i64 x2] ⟨x0, x1, x2⟩ := ⟨by rfl⟩
theorem voteSC_ext (a b : VoteS) : (a.replica = b.replica ∧ a.normal = b.normal ∧ a.last = b.last ∧ True) ↔ a = b := by
  cases a; cases b; simp
instance : EqS Try.prog 31 voteSC := ⟨fun d a b w => by
  have h := run_equalIn_struct (P := Try.prog) w (d + 7) 31 (voteSC a).toArray (voteSC b).toArray (by kernel_rfl) (by kernel_rfl)
  rw [show (agg (voteSC a)) = .agg (voteSC a).toArray from rfl, show (agg (voteSC b)) = .agg (voteSC b).toArray from rfl, h, show (Try.prog.fieldsOf 31).toList = [{ name := "Replica", type := 3, offset := 0, embedded := false, tag := "", pkgPath := "", byteOffset := 0 }, { name := "Normal", type := 2, offset := 1, embedded := false, tag := "", pkgPath := "", byteOffset := 8 }, { name := "Last", type := 2, offset := 2, embedded := false, tag := "", pkgPath := "", byteOffset := 16 }] from by kernel_rfl]
  refine Eq.trans (b := .ok (decide (a.replica = b.replica ∧ a.normal = b.normal ∧ a.last = b.last ∧ True)) w) ?_ (by congr 1; exact decide_eq_decide.2 (voteSC_ext a b))
  refine eqF_cons (by decide) (part_one rfl rfl) (part_one rfl rfl) (eq_int _ _ _ w) ?_
  refine eqF_cons (by decide) (part_one rfl rfl) (part_one rfl rfl) (eq_int _ _ _ w) ?_
  refine eqF_cons (by decide) (part_one rfl rfl) (part_one rfl rfl) (eq_int _ _ _ w) ?_
  exact eqF_nil'⟩
def cmpI (a b : Int) : Int := if a < b then -1 else if b < a then 1 else 0
theorem cmpI_range (a b : Int) : -1 ≤ cmpI a b ∧ cmpI a b ≤ 1 := by unfold cmpI; split <;> (try split) <;> omega
theorem cmpA_nan (L : List Atom) (x : Int) : Fn Try.prog 32 [.int .i64 x] L fun w L' => w = .bool false ∧ L' = L := by
  refine fn_intro Try.func32 rfl Try.ntmps32 rfl (fun W0 => ?_)
  simp only [argE]
  refine r_seq ?_
  refine r_region (id := 0) ?_
  refine o_give (g_assign (evv rfl)) rfl rfl ?_
  refine o_nil ?_
  refine c_code ?_
  refine r_seq ?_
  refine r_region (id := 1) ?_
  refine o_give (g_move (evv rfl)) rfl rfl ?_
  refine o_give (g_move (evv rfl)) rfl rfl ?_
  refine o_give (g_bin (evv rfl) (evv rfl) (by rfl)) rfl rfl ?_
  refine o_give (g_assign (evv rfl)) rfl rfl ?_
  refine o_nil ?_
  refine c_code ?_
  first | refine r_ret (rs := [.tmp 2]) rfl rfl _ (Ent.refl _) ?_ | refine c_end (rs := [.tmp 2]) rfl rfl _ (Ent.refl _) ?_
  exact ⟨bool_eq (by simp), rfl⟩
theorem cmpA_c (L : List Atom) (x y : Int) : Fn Try.prog 27 [.int .i64 x, .int .i64 y] L fun w L' => w = .int .i64 (cmpI x y) ∧ L' = L := by
  refine fn_intro Try.func27 rfl Try.ntmps27 rfl (fun W0 => ?_)
  simp only [argE]
  refine r_seq ?_
  refine r_region (id := 0) ?_
  refine o_give (g_assign (evv rfl)) rfl rfl ?_
  refine o_nil ?_
  refine c_code ?_
  refine r_seq ?_
  refine r_region (id := 1) ?_
  refine o_give (g_move (evv rfl)) rfl rfl ?_
  (refine o_call rfl _ (Ent.refl _) (cmpA_nan _ _) rfl ?_; rintro _ _ ⟨rfl, hLz⟩; obtain rfl := hLz.symm; clear hLz)
  refine o_give (g_assign (evv rfl)) rfl rfl ?_
  refine o_nil ?_
  refine c_code ?_
  refine r_seq ?_
  refine r_region (id := 2) ?_
  refine o_give (g_move (evv rfl)) rfl rfl ?_
  (refine o_call rfl _ (Ent.refl _) (cmpA_nan _ _) rfl ?_; rintro _ _ ⟨rfl, hLz⟩; obtain rfl := hLz.symm; clear hLz)
  refine o_give (g_assign (evv rfl)) rfl rfl ?_
  refine o_nil ?_
  refine c_code ?_
  refine r_seq ?_
  refine r_seq ?_
  refine r_region (id := 3) ?_
  refine o_give (g_move (evv rfl)) rfl rfl ?_
  refine o_nil ?_
  refine c_code ?_
  refine r_cond_false rfl ?_
  refine r_skip ?_
  refine c_code ?_
  refine r_seq ?_
  refine r_seq ?_
  refine r_region (id := 7) ?_
  refine o_give (g_move (evv rfl)) rfl rfl ?_
  refine o_nil ?_
  refine c_code ?_
  refine r_cond_false rfl ?_
  refine r_skip ?_
  refine c_code ?_
  refine r_seq ?_
  refine r_seq ?_
  refine r_region (id := 9) ?_
  refine o_give (g_move (evv rfl)) rfl rfl ?_
  refine o_give (g_move (evv rfl)) rfl rfl ?_
  refine o_give (g_bin (evv rfl) (evv rfl) (by rfl)) rfl rfl ?_
  refine o_nil ?_
  refine c_code ?_
  refine r_cond rfl (fun h1 => ?_) (fun h1 => ?_) <;> (try simp only [decide_eq_true_eq, decide_eq_false_iff_not, Bool.and_eq_true, Bool.or_eq_true, Bool.not_eq_true', Bool.and_eq_false_iff, Bool.or_eq_false_iff, Bool.not_eq_false', Bool.not_eq_true, Bool.not_eq_false, Bool.true_eq_false, Bool.false_eq_true, Int.not_lt, Int.not_le, not_and, not_or, ne_eq] at h1)
  · rw [cmpI, if_pos h1]
    refine r_seq ?_
    refine r_region (id := 10) ?_
    refine o_give (g_assign (evv rfl)) rfl rfl ?_
    refine o_nil ?_
    refine c_code ?_
    first | refine r_ret (rs := [.tmp 4]) rfl rfl _ (Ent.refl _) ?_ | refine c_end (rs := [.tmp 4]) rfl rfl _ (Ent.refl _) ?_
    exact ⟨rfl, rfl⟩
  · rw [cmpI, if_neg (by omega)]
    refine r_skip ?_
    refine c_code ?_
    refine r_seq ?_
    refine r_seq ?_
    refine r_region (id := 11) ?_
    refine o_give (g_move (evv rfl)) rfl rfl ?_
    refine o_give (g_move (evv rfl)) rfl rfl ?_
    refine o_give (g_bin (evv rfl) (evv rfl) (by rfl)) rfl rfl ?_
    refine o_nil ?_
    refine c_code ?_
    refine r_cond rfl (fun h2 => ?_) (fun h2 => ?_) <;> (try simp only [decide_eq_true_eq, decide_eq_false_iff_not, Bool.and_eq_true, Bool.or_eq_true, Bool.not_eq_true', Bool.and_eq_false_iff, Bool.or_eq_false_iff, Bool.not_eq_false', Bool.not_eq_true, Bool.not_eq_false, Bool.true_eq_false, Bool.false_eq_true, Int.not_lt, Int.not_le, not_and, not_or, ne_eq] at h2)
    · rw [if_pos (by omega)]
      refine r_seq ?_
      refine r_region (id := 12) ?_
      refine o_give (g_assign (evv rfl)) rfl rfl ?_
      refine o_nil ?_
      refine c_code ?_
      first | refine r_ret (rs := [.tmp 4]) rfl rfl _ (Ent.refl _) ?_ | refine c_end (rs := [.tmp 4]) rfl rfl _ (Ent.refl _) ?_
      exact ⟨rfl, rfl⟩
    · rw [if_neg (by omega)]
      refine r_skip ?_
      refine c_code ?_
      refine r_seq ?_
      refine r_region (id := 13) ?_
      refine o_give (g_assign (evv rfl)) rfl rfl ?_
      refine o_nil ?_
      refine c_code ?_
      first | refine r_ret (rs := [.tmp 4]) rfl rfl _ (Ent.refl _) ?_ | refine c_end (rs := [.tmp 4]) rfl rfl _ (Ent.refl _) ?_
      exact ⟨rfl, rfl⟩
theorem cmpB_nan (L : List Atom) (x : Int) : Fn Try.prog 33 [.int .i64 x] L fun w L' => w = .bool false ∧ L' = L := by
  refine fn_intro Try.func33 rfl Try.ntmps33 rfl (fun W0 => ?_)
  simp only [argE]
  refine r_seq ?_
  refine r_region (id := 0) ?_
  refine o_give (g_assign (evv rfl)) rfl rfl ?_
  refine o_nil ?_
  refine c_code ?_
  refine r_seq ?_
  refine r_region (id := 1) ?_
  refine o_give (g_move (evv rfl)) rfl rfl ?_
  refine o_give (g_move (evv rfl)) rfl rfl ?_
  refine o_give (g_bin (evv rfl) (evv rfl) (by rfl)) rfl rfl ?_
  refine o_give (g_assign (evv rfl)) rfl rfl ?_
  refine o_nil ?_
  refine c_code ?_
  first | refine r_ret (rs := [.tmp 2]) rfl rfl _ (Ent.refl _) ?_ | refine c_end (rs := [.tmp 2]) rfl rfl _ (Ent.refl _) ?_
  exact ⟨bool_eq (by simp), rfl⟩
theorem cmpB_c (L : List Atom) (x y : Int) : Fn Try.prog 28 [.int .i64 x, .int .i64 y] L fun w L' => w = .int .i64 (cmpI x y) ∧ L' = L := by
  refine fn_intro Try.func28 rfl Try.ntmps28 rfl (fun W0 => ?_)
  simp only [argE]
  refine r_seq ?_
  refine r_region (id := 0) ?_
  refine o_give (g_assign (evv rfl)) rfl rfl ?_
  refine o_nil ?_
  refine c_code ?_
  refine r_seq ?_
  refine r_region (id := 1) ?_
  refine o_give (g_move (evv rfl)) rfl rfl ?_
  (refine o_call rfl _ (Ent.refl _) (cmpB_nan _ _) rfl ?_; rintro _ _ ⟨rfl, hLz⟩; obtain rfl := hLz.symm; clear hLz)
  refine o_give (g_assign (evv rfl)) rfl rfl ?_
  refine o_nil ?_
  refine c_code ?_
  refine r_seq ?_
  refine r_region (id := 2) ?_
  refine o_give (g_move (evv rfl)) rfl rfl ?_
  (refine o_call rfl _ (Ent.refl _) (cmpB_nan _ _) rfl ?_; rintro _ _ ⟨rfl, hLz⟩; obtain rfl := hLz.symm; clear hLz)
  refine o_give (g_assign (evv rfl)) rfl rfl ?_
  refine o_nil ?_
  refine c_code ?_
  refine r_seq ?_
  refine r_seq ?_
  refine r_region (id := 3) ?_
  refine o_give (g_move (evv rfl)) rfl rfl ?_
  refine o_nil ?_
  refine c_code ?_
  refine r_cond_false rfl ?_
  refine r_skip ?_
  refine c_code ?_
  refine r_seq ?_
  refine r_seq ?_
  refine r_region (id := 7) ?_
  refine o_give (g_move (evv rfl)) rfl rfl ?_
  refine o_nil ?_
  refine c_code ?_
  refine r_cond_false rfl ?_
  refine r_skip ?_
  refine c_code ?_
  refine r_seq ?_
  refine r_seq ?_
  refine r_region (id := 9) ?_
  refine o_give (g_move (evv rfl)) rfl rfl ?_
  refine o_give (g_move (evv rfl)) rfl rfl ?_
  refine o_give (g_bin (evv rfl) (evv rfl) (by rfl)) rfl rfl ?_
  refine o_nil ?_
  refine c_code ?_
  refine r_cond rfl (fun h1 => ?_) (fun h1 => ?_) <;> (try simp only [decide_eq_true_eq, decide_eq_false_iff_not, Bool.and_eq_true, Bool.or_eq_true, Bool.not_eq_true', Bool.and_eq_false_iff, Bool.or_eq_false_iff, Bool.not_eq_false', Bool.not_eq_true, Bool.not_eq_false, Bool.true_eq_false, Bool.false_eq_true, Int.not_lt, Int.not_le, not_and, not_or, ne_eq] at h1)
  · rw [cmpI, if_pos h1]
    refine r_seq ?_
    refine r_region (id := 10) ?_
    refine o_give (g_assign (evv rfl)) rfl rfl ?_
    refine o_nil ?_
    refine c_code ?_
    first | refine r_ret (rs := [.tmp 4]) rfl rfl _ (Ent.refl _) ?_ | refine c_end (rs := [.tmp 4]) rfl rfl _ (Ent.refl _) ?_
    exact ⟨rfl, rfl⟩
  · rw [cmpI, if_neg (by omega)]
    refine r_skip ?_
    refine c_code ?_
    refine r_seq ?_
    refine r_seq ?_
    refine r_region (id := 11) ?_
    refine o_give (g_move (evv rfl)) rfl rfl ?_
    refine o_give (g_move (evv rfl)) rfl rfl ?_
    refine o_give (g_bin (evv rfl) (evv rfl) (by rfl)) rfl rfl ?_
    refine o_nil ?_
    refine c_code ?_
    refine r_cond rfl (fun h2 => ?_) (fun h2 => ?_) <;> (try simp only [decide_eq_true_eq, decide_eq_false_iff_not, Bool.and_eq_true, Bool.or_eq_true, Bool.not_eq_true', Bool.and_eq_false_iff, Bool.or_eq_false_iff, Bool.not_eq_false', Bool.not_eq_true, Bool.not_eq_false, Bool.true_eq_false, Bool.false_eq_true, Int.not_lt, Int.not_le, not_and, not_or, ne_eq] at h2)
    · rw [if_pos (by omega)]
      refine r_seq ?_
      refine r_region (id := 12) ?_
      refine o_give (g_assign (evv rfl)) rfl rfl ?_
      refine o_nil ?_
      refine c_code ?_
      first | refine r_ret (rs := [.tmp 4]) rfl rfl _ (Ent.refl _) ?_ | refine c_end (rs := [.tmp 4]) rfl rfl _ (Ent.refl _) ?_
      exact ⟨rfl, rfl⟩
    · rw [if_neg (by omega)]
      refine r_skip ?_
      refine c_code ?_
      refine r_seq ?_
      refine r_region (id := 13) ?_
      refine o_give (g_assign (evv rfl)) rfl rfl ?_
      refine o_nil ?_
      refine c_code ?_
      first | refine r_ret (rs := [.tmp 4]) rfl rfl _ (Ent.refl _) ?_ | refine c_end (rs := [.tmp 4]) rfl rfl _ (Ent.refl _) ?_
      exact ⟨rfl, rfl⟩
def firstNZ (l : List Int) : Int := (l.find? (fun z => decide (z ≠ 0))).getD 0
theorem Or_c (L : List Atom) (v : Value) (l : List Int) [rd : Rd L v (mrow i64v 3 l)] : Fn Try.prog 26 [v] L fun w L' => w = .int .i64 (firstNZ l) ∧ L' = L := by
  refine fn_lenM rd fun hlen => ?_
  have hlen : l.length ≤ 2 ^ 63 - 1 := hlen
  refine fn_intro Try.func26 rfl Try.ntmps26 rfl (fun W0 => ?_)
  simp only [argE]
  refine r_seq ?_
  refine r_region (id := 0) ?_
  refine o_give (g_assign (evv rfl)) rfl rfl ?_
  refine o_nil ?_
  refine c_code ?_
  refine r_seq ?_
  refine r_region (id := 1) ?_
  refine o_give (g_assign (evv rfl)) rfl rfl ?_
  refine o_nil ?_
  refine c_code ?_
  refine r_seq ?_
  refine r_seq ?_
  refine r_region (id := 2) ?_
  refine o_give (g_move (evv rfl)) rfl rfl ?_
  refine o_give (g_lenM (evv rfl)) rfl rfl ?_
  refine o_give (g_move (evv rfl)) rfl rfl ?_
  refine o_nil ?_
  refine c_code ?_
  refine r_block ?_
  refine r_loopE (σ := Nat) (fun i => i ≤ l.length ∧ firstNZ (l.drop i) = firstNZ l) (fun i => l.length - i) (fun i => [(8, .v (.int .i64 i))]) [3, 6, 7] (fun i => L) 0 (by dsimp only [pickE, pick1, lk2, Nat.reduceBEq, Nat.reduceAdd, Nat.zero_add, cond_true, cond_false] <;> exact rfl) ?_ (by repeat (first | exact trivial | refine ⟨rfl, ?_⟩ | refine envsub_v rfl (by first | rfl | (refine int_eq ?_; first | omega | (simp; omega) | (simp; done)) | (refine bool_eq ?_; first | (simp [*]; done) | (simp; done)) | (refine str_eq ?_; simp; done) | (refine ptr_eq ?_; omega) | fail) ?_)) ?_ ?_
  · exact ⟨Nat.zero_le _, rfl⟩
  · exact Ent.refl _
  rintro i ⟨hi, ha⟩; dsimp only [List.cons_append, List.nil_append]
  refine r_seq ?_
  refine r_region (id := 3) ?_
  refine o_give (g_bin (evv rfl) (evv rfl) (by rfl)) rfl rfl ?_
  refine o_nil ?_
  refine c_code ?_
  refine r_seq ?_
  refine r_cond rfl (fun hc => ?_) (fun hc => ?_) <;> (try simp only [decide_eq_true_eq, decide_eq_false_iff_not, Bool.and_eq_true, Bool.or_eq_true, Bool.not_eq_true', Bool.and_eq_false_iff, Bool.or_eq_false_iff, Bool.not_eq_false', Bool.not_eq_true, Bool.not_eq_false, Bool.true_eq_false, Bool.false_eq_true, Int.not_lt, Int.not_le, not_and, not_or, ne_eq] at hc)
  · have hil : i < l.length := by omega
    have hd : l.drop i = l.getD i default :: l.drop (i + 1) := by
      rw [List.drop_eq_getElem_cons hil]
      simp [List.getD_eq_getElem?_getD, hil]
    rw [hd] at ha
    refine r_skip ?_
    refine c_code ?_
    refine r_seq ?_
    refine r_block ?_
    refine r_seq ?_
    refine r_region (id := 4) ?_
    refine o_give (g_idxMN (evv rfl) (evv rfl) (by rfl) (by first | omega | (have := of_decide_eq_true hg; omega) | (simp at hg; omega) | (simp only [List.length_set, List.length_append, List.length_cons, List.length_nil, List.length_map, List.length_take, List.length_drop, List.length_replicate]; omega))) rfl rfl ?_
    refine o_give (g_loadM (evv rfl) (by rfl) (by first | omega | (have := of_decide_eq_true hg; omega) | (simp at hg; omega) | (simp only [List.length_set, List.length_append, List.length_cons, List.length_nil, List.length_map, List.length_take, List.length_drop, List.length_replicate]; omega))) rfl rfl ?_
    refine o_give (g_assign (evv rfl)) rfl rfl ?_
    refine o_nil ?_
    refine c_code ?_
    refine r_seq ?_
    refine r_region (id := 5) ?_
    refine o_give (g_move (evv rfl)) rfl rfl ?_
    refine o_give (g_move (evv rfl)) rfl rfl ?_
    refine o_give (g_bin (evv rfl) (evv rfl) (by rfl)) rfl rfl ?_
    refine o_nil ?_
    refine c_code ?_
    simp only [i64v]
    refine r_cond rfl (fun hz => ?_) (fun hz => ?_) <;> (try simp only [decide_eq_true_eq, decide_eq_false_iff_not, Bool.and_eq_true, Bool.or_eq_true, Bool.not_eq_true', Bool.and_eq_false_iff, Bool.or_eq_false_iff, Bool.not_eq_false', Bool.not_eq_true, Bool.not_eq_false, Bool.true_eq_false, Bool.false_eq_true, Int.not_lt, Int.not_le, not_and, not_or, ne_eq] at hz)
    · rw [← ha, show firstNZ (l.getD i default :: l.drop (i + 1)) = l.getD i default by unfold firstNZ; rw [List.find?_cons_of_pos (by simpa using hz)]; rfl]
      refine r_seq ?_
      refine r_region (id := 6) ?_
      refine o_give (g_move (evv rfl)) rfl rfl ?_
      refine o_give (g_assign (evv rfl)) rfl rfl ?_
      refine o_nil ?_
      refine c_code ?_
      first | refine r_ret (rs := [.tmp 2]) rfl rfl _ (Ent.refl _) ?_ | refine c_end (rs := [.tmp 2]) rfl rfl _ (Ent.refl _) ?_
      exact ⟨rfl, rfl⟩
    · rw [show firstNZ (l.getD i default :: l.drop (i + 1)) = firstNZ (l.drop (i + 1)) by unfold firstNZ; rw [List.find?_cons_of_neg (by simpa using hz)]] at ha
      refine r_skip ?_
      refine c_blk ?_
      refine c_code ?_
      refine r_region (id := 7) ?_
      refine o_giveN (g_bin (evv rfl) (evv rfl) (by rfl)) (by simp only [inR]; omega) rfl ?_
      refine o_give (g_move (evv rfl)) rfl rfl ?_
      refine o_nil ?_
      refine c_loop (i + 1) ?_ ?_ (by repeat (first | exact trivial | refine ⟨rfl, ?_⟩ | refine envsub_v rfl (by first | rfl | (refine int_eq ?_; first | omega | (simp; omega) | (simp; done)) | (refine bool_eq ?_; first | (simp [*]; done) | (simp; done)) | (refine str_eq ?_; simp; done) | (refine ptr_eq ?_; omega) | fail) ?_)) ?_ <;> (try dsimp only)
      · exact ⟨by omega, ha⟩
      · omega
      · exact Ent.refl _
  · refine r_exit rfl ?_
    refine c_code ?_
    refine r_seq ?_
    refine r_region (id := 8) ?_
    refine o_give (g_move (evv rfl)) rfl rfl ?_
    refine o_give (g_assign (evv rfl)) rfl rfl ?_
    refine o_nil ?_
    refine c_code ?_
    first | refine r_ret (rs := [.tmp 2]) rfl rfl _ (Ent.refl _) ?_ | refine c_end (rs := [.tmp 2]) rfl rfl _ (Ent.refl _) ?_
    obtain rfl : i = l.length := by omega
    rw [List.drop_length] at ha
    rw [← ha]
    exact ⟨rfl, rfl⟩
def intsOf : List Value → List Int
  | [] => []
  | .int _ z :: r => z :: intsOf r
  | _ :: r => intsOf r
theorem catF_int : ∀ l : List Int, catF 1 (l.map i64v) = some (l.map i64v)
  | [] => rfl
  | a :: l => by simp [catF, cellsL, Value.cells, rngF, catF_int l, i64v]
theorem o_litIs {c : Cx} {k : List KI} {E : Env} {L : List Atom} {all rest : List Oper} {d : Nat} {ty : TypeId} {pos : String} {aft : Array Edge} {t e : TypeId} {i : TI} {n : Nat} {parts : Array (Nat × Operand)} {vs : List Value} [tu : TyU c.P t (.slice e)] [ti : TyI c.P e i]
    (hi : parts.toList.map (·.1) = List.range n) (hx : evs E (parts.toList.map (·.2)) = some vs) (hv : vs = (intsOf vs).map i64v) (hl : vs.length = n) (hsz : i.size = 1) (hn' : Nat.ble n 65536 = true) (hd : Nat.blt d c.n = true)
    (hk : ∀ v, Ops c all rest k ((d, .v v) :: E) (sl v (mrow i64v e (intsOf vs)) :: L)) : Ops c all (⟨some d, .buildSlice t n parts, ty, pos, aft, none⟩ :: rest) k E L := by
  have hl2 : (intsOf vs).length = n := by rw [hv] at hl; simpa using hl
  refine o_lit (i := i) (xs := (intsOf vs).map i64v) hi hx (by rw [hsz]; conv => lhs; rw [hv]
                                                               exact catF_int _) (by intro _ _ _ u hu; simp at hu; obtain ⟨a, _, rfl⟩ := hu; rfl) (by rw [hsz, Nat.mul_one]; exact hn') hn' hd fun v => ?_
  have : (⟨e, i.size, n, (intsOf vs).map i64v⟩ : Row) = mrow i64v e (intsOf vs) := by rw [hsz, ← hl2]; rfl
  rw [this]
  exact hk v
def betI (a b : VoteS) : Int := firstNZ [cmpI b.normal a.normal, cmpI b.last a.last, cmpI a.replica b.replica]
/-- the first vote is the better one -/
def ltV (a b : VoteS) : Prop := b.normal < a.normal ∨ (a.normal = b.normal ∧ (b.last < a.last ∨ (a.last = b.last ∧ a.replica < b.replica)))
instance (a b : VoteS) : Decidable (ltV a b) := by unfold ltV; infer_instance
theorem betI_lt (a b : VoteS) : betI a b < 0 ↔ ltV a b := by
  unfold betI firstNZ ltV cmpI
  by_cases h1 : b.normal < a.normal
  · simp [h1]
  · by_cases h2 : a.normal < b.normal
    · simp [h1, h2]; omega
    · have h3 : a.normal = b.normal := by omega
      by_cases h4 : b.last < a.last
      · simp [h3, h4]
      · by_cases h5 : a.last < b.last
        · simp [h3, h4, h5]; omega
        · have h6 : a.last = b.last := by omega
          by_cases h7 : a.replica < b.replica
          · simp [h3, h6, h7]
          · by_cases h8 : b.replica < a.replica
            · simp [h3, h6, h7, h8]
            · simp [h3, h6, h7, h8]
theorem ltV_anti {a b : VoteS} (h1 : ¬ ltV a b) (h2 : ¬ ltV b a) : a = b := by
  unfold ltV at h1 h2
  cases a; cases b
  simp only [VoteS.mk.injEq] at *
  omega
theorem ltV_trans {a b c : VoteS} (h1 : ¬ ltV a b) (h2 : ¬ ltV b c) : ¬ ltV a c := by
  unfold ltV at *
  omega
theorem ltV_irr (a : VoteS) : ¬ ltV a a := by unfold ltV; omega
theorem better_c (L : List Atom) (a b : VoteS) : Fn Try.prog 23 [agg (voteSC a), agg (voteSC b)] L fun w L' => w = .int .i64 (betI a b) ∧ L' = L := by
  refine fn_intro Try.func23 rfl Try.ntmps23 rfl (fun W0 => ?_)
  simp only [argE]
  refine r_seq ?_
  refine r_region (id := 0) ?_
  refine o_boxA (evv rfl) rfl (fun _ => ?_)
  refine o_boxA (evv rfl) rfl (fun _ => ?_)
  refine o_give (g_assign (evv rfl)) rfl rfl ?_
  refine o_nil ?_
  refine c_code ?_
  refine r_seq ?_
  rename_i p q
  repeat (first | refine r_seq ?_ | refine c_code ?_ | refine c_blk ?_ | refine r_block ?_ | refine r_skip ?_)
  refine r_held (id := 1) (blk q ⟨voteSC b, 31⟩ :: blk p ⟨voteSC a, 31⟩ :: L) Mixed.h ?_
  refine h_give (i := 0) (by kernel_rfl) rfl (g_fld (evv rfl)) rfl rfl ?_
  refine h_give (i := 1) (by kernel_rfl) rfl (g_load (evv rfl) (by rfl) (by rfl)) rfl rfl ?_
  refine h_give (i := 2) (by kernel_rfl) rfl (g_fld (evv rfl)) rfl rfl ?_
  refine h_give (i := 3) (by kernel_rfl) rfl (g_load (evv rfl) (by rfl) (by rfl)) rfl rfl ?_
  refine h_give (i := 5) (by kernel_rfl) rfl (g_fld (evv rfl)) rfl rfl ?_
  refine h_give (i := 6) (by kernel_rfl) rfl (g_load (evv rfl) (by rfl) (by rfl)) rfl rfl ?_
  refine h_give (i := 7) (by kernel_rfl) rfl (g_fld (evv rfl)) rfl rfl ?_
  refine h_give (i := 8) (by kernel_rfl) rfl (g_load (evv rfl) (by rfl) (by rfl)) rfl rfl ?_
  refine h_give (i := 10) (by kernel_rfl) rfl (g_fld (evv rfl)) rfl rfl ?_
  refine h_give (i := 11) (by kernel_rfl) rfl (g_load (evv rfl) (by rfl) (by rfl)) rfl rfl ?_
  refine h_give (i := 12) (by kernel_rfl) rfl (g_fld (evv rfl)) rfl rfl ?_
  refine h_give (i := 13) (by kernel_rfl) rfl (g_load (evv rfl) (by rfl) (by rfl)) rfl rfl ?_
  refine h_one (i := 4) (by kernel_rfl) rfl (Lay.ent) ?_
  (refine o_call rfl _ (Ent.refl _) (cmpA_c _ _ _) rfl ?_; rintro _ _ ⟨rfl, hLz⟩; obtain rfl := hLz.symm; clear hLz)
  refine o_nil ?_
  refine h_one (i := 9) (by kernel_rfl) rfl (Lay.ent) ?_
  (refine o_call rfl _ (Ent.refl _) (cmpA_c _ _ _) rfl ?_; rintro _ _ ⟨rfl, hLz⟩; obtain rfl := hLz.symm; clear hLz)
  refine o_nil ?_
  refine h_one (i := 14) (by kernel_rfl) rfl (Lay.ent) ?_
  (refine o_call rfl _ (Ent.refl _) (cmpB_c _ _ _) rfl ?_; rintro _ _ ⟨rfl, hLz⟩; obtain rfl := hLz.symm; clear hLz)
  refine o_nil ?_
  refine h_one (i := 15) (by kernel_rfl) rfl (Lay.ent) ?_
  refine o_litIs rfl rfl (by rfl) (by rfl) (by rfl) rfl rfl (fun _ => ?_)
  refine o_nil ?_
  refine h_one (i := 16) (by kernel_rfl) rfl (Lay.ent) ?_
  (refine o_call rfl _ (Ent.refl _) (Or_c _ _ _) rfl ?_; rintro _ _ ⟨rfl, hLz⟩; obtain rfl := hLz.symm; clear hLz)
  refine o_nil ?_
  refine h_give (i := 17) (by kernel_rfl) rfl (g_assign (evv rfl)) rfl rfl ?_
  refine h_done (by kernel_rfl) (Lay.ent) ?_
  refine c_code ?_
  first | refine r_ret (rs := [.tmp 4]) rfl rfl _ ((Lay.ent (L' := L))) ?_ | refine c_end (rs := [.tmp 4]) rfl rfl _ ((Lay.ent (L' := L))) ?_
  exact ⟨rfl, rfl⟩
/-- of the first i votes none is better than m, and m is one of them -/
def minT (l : List VoteS) (i : Nat) (m : VoteS) : Prop := (∀ j < i, ¬ ltV (l.getD j default) m) ∧ ∃ b < i, l.getD b default = m
theorem MinFunc_c (L : List Atom) (v : Value) (l : List VoteS) (h0 : l ≠ []) [rd : Rd L v (frow voteSC 3 31 l)] :
    Fn Try.prog 22 [v, .func (.func 23) #[] #[]] L fun w L' => ∃ m, w = agg (voteSC m) ∧ L' = L ∧ minT l l.length m := by
  refine fn_lenF rd fun hlen => ?_
  have hlen : l.length ≤ 2 ^ 63 - 1 := hlen
  have hpos : 0 < l.length := List.length_pos_iff.2 h0
  refine fn_intro Try.func22 rfl Try.ntmps22 rfl (fun W0 => ?_)
  simp only [argE]
  refine r_seq ?_
  refine r_region (id := 0) ?_
  refine o_alloc rfl rfl (fun _ => ?_)
  refine o_nil ?_
  refine c_code ?_
  refine r_seq ?_
  refine r_seq ?_
  refine r_region (id := 1) ?_
  refine o_give (g_move (evv rfl)) rfl rfl ?_
  refine o_give (g_lenF (evv rfl)) rfl rfl ?_
  refine o_give (g_bin (evv rfl) (evv rfl) (by rfl)) rfl rfl ?_
  refine o_nil ?_
  refine c_code ?_
  rw [decide_eq_false (show ¬ (l.length : Int) < 1 by omega)]
  refine r_cond_false rfl ?_
  refine r_skip ?_
  refine c_code ?_
  refine r_seq ?_
  refine r_region (id := 3) ?_
  refine o_give (g_move (evv rfl)) rfl rfl ?_
  refine o_give (g_idxFN (evv rfl) (evv rfl) (by rfl) (by rfl) (by first | omega | (have := of_decide_eq_true hg; omega) | (simp at hg; omega) | (simp only [List.length_set, List.length_append, List.length_cons, List.length_nil, List.length_map, List.length_take, List.length_drop, List.length_replicate]; omega))) rfl rfl ?_
  refine o_give (g_loadFr (evv rfl) (by rfl) (by first | (intro; rfl) | exact LenC.h) (by rfl) (by rfl) (by first | omega | (have := of_decide_eq_true hg; omega) | (simp at hg; omega) | (simp only [List.length_set, List.length_append, List.length_cons, List.length_nil, List.length_map, List.length_take, List.length_drop, List.length_replicate]; omega))) rfl rfl ?_
  refine o_alloc rfl rfl (fun _ => ?_)
  refine o_storeW (evv rfl) (evv rfl) (by first | rfl | assumption | exact LenC.h _ | (simp [bys, *]; done) | fail) (by first | (intro _ _ _; exact bys_one _) | exact AllOne.h | (intro _ _ _ u hu; simp at hu; rcases hu with rfl | rfl | rfl | rfl | rfl | rfl | rfl | rfl <;> rfl) | fail) (by first | rfl | exact (LenC.h _).trans rfl | exact (LenC.h _).trans (LenC.h _).symm | (simp [bys, *]; done) | (simp only [bys, List.length_map, *]; rfl) | fail) ?_
  refine o_nil ?_
  refine c_code ?_
  refine r_seq ?_
  refine r_seq ?_
  refine r_region (id := 4) ?_
  refine o_give (g_assign (evv rfl)) rfl rfl ?_
  refine o_nil ?_
  refine c_code ?_
  refine r_block ?_
  rename_i z q
  refine r_loopE (σ := Nat × VoteS) (fun ⟨i, m⟩ => i ≤ l.length ∧ minT l i m) (fun ⟨i, m⟩ => l.length - i) (fun ⟨i, m⟩ => [(6, .v (.int .i64 i))]) [0, 1, 4, 5] (fun ⟨i, m⟩ => blk q ⟨voteSC m, 31⟩ :: blk z ⟨[.int .i64 0, .int .i64 0, .int .i64 0], 31⟩ :: L) (1, l.getD 0 default) (by dsimp only [pickE, pick1, lk2, Nat.reduceBEq, Nat.reduceAdd, Nat.zero_add, cond_true, cond_false] <;> exact rfl) ?_ (by repeat (first | exact trivial | refine ⟨rfl, ?_⟩ | refine envsub_v rfl (by first | rfl | (refine int_eq ?_; first | omega | (simp; omega) | (simp; done)) | (refine bool_eq ?_; first | (simp [*]; done) | (simp; done)) | (refine str_eq ?_; simp; done) | (refine ptr_eq ?_; omega) | fail) ?_)) ?_ ?_
  · exact ⟨by omega, fun j hj => by obtain rfl : j = 0 := by omega
                                    exact ltV_irr _, 0, by omega, rfl⟩
  · exact Ent.refl _
  rintro ⟨i, m⟩ ⟨hi, hm, b, hb, hbm⟩; dsimp only [List.cons_append, List.nil_append]
  refine r_seq ?_
  refine r_seq ?_
  refine r_region (id := 5) ?_
  refine o_give (g_move (evv rfl)) rfl rfl ?_
  refine o_give (g_move (evv rfl)) rfl rfl ?_
  refine o_give (g_lenF (evv rfl)) rfl rfl ?_
  refine o_give (g_bin (evv rfl) (evv rfl) (by rfl)) rfl rfl ?_
  refine o_nil ?_
  refine c_code ?_
  refine r_cond rfl (fun hc => ?_) (fun hc => ?_) <;> (try simp only [decide_eq_true_eq, decide_eq_false_iff_not, Bool.and_eq_true, Bool.or_eq_true, Bool.not_eq_true', Bool.and_eq_false_iff, Bool.or_eq_false_iff, Bool.not_eq_false', Bool.not_eq_true, Bool.not_eq_false, Bool.true_eq_false, Bool.false_eq_true, Int.not_lt, Int.not_le, not_and, not_or, ne_eq] at hc)
  · have hil : i < l.length := by omega
    repeat (first | refine r_seq ?_ | refine c_code ?_ | refine c_blk ?_ | refine r_block ?_ | refine r_skip ?_)
    refine r_held (id := 7) (blk q ⟨voteSC m, 31⟩ :: blk z ⟨[.int .i64 0, .int .i64 0, .int .i64 0], 31⟩ :: L) Mixed.h ?_
    refine h_give (i := 0) (by kernel_rfl) rfl (g_move (evv rfl)) rfl rfl ?_
    refine h_give (i := 1) (by kernel_rfl) rfl (g_move (evv rfl)) rfl rfl ?_
    refine h_give (i := 2) (by kernel_rfl) rfl (g_move (evv rfl)) rfl rfl ?_
    refine h_give (i := 3) (by kernel_rfl) rfl (g_idxFN (evv rfl) (evv rfl) (by rfl) (by rfl) (by first | omega | (have := of_decide_eq_true hg; omega) | (simp at hg; omega) | (simp only [List.length_set, List.length_append, List.length_cons, List.length_nil, List.length_map, List.length_take, List.length_drop, List.length_replicate]; omega))) rfl rfl ?_
    refine h_give (i := 4) (by kernel_rfl) rfl (g_loadFr (evv rfl) (by rfl) (by first | (intro; rfl) | exact LenC.h) (by rfl) (by rfl) (by first | omega | (have := of_decide_eq_true hg; omega) | (simp at hg; omega) | (simp only [List.length_set, List.length_append, List.length_cons, List.length_nil, List.length_map, List.length_take, List.length_drop, List.length_replicate]; omega))) rfl rfl ?_
    refine h_give (i := 5) (by kernel_rfl) rfl (g_loadF (evv rfl) (by rfl) (by rfl)) rfl rfl ?_
    refine h_one (i := 6) (by kernel_rfl) rfl (Lay.ent) ?_
    (refine o_callV rfl rfl _ (Ent.refl _) (better_c _ _ _) rfl ?_; rintro _ _ ⟨rfl, hLz⟩; obtain rfl := hLz.symm; clear hLz)
    refine o_nil ?_
    refine h_give (i := 7) (by kernel_rfl) rfl (g_bin (evv rfl) (evv rfl) (by rfl)) rfl rfl ?_
    refine h_done (by kernel_rfl) (Lay.ent) ?_
    refine c_code ?_
    refine r_cond rfl (fun hd => ?_) (fun hd => ?_) <;> (try simp only [decide_eq_true_eq, decide_eq_false_iff_not, Bool.and_eq_true, Bool.or_eq_true, Bool.not_eq_true', Bool.and_eq_false_iff, Bool.or_eq_false_iff, Bool.not_eq_false', Bool.not_eq_true, Bool.not_eq_false, Bool.true_eq_false, Bool.false_eq_true, Int.not_lt, Int.not_le, not_and, not_or, ne_eq] at hd)
    · have hlt := (betI_lt _ _).1 hd
      refine r_region (id := 8) ?_
      refine o_give (g_move (evv rfl)) rfl rfl ?_
      refine o_give (g_move (evv rfl)) rfl rfl ?_
      refine o_give (g_idxFN (evv rfl) (evv rfl) (by rfl) (by rfl) (by first | omega | (have := of_decide_eq_true hg; omega) | (simp at hg; omega) | (simp only [List.length_set, List.length_append, List.length_cons, List.length_nil, List.length_map, List.length_take, List.length_drop, List.length_replicate]; omega))) rfl rfl ?_
      refine o_give (g_loadFr (evv rfl) (by rfl) (by first | (intro; rfl) | exact LenC.h) (by rfl) (by rfl) (by first | omega | (have := of_decide_eq_true hg; omega) | (simp at hg; omega) | (simp only [List.length_set, List.length_append, List.length_cons, List.length_nil, List.length_map, List.length_take, List.length_drop, List.length_replicate]; omega))) rfl rfl ?_
      refine o_storeW (evv rfl) (evv rfl) (by first | rfl | assumption | exact LenC.h _ | (simp [bys, *]; done) | fail) (by first | (intro _ _ _; exact bys_one _) | exact AllOne.h | (intro _ _ _ u hu; simp at hu; rcases hu with rfl | rfl | rfl | rfl | rfl | rfl | rfl | rfl <;> rfl) | fail) (by first | rfl | exact (LenC.h _).trans rfl | exact (LenC.h _).trans (LenC.h _).symm | (simp [bys, *]; done) | (simp only [bys, List.length_map, *]; rfl) | fail) ?_
      refine o_nil ?_
      refine c_blk ?_
      refine c_code ?_
      refine r_region (id := 6) ?_
      refine o_give (g_move (evv rfl)) rfl rfl ?_
      refine o_giveN (g_bin (evv rfl) (evv rfl) (by rfl)) (by simp only [inR]; omega) rfl ?_
      refine o_give (g_assign (evv rfl)) rfl rfl ?_
      refine o_nil ?_
      refine c_loop (i + 1, l.getD i default) ?_ ?_ (by repeat (first | exact trivial | refine ⟨rfl, ?_⟩ | refine envsub_v rfl (by first | rfl | (refine int_eq ?_; first | omega | (simp; omega) | (simp; done)) | (refine bool_eq ?_; first | (simp [*]; done) | (simp; done)) | (refine str_eq ?_; simp; done) | (refine ptr_eq ?_; omega) | fail) ?_)) ?_ <;> (try dsimp only)
      · refine ⟨by omega, fun j hj => ?_, i, by omega, rfl⟩
        by_cases hji : j = i
        · subst hji; exact ltV_irr _
        · refine ltV_trans (hm j (by omega)) (fun h => ?_)
          unfold ltV at h hlt
          omega
      · omega
      · exact Lay.ent
    · have hnl : ¬ ltV (l.getD i default) m := fun h => by have := (betI_lt _ _).2 h; omega
      refine r_skip ?_
      refine c_blk ?_
      refine c_code ?_
      refine r_region (id := 6) ?_
      refine o_give (g_move (evv rfl)) rfl rfl ?_
      refine o_giveN (g_bin (evv rfl) (evv rfl) (by rfl)) (by simp only [inR]; omega) rfl ?_
      refine o_give (g_assign (evv rfl)) rfl rfl ?_
      refine o_nil ?_
      refine c_loop (i + 1, m) ?_ ?_ (by repeat (first | exact trivial | refine ⟨rfl, ?_⟩ | refine envsub_v rfl (by first | rfl | (refine int_eq ?_; first | omega | (simp; omega) | (simp; done)) | (refine bool_eq ?_; first | (simp [*]; done) | (simp; done)) | (refine str_eq ?_; simp; done) | (refine ptr_eq ?_; omega) | fail) ?_)) ?_ <;> (try dsimp only)
      · refine ⟨by omega, fun j hj => ?_, b, by omega, hbm⟩
        by_cases hji : j = i
        · subst hji; exact hnl
        · exact hm j (by omega)
      · omega
      · exact Lay.ent
  · obtain rfl : i = l.length := by omega
    refine r_exit rfl ?_
    refine c_code ?_
    refine r_seq ?_
    refine r_region (id := 9) ?_
    refine o_give (g_loadF (evv rfl) (by rfl) (by rfl)) rfl rfl ?_
    refine o_storeW (evv rfl) (evv rfl) (by first | rfl | assumption | exact LenC.h _ | (simp [bys, *]; done) | fail) (by first | (intro _ _ _; exact bys_one _) | exact AllOne.h | (intro _ _ _ u hu; simp at hu; rcases hu with rfl | rfl | rfl | rfl | rfl | rfl | rfl | rfl <;> rfl) | fail) (by first | rfl | exact (LenC.h _).trans rfl | exact (LenC.h _).trans (LenC.h _).symm | (simp [bys, *]; done) | (simp only [bys, List.length_map, *]; rfl) | fail) ?_
    refine o_nil ?_
    refine c_code ?_
    first | refine r_retC (rs := [.cell 4 31]) rfl (by first | exact ro_agg rfl rfl (by first | rfl | exact LenC.h _ | (simp [bys, *]; done)) ro_nil | exact ro_cell rfl rfl rfl ro_nil) _ ((Lay.ent (L' := L))) ?_ | refine c_endC (rs := [.cell 4 31]) rfl (by first | exact ro_agg rfl rfl (by first | rfl | exact LenC.h _ | (simp [bys, *]; done)) ro_nil | exact ro_cell rfl rfl rfl ro_nil) _ ((Lay.ent (L' := L))) ?_
    exact ⟨m, rfl, rfl, hm, b, hb, hbm⟩
theorem Index_c (L : List Atom) (v : Value) (l : List VoteS) (x : VoteS) [rd : Rd L v (frow voteSC 3 31 l)] :
    Fn Try.prog 21 [v, agg (voteSC x)] L fun w L' => ∃ z : Int, w = .int .i64 z ∧ L' = L ∧ ((z = -1 ∧ ∀ j < l.length, l.getD j default ≠ x) ∨ (∃ b : Nat, z = b ∧ b < l.length ∧ l.getD b default = x ∧ ∀ j < b, l.getD j default ≠ x)) := by
  refine fn_lenF rd fun hlen => ?_
  have hlen : l.length ≤ 2 ^ 63 - 1 := hlen
  refine fn_intro Try.func21 rfl Try.ntmps21 rfl (fun W0 => ?_)
  simp only [argE]
  refine r_seq ?_
  refine r_region (id := 0) ?_
  refine o_boxA (evv rfl) rfl (fun _ => ?_)
  refine o_give (g_assign (evv rfl)) rfl rfl ?_
  refine o_nil ?_
  refine c_code ?_
  refine r_seq ?_
  refine r_seq ?_
  refine r_region (id := 1) ?_
  refine o_give (g_move (evv rfl)) rfl rfl ?_
  refine o_give (g_lenF (evv rfl)) rfl rfl ?_
  refine o_give (g_move (evv rfl)) rfl rfl ?_
  refine o_nil ?_
  refine c_code ?_
  refine r_block ?_
  rename_i q
  refine r_loopE (σ := Nat) (fun i => i ≤ l.length ∧ ∀ j < i, l.getD j default ≠ x) (fun i => l.length - i) (fun i => [(8, .v (.int .i64 i))]) [0, 3, 7] (fun i => blk q ⟨voteSC x, 31⟩ :: L) 0 (by dsimp only [pickE, pick1, lk2, Nat.reduceBEq, Nat.reduceAdd, Nat.zero_add, cond_true, cond_false] <;> exact rfl) ?_ (by repeat (first | exact trivial | refine ⟨rfl, ?_⟩ | refine envsub_v rfl (by first | rfl | (refine int_eq ?_; first | omega | (simp; omega) | (simp; done)) | (refine bool_eq ?_; first | (simp [*]; done) | (simp; done)) | (refine str_eq ?_; simp; done) | (refine ptr_eq ?_; omega) | fail) ?_)) ?_ ?_
  · exact ⟨Nat.zero_le _, by omega⟩
  · exact Ent.refl _
  rintro i ⟨hi, ha⟩; dsimp only [List.cons_append, List.nil_append]
  refine r_seq ?_
  refine r_region (id := 2) ?_
  refine o_give (g_bin (evv rfl) (evv rfl) (by rfl)) rfl rfl ?_
  refine o_nil ?_
  refine c_code ?_
  refine r_seq ?_
  refine r_cond rfl (fun hc => ?_) (fun hc => ?_) <;> (try simp only [decide_eq_true_eq, decide_eq_false_iff_not, Bool.and_eq_true, Bool.or_eq_true, Bool.not_eq_true', Bool.and_eq_false_iff, Bool.or_eq_false_iff, Bool.not_eq_false', Bool.not_eq_true, Bool.not_eq_false, Bool.true_eq_false, Bool.false_eq_true, Int.not_lt, Int.not_le, not_and, not_or, ne_eq] at hc)
  · have hil : i < l.length := by omega
    refine r_skip ?_
    refine c_code ?_
    refine r_seq ?_
    refine r_block ?_
    refine r_seq ?_
    refine r_region (id := 3) ?_
    refine o_give (g_move (evv rfl)) rfl rfl ?_
    refine o_give (g_assign (evv rfl)) rfl rfl ?_
    refine o_nil ?_
    refine c_code ?_
    refine r_seq ?_
    refine r_quiet (id := 4) Mixed.h (by kernel_rfl) ?_
    refine q_give (g_loadW (evv rfl) (by rfl) (by rfl)) rfl rfl ?_
    refine q_give (g_move (evv rfl)) rfl rfl ?_
    refine q_give (g_move (evv rfl)) rfl rfl ?_
    refine q_give (g_idxFN (evv rfl) (evv rfl) (by rfl) (by rfl) (by first | omega | (have := of_decide_eq_true hg; omega) | (simp at hg; omega) | (simp only [List.length_set, List.length_append, List.length_cons, List.length_nil, List.length_map, List.length_take, List.length_drop, List.length_replicate]; omega))) rfl rfl ?_
    refine q_give (g_loadFr (evv rfl) (by rfl) (by first | (intro; rfl) | exact LenC.h) (by rfl) (by rfl) (by first | omega | (have := of_decide_eq_true hg; omega) | (simp at hg; omega) | (simp only [List.length_set, List.length_append, List.length_cons, List.length_nil, List.length_map, List.length_take, List.length_drop, List.length_replicate]; omega))) rfl rfl ?_
    refine q_give (g_eqS (by kernel_rfl) (evv rfl) (evv rfl) (by rfl)) rfl rfl ?_
    refine q_nil ?_
    refine c_code ?_
    refine r_cond rfl (fun hd => ?_) (fun hd => ?_) <;> (try simp only [decide_eq_true_eq, decide_eq_false_iff_not, Bool.and_eq_true, Bool.or_eq_true, Bool.not_eq_true', Bool.and_eq_false_iff, Bool.or_eq_false_iff, Bool.not_eq_false', Bool.not_eq_true, Bool.not_eq_false, Bool.true_eq_false, Bool.false_eq_true, Int.not_lt, Int.not_le, not_and, not_or, ne_eq] at hd)
    · refine r_seq ?_
      refine r_region (id := 5) ?_
      refine o_give (g_move (evv rfl)) rfl rfl ?_
      refine o_give (g_assign (evv rfl)) rfl rfl ?_
      refine o_nil ?_
      refine c_code ?_
      first | refine r_ret (rs := [.tmp 4]) rfl rfl _ ((Lay.ent (L' := L))) ?_ | refine c_end (rs := [.tmp 4]) rfl rfl _ ((Lay.ent (L' := L))) ?_
      exact ⟨_, rfl, rfl, .inr ⟨i, rfl, hil, hd.symm, ha⟩⟩
    · refine r_skip ?_
      refine c_blk ?_
      refine c_code ?_
      refine r_region (id := 6) ?_
      refine o_giveN (g_bin (evv rfl) (evv rfl) (by rfl)) (by simp only [inR]; omega) rfl ?_
      refine o_give (g_move (evv rfl)) rfl rfl ?_
      refine o_nil ?_
      refine c_loop (i + 1) ?_ ?_ (by repeat (first | exact trivial | refine ⟨rfl, ?_⟩ | refine envsub_v rfl (by first | rfl | (refine int_eq ?_; first | omega | (simp; omega) | (simp; done)) | (refine bool_eq ?_; first | (simp [*]; done) | (simp; done)) | (refine str_eq ?_; simp; done) | (refine ptr_eq ?_; omega) | fail) ?_)) ?_ <;> (try dsimp only)
      · refine ⟨by omega, fun j hj => ?_⟩
        by_cases hji : j = i
        · subst hji; exact fun h => hd h.symm
        · exact ha j (by omega)
      · omega
      · exact Lay.ent
  · obtain rfl : i = l.length := by omega
    refine r_exit rfl ?_
    refine c_code ?_
    refine r_seq ?_
    refine r_region (id := 7) ?_
    refine o_give (g_assign (evv rfl)) rfl rfl ?_
    refine o_nil ?_
    refine c_code ?_
    first | refine r_ret (rs := [.tmp 4]) rfl rfl _ ((Lay.ent (L' := L))) ?_ | refine c_end (rs := [.tmp 4]) rfl rfl _ ((Lay.ent (L' := L))) ?_
    exact ⟨_, rfl, rfl, .inl ⟨rfl, ha⟩⟩
/-- the place of the best vote, the first of like ones -/
def isBest (l : List VoteS) (b : Nat) : Prop := b < l.length ∧ (∀ j < l.length, ¬ ltV (l.getD j default) (l.getD b default)) ∧ ∀ j < b, l.getD j default ≠ l.getD b default
def bestP (l : List VoteS) (z : Int) : Prop := (l = [] ∧ z = -1) ∨ (∃ b : Nat, z = b ∧ isBest l b)
theorem isBest_one {l : List VoteS} {a b : Nat} (ha : isBest l a) (hb : isBest l b) : a = b := by
  obtain ⟨a1, a2, a3⟩ := ha
  obtain ⟨b1, b2, b3⟩ := hb
  have e := ltV_anti (b2 a a1) (a2 b b1)
  rcases Nat.lt_trichotomy a b with h | h | h
  · exact absurd e (b3 a h)
  · exact h
  · exact absurd e.symm (a3 b h)
theorem bestP_one {l : List VoteS} {y z : Int} (hy : bestP l y) (hz : bestP l z) : y = z := by
  rcases hy with ⟨h1, rfl⟩ | ⟨a, rfl, ha⟩
  · rcases hz with ⟨_, rfl⟩ | ⟨b, rfl, hb⟩
    · rfl
    · rw [h1] at hb; exact absurd hb.1 (by simp)
  · rcases hz with ⟨h1, rfl⟩ | ⟨b, rfl, hb⟩
    · rw [h1] at ha; exact absurd ha.1 (by simp)
    · rw [isBest_one ha hb]
theorem Best_c (L : List Atom) (v : Value) (l : List VoteS) [rd : Rd L v (frow voteSC 3 31 l)] : Fn Try.prog 17 [v] L fun w L' => ∃ z : Int, w = .int .i64 z ∧ L' = L ∧ bestP l z := by
  refine fn_intro Try.func17 rfl Try.ntmps17 rfl (fun W0 => ?_)
  simp only [argE]
  refine r_seq ?_
  refine r_region (id := 0) ?_
  refine o_give (g_assign (evv rfl)) rfl rfl ?_
  refine o_nil ?_
  refine c_code ?_
  refine r_seq ?_
  refine r_seq ?_
  refine r_region (id := 1) ?_
  refine o_give (g_move (evv rfl)) rfl rfl ?_
  refine o_give (g_lenF (evv rfl)) rfl rfl ?_
  refine o_give (g_bin (evv rfl) (evv rfl) (by rfl)) rfl rfl ?_
  refine o_nil ?_
  refine c_code ?_
  refine r_cond rfl (fun hc => ?_) (fun hc => ?_) <;> (try simp only [decide_eq_true_eq, decide_eq_false_iff_not, Bool.and_eq_true, Bool.or_eq_true, Bool.not_eq_true', Bool.and_eq_false_iff, Bool.or_eq_false_iff, Bool.not_eq_false', Bool.not_eq_true, Bool.not_eq_false, Bool.true_eq_false, Bool.false_eq_true, Int.not_lt, Int.not_le, not_and, not_or, ne_eq] at hc)
  · have hl : l = [] := List.eq_nil_of_length_eq_zero (by omega)
    refine r_seq ?_
    refine r_region (id := 2) ?_
    refine o_give (g_assign (evv rfl)) rfl rfl ?_
    refine o_nil ?_
    refine c_code ?_
    first | refine r_ret (rs := [.tmp 2]) rfl rfl _ (Ent.refl _) ?_ | refine c_end (rs := [.tmp 2]) rfl rfl _ (Ent.refl _) ?_
    exact ⟨_, rfl, rfl, .inl ⟨hl, rfl⟩⟩
  · have hne : l ≠ [] := fun h => by rw [h] at hc; exact hc rfl
    refine r_skip ?_
    refine c_code ?_
    refine r_seq ?_
    refine r_region (id := 3) ?_
    refine o_give (g_move (evv rfl)) rfl rfl ?_
    refine o_give (g_move (evv rfl)) rfl rfl ?_
    (refine o_call rfl _ (Ent.refl _) (MinFunc_c _ _ _ (by assumption)) rfl ?_; rintro _ _ ⟨mv, rfl, hLz, hmv⟩; obtain rfl := hLz.symm; clear hLz)
    (refine o_call rfl _ (Ent.refl _) (Index_c _ _ _ _) rfl ?_; rintro _ _ ⟨zi, rfl, hLz, hzi⟩; obtain rfl := hLz.symm; clear hLz)
    refine o_give (g_assign (evv rfl)) rfl rfl ?_
    refine o_nil ?_
    refine c_code ?_
    first | refine r_ret (rs := [.tmp 2]) rfl rfl _ (Ent.refl _) ?_ | refine c_end (rs := [.tmp 2]) rfl rfl _ (Ent.refl _) ?_
    refine ⟨_, rfl, rfl, ?_⟩
    obtain ⟨hm, b, hb, hbm⟩ := hmv
    rcases hzi with ⟨rfl, hn⟩ | ⟨c, rfl, h1, h2, h3⟩
    · exact absurd hbm (hn b hb)
    · subst h2
      exact .inr ⟨c, rfl, h1, hm, h3⟩
end VK
