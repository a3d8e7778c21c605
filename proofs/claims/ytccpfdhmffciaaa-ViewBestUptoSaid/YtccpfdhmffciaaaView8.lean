/- ViewReached: plain and walked. Conditions: few elements. -/
import Derived.Test.YtccpfdhmffciaaaView7
namespace VK
open Go Go.Proofs
set_option linter.unusedSimpArgs false
set_option linter.unusedVariables false
set_option maxRecDepth 100000
set_option maxHeartbeats 40000000
/-- a list turned by r, its first i elements -/
def rot {α : Type} [Inhabited α] (l : List α) (r i : Nat) : List α := (List.range i).map (fun j => l.getD ((j + r) % l.length) default)
theorem rot_len {α : Type} [Inhabited α] (l : List α) (r i : Nat) : (rot l r i).length = i := by simp [rot]
theorem rot_succ {α : Type} [Inhabited α] (l : List α) (r i : Nat) : rot l r (i + 1) = rot l r i ++ [l.getD ((i + r) % l.length) default] := by simp [rot, List.range_succ]
theorem rot_eq {α : Type} [Inhabited α] (l : List α) (r : Nat) (hr : r < l.length) : rot l r l.length = l.drop r ++ l.take r := by
  refine List.ext_getElem (by simp [rot]; omega) fun i h1 h2 => ?_
  rw [rot_len] at h1
  simp only [rot, List.getElem_map, List.getElem_range]
  rw [List.getElem_append]
  split
  · rename_i h
    rw [List.length_drop] at h
    rw [Nat.mod_eq_of_lt (by omega), List.getElem_drop, List.getD_eq_getElem?_getD, List.getElem?_eq_getElem (by omega)]
    simp [Nat.add_comm]
  · rename_i h
    rw [List.length_drop] at h
    have e : (i + r) % l.length = i - (l.length - r) := by
      rw [Nat.mod_eq_sub_mod (by omega), Nat.mod_eq_of_lt (by omega)]; omega
    rw [e, List.getElem_take, List.getD_eq_getElem?_getD, List.getElem?_eq_getElem (by omega)]
    simp
theorem rot_perm {α : Type} [Inhabited α] (l : List α) (r : Nat) (hr : r < l.length) : (rot l r l.length).Perm l := by
  rw [rot_eq l r hr]
  exact List.perm_append_comm.trans (by rw [List.take_append_drop])
theorem reachP_perm {l l' : List Int} {z : Int} (h : l'.Perm l) (hz : reachP l' z) : reachP l z := by
  unfold reachP at hz ⊢
  rcases hz with ⟨rfl, rfl⟩ | ⟨h1, h2, h3, h4⟩
  · exact .inl ⟨h.symm.eq_nil, rfl⟩
  · refine .inr ⟨fun e => h1 (by subst e; exact h.eq_nil), h.mem_iff.1 h2, ?_, ?_⟩
    · rw [← h.length_eq]; unfold cntGe at h3 ⊢; rw [← h.countP_eq]; exact h3
    · rw [← h.length_eq]; unfold cntGt at h4 ⊢; rw [← h.countP_eq]; exact h4
theorem cnt_take {α : Type} [Inhabited α] (l : List α) (p : α → Bool) (i : Nat) (hi : i ≤ l.length) : cnt (fun j => p (l.getD j default)) i = (l.take i).countP p := by
  induction i with
  | zero => rfl
  | succ i ih =>
    have hil : i < l.length := by omega
    rw [List.take_succ_eq_append_getElem hil, List.countP_append, ← ih (by omega)]
    have e : l.getD i default = l[i] := by simp [List.getD_eq_getElem?_getD, hil]
    show _ + (p (l.getD i default)).toNat = _
    rw [e]
    cases h : p l[i] <;> simp [h]
theorem cnt_all {α : Type} [Inhabited α] (l : List α) (p : α → Bool) : cnt (fun j => p (l.getD j default)) l.length = l.countP p := by
  rw [cnt_take l p _ (Nat.le_refl _), List.take_length]
theorem ViewReached_c (L : List Atom) (v : Value) (l : List Int) (t : Int) (hl : l.length ≤ 1048576) (ht : inR .i64 t) [Rd L v (mrow i64v 2 l)] : Fn Try.prog 6 [v, .int .i64 t] L fun u L' => u = .bool true ∧ L' = L := by
  simp only [inR] at ht
  refine fn_intro Try.func6 rfl Try.ntmps6 rfl (fun W0 => ?_)
  simp only [argE]
  refine r_seq ?_
  refine r_region (id := 0) ?_
  refine o_give (g_assign (evv rfl)) rfl rfl ?_
  refine o_nil ?_
  refine c_code ?_
  refine r_seq ?_
  refine r_seq ?_
  refine r_region (id := 1) ?_
  (refine o_call rfl _ (Ent.refl _) (awake_c _) rfl ?_; rintro _ _ ⟨rfl, hLz⟩; obtain rfl := hLz.symm; clear hLz)
  refine o_give (g_not (evv rfl)) rfl rfl ?_
  refine o_nil ?_
  refine c_code ?_
  refine r_cond_false rfl ?_
  refine r_skip ?_
  refine c_code ?_
  refine r_seq ?_
  refine r_region (id := 3) ?_
  refine o_give (g_move (evv rfl)) rfl rfl ?_
  (refine o_call rfl _ (Ent.refl _) (Reached_c _ _ _ (by first | assumption | (simp; done) | (simp; omega))) rfl ?_; rintro _ _ ⟨az, rfl, hLz, haz⟩; obtain rfl := hLz.symm; clear hLz)
  refine o_give (g_assign (evv rfl)) rfl rfl ?_
  refine o_nil ?_
  refine c_code ?_
  refine r_seq ?_
  refine r_seq ?_
  refine r_region (id := 4) ?_
  refine o_give (g_move (evv rfl)) rfl rfl ?_
  refine o_give (g_move (evv rfl)) rfl rfl ?_
  (refine o_call rfl _ (Ent.refl _) (rReached_c _ _ _ (by first | assumption | (simp; done) | (simp; omega))) rfl ?_; rintro _ _ ⟨sz, rfl, hLz, hsz⟩; obtain rfl := hLz.symm; clear hLz)
  refine o_give (g_bin (evv rfl) (evv rfl) (by rfl)) rfl rfl ?_
  refine o_nil ?_
  refine c_code ?_
  obtain rfl := reachP_one haz hsz
  simp only [bne_self_eq_false, decide_true, Bool.not_true]
  refine r_cond_false rfl ?_
  refine r_skip ?_
  refine c_code ?_
  refine r_seq ?_
  refine r_region (id := 6) ?_
  refine o_give (g_assign (evv rfl)) rfl rfl ?_
  refine o_nil ?_
  refine c_code ?_
  refine r_seq ?_
  refine r_region (id := 7) ?_
  refine o_give (g_assign (evv rfl)) rfl rfl ?_
  refine o_nil ?_
  refine c_code ?_
  refine r_seq ?_
  refine r_region (id := 8) ?_
  refine o_give (g_assign (evv rfl)) rfl rfl ?_
  refine o_nil ?_
  refine c_code ?_
  refine r_seq ?_
  refine r_seq ?_
  refine r_region (id := 9) ?_
  refine o_give (g_assign (evv rfl)) rfl rfl ?_
  refine o_nil ?_
  refine c_code ?_
  refine r_block ?_
  obtain ⟨r, hre⟩ : ∃ r : Nat, r = (t % 18446744073709551616 % (l.length : Int)).toNat := ⟨_, rfl⟩
  refine r_loopE (σ := Nat × Value) (fun ⟨i, ov⟩ => i ≤ l.length) (fun ⟨i, ov⟩ => l.length - i) (fun ⟨i, ov⟩ => [(6, .v (.int .i64 (cnt (fun j => decide (az ≤ l.getD j default)) i : Int))), (7, .v (.int .i64 (cnt (fun j => decide (az < l.getD j default)) i : Int))), (8, .v (ov)), (9, .v (.int .i64 i))]) [0, 1, 5] (fun ⟨i, ov⟩ => sl ov (mrow i64v 2 (rot l r i)) :: L) (0, .slice none 0 0) (by dsimp only [pickE, pick1, lk2, Nat.reduceBEq, Nat.reduceAdd, Nat.zero_add, cond_true, cond_false] <;> exact rfl) ?_ (by repeat (first | exact trivial | refine ⟨rfl, ?_⟩ | refine envsub_v rfl (by first | rfl | (refine int_eq ?_; first | omega | (simp; omega) | (simp; done)) | (refine bool_eq ?_; first | (simp [*]; done) | (simp; done)) | (refine str_eq ?_; simp; done) | (refine ptr_eq ?_; omega) | fail) ?_)) ?_ ?_
  · exact Nat.zero_le _
  · exact Ent.nilM i64v 2
  rintro ⟨i, ov⟩ hi; (try dsimp only at hi); dsimp only [List.cons_append, List.nil_append]
  refine r_seq ?_
  refine r_seq ?_
  refine r_region (id := 10) ?_
  refine o_give (g_move (evv rfl)) rfl rfl ?_
  refine o_give (g_move (evv rfl)) rfl rfl ?_
  refine o_give (g_lenM (evv rfl)) rfl rfl ?_
  refine o_give (g_bin (evv rfl) (evv rfl) (by rfl)) rfl rfl ?_
  refine o_nil ?_
  refine c_code ?_
  have c1 := cnt_le (fun j => decide (az ≤ l.getD j default)) i
  have c2 := cnt_le (fun j => decide (az < l.getD j default)) i
  refine r_cond rfl (fun hd => ?_) (fun hd => ?_) <;> (try simp only [decide_eq_true_eq, decide_eq_false_iff_not, Bool.and_eq_true, Bool.or_eq_true, Bool.not_eq_true', Bool.and_eq_false_iff, Bool.or_eq_false_iff, Bool.not_eq_false', Bool.not_eq_true, Bool.not_eq_false, Bool.true_eq_false, Bool.false_eq_true, Int.not_lt, Int.not_le, not_and, not_or, ne_eq] at hd)
  · have hil : i < l.length := by omega
    have hr0 : 0 ≤ t % 18446744073709551616 % (l.length : Int) := Int.emod_nonneg _ (by omega)
    have hr1 : t % 18446744073709551616 % (l.length : Int) < l.length := Int.emod_lt_of_pos _ (by omega)
    have hrn : t % 18446744073709551616 % (l.length : Int) = (r : Int) := by omega
    have hr : r < l.length := by omega
    have hrl := rot_len l r i
    have htm : ((i : Int) + r) % l.length = (((i + r) % l.length : Nat) : Int) := by push_cast; rfl
    have hml : (i + r) % l.length < l.length := Nat.mod_lt _ (by omega)
    refine r_skip ?_
    refine c_code ?_
    refine r_seq ?_
    refine r_block ?_
    refine r_seq ?_
    refine r_seq ?_
    refine r_region (id := 12) ?_
    refine o_give (g_move (evv rfl)) rfl rfl ?_
    refine o_give (g_move (evv rfl)) rfl rfl ?_
    refine o_give (g_idxMN (evv rfl) (evv rfl) (by rfl) (by first | omega | (have := of_decide_eq_true hg; omega) | (simp at hg; omega) | (simp only [List.length_set, List.length_append, List.length_cons, List.length_nil, List.length_map, List.length_take, List.length_drop, List.length_replicate]; omega))) rfl rfl ?_
    refine o_give (g_loadM (evv rfl) (by rfl) (by first | omega | (have := of_decide_eq_true hg; omega) | (simp at hg; omega) | (simp only [List.length_set, List.length_append, List.length_cons, List.length_nil, List.length_map, List.length_take, List.length_drop, List.length_replicate]; omega))) rfl rfl ?_
    refine o_give (g_move (evv rfl)) rfl rfl ?_
    refine o_give (g_bin (evv rfl) (evv rfl) (by rfl)) rfl rfl ?_
    refine o_nil ?_
    refine c_code ?_
    simp only [i64v]
    have s1 : cnt (fun j => decide (az ≤ l.getD j default)) (i + 1) = cnt (fun j => decide (az ≤ l.getD j default)) i + (decide (az ≤ l.getD i default)).toNat := rfl
    have s2 : cnt (fun j => decide (az < l.getD j default)) (i + 1) = cnt (fun j => decide (az < l.getD j default)) i + (decide (az < l.getD i default)).toNat := rfl
    cases h1 : decide (az ≤ l.getD i default) <;> cases h2 : decide (az < l.getD i default) <;> simp only [h1, h2, Bool.toNat_true, Bool.toNat_false] at s1 s2
    · refine r_cond_false rfl ?_
      refine r_skip ?_
      refine c_code ?_
      refine r_seq ?_
      refine r_seq ?_
      refine r_region (id := 14) ?_
      refine o_give (g_move (evv rfl)) rfl rfl ?_
      refine o_give (g_move (evv rfl)) rfl rfl ?_
      refine o_give (g_idxMN (evv rfl) (evv rfl) (by rfl) (by first | omega | (have := of_decide_eq_true hg; omega) | (simp at hg; omega) | (simp only [List.length_set, List.length_append, List.length_cons, List.length_nil, List.length_map, List.length_take, List.length_drop, List.length_replicate]; omega))) rfl rfl ?_
      refine o_give (g_loadM (evv rfl) (by rfl) (by first | omega | (have := of_decide_eq_true hg; omega) | (simp at hg; omega) | (simp only [List.length_set, List.length_append, List.length_cons, List.length_nil, List.length_map, List.length_take, List.length_drop, List.length_replicate]; omega))) rfl rfl ?_
      refine o_give (g_move (evv rfl)) rfl rfl ?_
      refine o_give (g_bin (evv rfl) (evv rfl) (by rfl)) rfl rfl ?_
      refine o_nil ?_
      refine c_code ?_
      simp only [i64v, h2]
      refine r_cond_false rfl ?_
      refine r_skip ?_
      refine c_code ?_
      refine r_region (id := 16) ?_
      refine o_give (g_move (evv rfl)) rfl rfl ?_
      refine o_give (g_move (evv rfl)) rfl rfl ?_
      refine o_give (g_move (evv rfl)) rfl rfl ?_
      refine o_give (g_move (evv rfl)) rfl rfl ?_
      refine o_giveU (g_conv TyU.h TyU.h (evv rfl)) (by rfl) rfl ?_
      refine o_give (g_move (evv rfl)) rfl rfl ?_
      refine o_give (g_lenM (evv rfl)) rfl rfl ?_
      refine o_giveN (g_conv TyU.h TyU.h (evv rfl)) (by simp only [inR]; omega) rfl ?_
      refine o_give (g_remP (evv rfl) (evv rfl) (by omega) (by omega)) rfl rfl ?_
      refine o_giveN (g_conv TyU.h TyU.h (evv rfl)) (by simp only [inR]; omega) rfl ?_
      refine o_giveN (g_bin (evv rfl) (evv rfl) (by rfl)) (by simp only [inR]; omega) rfl ?_
      refine o_give (g_move (evv rfl)) rfl rfl ?_
      refine o_give (g_lenM (evv rfl)) rfl rfl ?_
      refine o_give (g_remP (evv rfl) (evv rfl) (by omega) (by omega)) rfl rfl ?_
      rw [hrn, htm]
      refine o_give (g_idxMN (evv rfl) (evv rfl) (by rfl) (by first | omega | (have := of_decide_eq_true hg; omega) | (simp at hg; omega) | (simp only [List.length_set, List.length_append, List.length_cons, List.length_nil, List.length_map, List.length_take, List.length_drop, List.length_replicate]; omega))) rfl rfl ?_
      refine o_give (g_loadM (evv rfl) (by rfl) (by first | omega | (have := of_decide_eq_true hg; omega) | (simp at hg; omega) | (simp only [List.length_set, List.length_append, List.length_cons, List.length_nil, List.length_map, List.length_take, List.length_drop, List.length_replicate]; omega))) rfl rfl ?_
      refine o_litI rfl (by rfl) rfl (fun _ => ?_)
      refine o_appM (evv rfl) (evv rfl) (by rfl) (by rfl) (by rfl) (by (try simp only [bsOf, List.length_append, List.length_cons, List.length_nil, List.length_take, List.length_drop, List.length_map, List.length_range]); omega) rfl (fun _ => ?_)
      refine o_give (g_assign (evv rfl)) rfl rfl ?_
      refine o_nil ?_
      refine c_blk ?_
      refine c_code ?_
      rename_i nv
      rw [← rot_succ]
      refine r_region (id := 11) ?_
      refine o_give (g_move (evv rfl)) rfl rfl ?_
      refine o_giveN (g_bin (evv rfl) (evv rfl) (by rfl)) (by simp only [inR]; omega) rfl ?_
      refine o_give (g_assign (evv rfl)) rfl rfl ?_
      refine o_nil ?_
      refine c_loop (i + 1, nv) ?_ ?_ (by simp only [s1, s2, Nat.add_zero, Int.natCast_add, Int.cast_ofNat_Int]; repeat (first | exact trivial | refine ⟨rfl, ?_⟩ | refine envsub_v rfl (by first | rfl | (refine int_eq ?_; first | omega | (simp; omega) | (simp; done)) | (refine bool_eq ?_; first | (simp [*]; done) | (simp; done)) | (refine str_eq ?_; simp; done) | (refine ptr_eq ?_; omega) | fail) ?_)) ?_ <;> (try dsimp only)
      · omega
      · omega
      · exact Lay.ent
    · refine r_cond_false rfl ?_
      refine r_skip ?_
      refine c_code ?_
      refine r_seq ?_
      refine r_seq ?_
      refine r_region (id := 14) ?_
      refine o_give (g_move (evv rfl)) rfl rfl ?_
      refine o_give (g_move (evv rfl)) rfl rfl ?_
      refine o_give (g_idxMN (evv rfl) (evv rfl) (by rfl) (by first | omega | (have := of_decide_eq_true hg; omega) | (simp at hg; omega) | (simp only [List.length_set, List.length_append, List.length_cons, List.length_nil, List.length_map, List.length_take, List.length_drop, List.length_replicate]; omega))) rfl rfl ?_
      refine o_give (g_loadM (evv rfl) (by rfl) (by first | omega | (have := of_decide_eq_true hg; omega) | (simp at hg; omega) | (simp only [List.length_set, List.length_append, List.length_cons, List.length_nil, List.length_map, List.length_take, List.length_drop, List.length_replicate]; omega))) rfl rfl ?_
      refine o_give (g_move (evv rfl)) rfl rfl ?_
      refine o_give (g_bin (evv rfl) (evv rfl) (by rfl)) rfl rfl ?_
      refine o_nil ?_
      refine c_code ?_
      simp only [i64v, h2]
      refine r_cond_true rfl ?_
      refine r_region (id := 15) ?_
      refine o_give (g_move (evv rfl)) rfl rfl ?_
      refine o_giveN (g_bin (evv rfl) (evv rfl) (by rfl)) (by simp only [inR]; omega) rfl ?_
      refine o_give (g_assign (evv rfl)) rfl rfl ?_
      refine o_nil ?_
      refine c_code ?_
      refine r_region (id := 16) ?_
      refine o_give (g_move (evv rfl)) rfl rfl ?_
      refine o_give (g_move (evv rfl)) rfl rfl ?_
      refine o_give (g_move (evv rfl)) rfl rfl ?_
      refine o_give (g_move (evv rfl)) rfl rfl ?_
      refine o_giveU (g_conv TyU.h TyU.h (evv rfl)) (by rfl) rfl ?_
      refine o_give (g_move (evv rfl)) rfl rfl ?_
      refine o_give (g_lenM (evv rfl)) rfl rfl ?_
      refine o_giveN (g_conv TyU.h TyU.h (evv rfl)) (by simp only [inR]; omega) rfl ?_
      refine o_give (g_remP (evv rfl) (evv rfl) (by omega) (by omega)) rfl rfl ?_
      refine o_giveN (g_conv TyU.h TyU.h (evv rfl)) (by simp only [inR]; omega) rfl ?_
      refine o_giveN (g_bin (evv rfl) (evv rfl) (by rfl)) (by simp only [inR]; omega) rfl ?_
      refine o_give (g_move (evv rfl)) rfl rfl ?_
      refine o_give (g_lenM (evv rfl)) rfl rfl ?_
      refine o_give (g_remP (evv rfl) (evv rfl) (by omega) (by omega)) rfl rfl ?_
      rw [hrn, htm]
      refine o_give (g_idxMN (evv rfl) (evv rfl) (by rfl) (by first | omega | (have := of_decide_eq_true hg; omega) | (simp at hg; omega) | (simp only [List.length_set, List.length_append, List.length_cons, List.length_nil, List.length_map, List.length_take, List.length_drop, List.length_replicate]; omega))) rfl rfl ?_
      refine o_give (g_loadM (evv rfl) (by rfl) (by first | omega | (have := of_decide_eq_true hg; omega) | (simp at hg; omega) | (simp only [List.length_set, List.length_append, List.length_cons, List.length_nil, List.length_map, List.length_take, List.length_drop, List.length_replicate]; omega))) rfl rfl ?_
      refine o_litI rfl (by rfl) rfl (fun _ => ?_)
      refine o_appM (evv rfl) (evv rfl) (by rfl) (by rfl) (by rfl) (by (try simp only [bsOf, List.length_append, List.length_cons, List.length_nil, List.length_take, List.length_drop, List.length_map, List.length_range]); omega) rfl (fun _ => ?_)
      refine o_give (g_assign (evv rfl)) rfl rfl ?_
      refine o_nil ?_
      refine c_blk ?_
      refine c_code ?_
      rename_i nv
      rw [← rot_succ]
      refine r_region (id := 11) ?_
      refine o_give (g_move (evv rfl)) rfl rfl ?_
      refine o_giveN (g_bin (evv rfl) (evv rfl) (by rfl)) (by simp only [inR]; omega) rfl ?_
      refine o_give (g_assign (evv rfl)) rfl rfl ?_
      refine o_nil ?_
      refine c_loop (i + 1, nv) ?_ ?_ (by simp only [s1, s2, Nat.add_zero, Int.natCast_add, Int.cast_ofNat_Int]; repeat (first | exact trivial | refine ⟨rfl, ?_⟩ | refine envsub_v rfl (by first | rfl | (refine int_eq ?_; first | omega | (simp; omega) | (simp; done)) | (refine bool_eq ?_; first | (simp [*]; done) | (simp; done)) | (refine str_eq ?_; simp; done) | (refine ptr_eq ?_; omega) | fail) ?_)) ?_ <;> (try dsimp only)
      · omega
      · omega
      · exact Lay.ent
    · refine r_cond_true rfl ?_
      refine r_region (id := 13) ?_
      refine o_give (g_move (evv rfl)) rfl rfl ?_
      refine o_giveN (g_bin (evv rfl) (evv rfl) (by rfl)) (by simp only [inR]; omega) rfl ?_
      refine o_give (g_assign (evv rfl)) rfl rfl ?_
      refine o_nil ?_
      refine c_code ?_
      refine r_seq ?_
      refine r_seq ?_
      refine r_region (id := 14) ?_
      refine o_give (g_move (evv rfl)) rfl rfl ?_
      refine o_give (g_move (evv rfl)) rfl rfl ?_
      refine o_give (g_idxMN (evv rfl) (evv rfl) (by rfl) (by first | omega | (have := of_decide_eq_true hg; omega) | (simp at hg; omega) | (simp only [List.length_set, List.length_append, List.length_cons, List.length_nil, List.length_map, List.length_take, List.length_drop, List.length_replicate]; omega))) rfl rfl ?_
      refine o_give (g_loadM (evv rfl) (by rfl) (by first | omega | (have := of_decide_eq_true hg; omega) | (simp at hg; omega) | (simp only [List.length_set, List.length_append, List.length_cons, List.length_nil, List.length_map, List.length_take, List.length_drop, List.length_replicate]; omega))) rfl rfl ?_
      refine o_give (g_move (evv rfl)) rfl rfl ?_
      refine o_give (g_bin (evv rfl) (evv rfl) (by rfl)) rfl rfl ?_
      refine o_nil ?_
      refine c_code ?_
      simp only [i64v, h2]
      refine r_cond_false rfl ?_
      refine r_skip ?_
      refine c_code ?_
      refine r_region (id := 16) ?_
      refine o_give (g_move (evv rfl)) rfl rfl ?_
      refine o_give (g_move (evv rfl)) rfl rfl ?_
      refine o_give (g_move (evv rfl)) rfl rfl ?_
      refine o_give (g_move (evv rfl)) rfl rfl ?_
      refine o_giveU (g_conv TyU.h TyU.h (evv rfl)) (by rfl) rfl ?_
      refine o_give (g_move (evv rfl)) rfl rfl ?_
      refine o_give (g_lenM (evv rfl)) rfl rfl ?_
      refine o_giveN (g_conv TyU.h TyU.h (evv rfl)) (by simp only [inR]; omega) rfl ?_
      refine o_give (g_remP (evv rfl) (evv rfl) (by omega) (by omega)) rfl rfl ?_
      refine o_giveN (g_conv TyU.h TyU.h (evv rfl)) (by simp only [inR]; omega) rfl ?_
      refine o_giveN (g_bin (evv rfl) (evv rfl) (by rfl)) (by simp only [inR]; omega) rfl ?_
      refine o_give (g_move (evv rfl)) rfl rfl ?_
      refine o_give (g_lenM (evv rfl)) rfl rfl ?_
      refine o_give (g_remP (evv rfl) (evv rfl) (by omega) (by omega)) rfl rfl ?_
      rw [hrn, htm]
      refine o_give (g_idxMN (evv rfl) (evv rfl) (by rfl) (by first | omega | (have := of_decide_eq_true hg; omega) | (simp at hg; omega) | (simp only [List.length_set, List.length_append, List.length_cons, List.length_nil, List.length_map, List.length_take, List.length_drop, List.length_replicate]; omega))) rfl rfl ?_
      refine o_give (g_loadM (evv rfl) (by rfl) (by first | omega | (have := of_decide_eq_true hg; omega) | (simp at hg; omega) | (simp only [List.length_set, List.length_append, List.length_cons, List.length_nil, List.length_map, List.length_take, List.length_drop, List.length_replicate]; omega))) rfl rfl ?_
      refine o_litI rfl (by rfl) rfl (fun _ => ?_)
      refine o_appM (evv rfl) (evv rfl) (by rfl) (by rfl) (by rfl) (by (try simp only [bsOf, List.length_append, List.length_cons, List.length_nil, List.length_take, List.length_drop, List.length_map, List.length_range]); omega) rfl (fun _ => ?_)
      refine o_give (g_assign (evv rfl)) rfl rfl ?_
      refine o_nil ?_
      refine c_blk ?_
      refine c_code ?_
      rename_i nv
      rw [← rot_succ]
      refine r_region (id := 11) ?_
      refine o_give (g_move (evv rfl)) rfl rfl ?_
      refine o_giveN (g_bin (evv rfl) (evv rfl) (by rfl)) (by simp only [inR]; omega) rfl ?_
      refine o_give (g_assign (evv rfl)) rfl rfl ?_
      refine o_nil ?_
      refine c_loop (i + 1, nv) ?_ ?_ (by simp only [s1, s2, Nat.add_zero, Int.natCast_add, Int.cast_ofNat_Int]; repeat (first | exact trivial | refine ⟨rfl, ?_⟩ | refine envsub_v rfl (by first | rfl | (refine int_eq ?_; first | omega | (simp; omega) | (simp; done)) | (refine bool_eq ?_; first | (simp [*]; done) | (simp; done)) | (refine str_eq ?_; simp; done) | (refine ptr_eq ?_; omega) | fail) ?_)) ?_ <;> (try dsimp only)
      · omega
      · omega
      · exact Lay.ent
    · refine r_cond_true rfl ?_
      refine r_region (id := 13) ?_
      refine o_give (g_move (evv rfl)) rfl rfl ?_
      refine o_giveN (g_bin (evv rfl) (evv rfl) (by rfl)) (by simp only [inR]; omega) rfl ?_
      refine o_give (g_assign (evv rfl)) rfl rfl ?_
      refine o_nil ?_
      refine c_code ?_
      refine r_seq ?_
      refine r_seq ?_
      refine r_region (id := 14) ?_
      refine o_give (g_move (evv rfl)) rfl rfl ?_
      refine o_give (g_move (evv rfl)) rfl rfl ?_
      refine o_give (g_idxMN (evv rfl) (evv rfl) (by rfl) (by first | omega | (have := of_decide_eq_true hg; omega) | (simp at hg; omega) | (simp only [List.length_set, List.length_append, List.length_cons, List.length_nil, List.length_map, List.length_take, List.length_drop, List.length_replicate]; omega))) rfl rfl ?_
      refine o_give (g_loadM (evv rfl) (by rfl) (by first | omega | (have := of_decide_eq_true hg; omega) | (simp at hg; omega) | (simp only [List.length_set, List.length_append, List.length_cons, List.length_nil, List.length_map, List.length_take, List.length_drop, List.length_replicate]; omega))) rfl rfl ?_
      refine o_give (g_move (evv rfl)) rfl rfl ?_
      refine o_give (g_bin (evv rfl) (evv rfl) (by rfl)) rfl rfl ?_
      refine o_nil ?_
      refine c_code ?_
      simp only [i64v, h2]
      refine r_cond_true rfl ?_
      refine r_region (id := 15) ?_
      refine o_give (g_move (evv rfl)) rfl rfl ?_
      refine o_giveN (g_bin (evv rfl) (evv rfl) (by rfl)) (by simp only [inR]; omega) rfl ?_
      refine o_give (g_assign (evv rfl)) rfl rfl ?_
      refine o_nil ?_
      refine c_code ?_
      refine r_region (id := 16) ?_
      refine o_give (g_move (evv rfl)) rfl rfl ?_
      refine o_give (g_move (evv rfl)) rfl rfl ?_
      refine o_give (g_move (evv rfl)) rfl rfl ?_
      refine o_give (g_move (evv rfl)) rfl rfl ?_
      refine o_giveU (g_conv TyU.h TyU.h (evv rfl)) (by rfl) rfl ?_
      refine o_give (g_move (evv rfl)) rfl rfl ?_
      refine o_give (g_lenM (evv rfl)) rfl rfl ?_
      refine o_giveN (g_conv TyU.h TyU.h (evv rfl)) (by simp only [inR]; omega) rfl ?_
      refine o_give (g_remP (evv rfl) (evv rfl) (by omega) (by omega)) rfl rfl ?_
      refine o_giveN (g_conv TyU.h TyU.h (evv rfl)) (by simp only [inR]; omega) rfl ?_
      refine o_giveN (g_bin (evv rfl) (evv rfl) (by rfl)) (by simp only [inR]; omega) rfl ?_
      refine o_give (g_move (evv rfl)) rfl rfl ?_
      refine o_give (g_lenM (evv rfl)) rfl rfl ?_
      refine o_give (g_remP (evv rfl) (evv rfl) (by omega) (by omega)) rfl rfl ?_
      rw [hrn, htm]
      refine o_give (g_idxMN (evv rfl) (evv rfl) (by rfl) (by first | omega | (have := of_decide_eq_true hg; omega) | (simp at hg; omega) | (simp only [List.length_set, List.length_append, List.length_cons, List.length_nil, List.length_map, List.length_take, List.length_drop, List.length_replicate]; omega))) rfl rfl ?_
      refine o_give (g_loadM (evv rfl) (by rfl) (by first | omega | (have := of_decide_eq_true hg; omega) | (simp at hg; omega) | (simp only [List.length_set, List.length_append, List.length_cons, List.length_nil, List.length_map, List.length_take, List.length_drop, List.length_replicate]; omega))) rfl rfl ?_
      refine o_litI rfl (by rfl) rfl (fun _ => ?_)
      refine o_appM (evv rfl) (evv rfl) (by rfl) (by rfl) (by rfl) (by (try simp only [bsOf, List.length_append, List.length_cons, List.length_nil, List.length_take, List.length_drop, List.length_map, List.length_range]); omega) rfl (fun _ => ?_)
      refine o_give (g_assign (evv rfl)) rfl rfl ?_
      refine o_nil ?_
      refine c_blk ?_
      refine c_code ?_
      rename_i nv
      rw [← rot_succ]
      refine r_region (id := 11) ?_
      refine o_give (g_move (evv rfl)) rfl rfl ?_
      refine o_giveN (g_bin (evv rfl) (evv rfl) (by rfl)) (by simp only [inR]; omega) rfl ?_
      refine o_give (g_assign (evv rfl)) rfl rfl ?_
      refine o_nil ?_
      refine c_loop (i + 1, nv) ?_ ?_ (by simp only [s1, s2, Nat.add_zero, Int.natCast_add, Int.cast_ofNat_Int]; repeat (first | exact trivial | refine ⟨rfl, ?_⟩ | refine envsub_v rfl (by first | rfl | (refine int_eq ?_; first | omega | (simp; omega) | (simp; done)) | (refine bool_eq ?_; first | (simp [*]; done) | (simp; done)) | (refine str_eq ?_; simp; done) | (refine ptr_eq ?_; omega) | fail) ?_)) ?_ <;> (try dsimp only)
      · omega
      · omega
      · exact Lay.ent
  · obtain rfl : i = l.length := by omega
    have hrl : (rot l r l.length).length ≤ 1048576 := by rw [rot_len]; exact hl
    have k1 := cnt_all l (fun x => decide (az ≤ x))
    have k2 := cnt_all l (fun x => decide (az < x))
    rw [k1, k2]
    refine r_exit rfl ?_
    refine c_code ?_
    refine r_seq ?_
    refine r_region (id := 17) ?_
    refine o_give (g_move (evv rfl)) rfl rfl ?_
    (refine o_call rfl _ (Ent.refl _) (Reached_c _ _ _ (by first | assumption | (simp; done) | (simp; omega))) rfl ?_; rintro _ _ ⟨az, rfl, hLz, haz⟩; obtain rfl := hLz.symm; clear hLz)
    refine o_give (g_move (evv rfl)) rfl rfl ?_
    refine o_give (g_bin (evv rfl) (evv rfl) (by rfl)) rfl rfl ?_
    refine o_give (g_move (evv rfl)) rfl rfl ?_
    refine o_lazy rfl (fun hg => g_move (by first | exact evv rfl | exact evg rfl (by rw [hp]; rfl) | exact evg rfl hp | exact evg rfl hg | exact evg rfl (by first | (simp_all; done) | (simp [*]; done) | fail) | fail)) rfl rfl ?_
    refine o_lazy rfl (fun hg => g_lenM (by first | exact evv rfl | exact evg rfl (by rw [hp]; rfl) | exact evg rfl hp | exact evg rfl hg | exact evg rfl (by first | (simp_all; done) | (simp [*]; done) | fail) | fail)) rfl rfl ?_
    refine o_lazy rfl (fun hg => g_bin (by first | exact evv rfl | exact evg rfl (by rw [hp]; rfl) | exact evg rfl hp | exact evg rfl hg | exact evg rfl (by first | (simp_all; done) | (simp [*]; done) | fail) | fail) (by first | exact evv rfl | exact evg rfl (by rw [hp]; rfl) | exact evg rfl hp | exact evg rfl hg | exact evg rfl (by first | (simp_all; done) | (simp [*]; done) | fail) | fail) (by rfl)) rfl rfl ?_
    refine o_lazy rfl (fun hg => g_move (by first | exact evv rfl | exact evg rfl (by rw [hp]; rfl) | exact evg rfl hp | exact evg rfl hg | exact evg rfl (by first | (simp_all; done) | (simp [*]; done) | fail) | fail)) rfl rfl ?_
    refine o_lazy rfl (fun hg => g_move (by first | exact evv rfl | exact evg rfl (by rw [hp]; rfl) | exact evg rfl hp | exact evg rfl hg | exact evg rfl (by first | (simp_all; done) | (simp [*]; done) | fail) | fail)) rfl rfl ?_
    refine o_lazy rfl (fun hg => g_move (by first | exact evv rfl | exact evg rfl (by rw [hp]; rfl) | exact evg rfl hp | exact evg rfl hg | exact evg rfl (by first | (simp_all; done) | (simp [*]; done) | fail) | fail)) rfl rfl ?_
    refine o_lazy rfl (fun hg => g_lenM (by first | exact evv rfl | exact evg rfl (by rw [hp]; rfl) | exact evg rfl hp | exact evg rfl hg | exact evg rfl (by first | (simp_all; done) | (simp [*]; done) | fail) | fail)) rfl rfl ?_
    have hbz : reachP l az := by
      by_cases h0 : l.length = 0
      · obtain rfl := List.eq_nil_of_length_eq_zero h0
        exact haz
      · have hr : r < l.length := by
          have h1 : t % 18446744073709551616 % (l.length : Int) < l.length := Int.emod_lt_of_pos _ (by omega)
          omega
        exact reachP_perm (rot_perm l r hr) haz
    obtain rfl := reachP_one hbz hsz
    by_cases h0 : (l.length : Int) = 0
    · have e0 : decide ((l.length : Int) = 0) = true := decide_eq_true h0
      simp only [decide_true, e0, Bool.not_true, Bool.and_false]
      refine o_lazy (v0 := undef) rfl (fun hg => absurd hg (by first | (simp; done) | fail)) rfl rfl ?_
      refine o_lazy (v0 := undef) rfl (fun hg => absurd hg (by first | (simp; done) | fail)) rfl rfl ?_
      refine o_lazy rfl (fun hg => g_move (by first | exact evv rfl | exact evg rfl (by rw [hp]; rfl) | exact evg rfl hp | exact evg rfl hg | exact evg rfl (by first | (simp_all; done) | (simp [*]; done) | fail) | fail)) rfl rfl ?_
      refine o_off rfl rfl rfl ?_
      refine o_off rfl rfl rfl ?_
      refine o_off rfl rfl rfl ?_
      refine o_off rfl rfl rfl ?_
      refine o_off rfl rfl rfl ?_
      refine o_lazy (v0 := undef) rfl (fun hg => absurd hg (by first | (simp; done) | fail)) rfl rfl ?_
      refine o_lazy rfl (fun hg => g_pick (b := true) (by first | exact evv rfl | exact evg rfl (by rw [hp]; rfl) | exact evg rfl hp | exact evg rfl hg | exact evg rfl (by first | (simp_all; done) | (simp [*]; done) | fail) | fail) (fun _ => (by first | exact evv rfl | exact evg rfl (by rw [hp]; rfl) | exact evg rfl hp | exact evg rfl hg | exact evg rfl (by first | (simp_all; done) | (simp [*]; done) | fail) | fail)) (fun h => by cases h)) rfl rfl ?_
      refine o_give (g_pick_and (evv rfl) (evv rfl) (fun hp => (by first | exact evv rfl | exact evg rfl (by rw [hp]; rfl) | exact evg rfl hp | exact evg rfl hg | exact evg rfl (by first | (simp_all; done) | (simp [*]; done) | fail) | fail))) rfl rfl ?_
      refine o_give (g_assign (evv rfl)) rfl rfl ?_
      refine o_nil ?_
      refine c_code ?_
      first | refine r_ret (rs := [.tmp 4]) rfl rfl _ ((Lay.ent (L' := L))) ?_ | refine c_end (rs := [.tmp 4]) rfl rfl _ ((Lay.ent (L' := L))) ?_
      exact ⟨rfl, rfl⟩
    · have e0 : decide ((l.length : Int) = 0) = false := decide_eq_false h0
      obtain ⟨e1, e2⟩ : decide (quo (l.length : Int) ≤ (List.countP (fun x => decide (az ≤ x)) l : Int)) = true ∧ decide ((List.countP (fun x => decide (az < x)) l : Int) < quo (l.length : Int)) = true := by
        rcases hbz with ⟨rfl, _⟩ | ⟨_, _, g1, g2⟩
        · exact absurd rfl h0
        · exact ⟨decide_eq_true g1, decide_eq_true g2⟩
      simp only [decide_true, e0, Bool.not_false, Bool.and_true]
      refine o_sure (t := 67) rfl rfl ?_
      refine o_sure (t := 68) rfl rfl ?_
      refine o_sure (t := 69) rfl rfl ?_
      refine o_gyes rfl ?_
      (refine o_call rfl _ (Ent.refl _) (vQuo_c _ _ (by first | assumption | (simp only [inR]; omega))) rfl ?_; rintro _ _ ⟨rfl, hLz⟩; obtain rfl := hLz.symm; clear hLz)
      refine o_gyes rfl ?_
      refine o_give (g_bin (evv rfl) (evv rfl) (by rfl)) rfl rfl ?_
      refine o_gyes rfl ?_
      refine o_give (g_move (evv rfl)) rfl rfl ?_
      refine o_lazy rfl (fun hg => g_move (by first | exact evv rfl | exact evg rfl (by rw [hp]; rfl) | exact evg rfl hp | exact evg rfl hg | exact evg rfl (by first | (simp_all; done) | (simp [*]; done) | fail) | fail)) rfl rfl ?_
      refine o_lazy rfl (fun hg => g_move (by first | exact evv rfl | exact evg rfl (by rw [hp]; rfl) | exact evg rfl hp | exact evg rfl hg | exact evg rfl (by first | (simp_all; done) | (simp [*]; done) | fail) | fail)) rfl rfl ?_
      refine o_lazy rfl (fun hg => g_lenM (by first | exact evv rfl | exact evg rfl (by rw [hp]; rfl) | exact evg rfl hp | exact evg rfl hg | exact evg rfl (by first | (simp_all; done) | (simp [*]; done) | fail) | fail)) rfl rfl ?_
      simp only [e1]
      refine o_sure (t := 73) rfl rfl ?_
      refine o_sure (t := 74) rfl rfl ?_
      refine o_sure (t := 75) rfl rfl ?_
      refine o_gyes rfl ?_
      (refine o_call rfl _ (Ent.refl _) (vQuo_c _ _ (by first | assumption | (simp only [inR]; omega))) rfl ?_; rintro _ _ ⟨rfl, hLz⟩; obtain rfl := hLz.symm; clear hLz)
      refine o_gyes rfl ?_
      refine o_give (g_bin (evv rfl) (evv rfl) (by rfl)) rfl rfl ?_
      refine o_gyes rfl ?_
      refine o_give (g_pick (b := true) (evv rfl) (fun _ => (evv rfl)) (fun h => by cases h)) rfl rfl ?_
      refine o_lazy rfl (fun hg => g_pick (b := false) (by first | exact evv rfl | exact evg rfl (by rw [hp]; rfl) | exact evg rfl hp | exact evg rfl hg | exact evg rfl (by first | (simp_all; done) | (simp [*]; done) | fail) | fail) (fun h => by cases h) (fun _ => (by first | exact evv rfl | exact evg rfl (by rw [hp]; rfl) | exact evg rfl hp | exact evg rfl hg | exact evg rfl (by first | (simp_all; done) | (simp [*]; done) | fail) | fail))) rfl rfl ?_
      refine o_give (g_pick_and (evv rfl) (evv rfl) (fun hp => (by first | exact evv rfl | exact evg rfl (by rw [hp]; rfl) | exact evg rfl hp | exact evg rfl hg | exact evg rfl (by first | (simp_all; done) | (simp [*]; done) | fail) | fail))) rfl rfl ?_
      refine o_give (g_assign (evv rfl)) rfl rfl ?_
      refine o_nil ?_
      refine c_code ?_
      simp only [e2]
      first | refine r_ret (rs := [.tmp 4]) rfl rfl _ ((Lay.ent (L' := L))) ?_ | refine c_end (rs := [.tmp 4]) rfl rfl _ ((Lay.ent (L' := L))) ?_
      exact ⟨rfl, rfl⟩
end VK
