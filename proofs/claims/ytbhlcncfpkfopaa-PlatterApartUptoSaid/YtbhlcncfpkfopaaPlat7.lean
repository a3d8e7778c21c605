/- same, fits, awake and PlatterPlays, walked. Conditions: few bytes. -/
import Derived.Test.YtbhlcncfpkfopaaPlat6
namespace VK
open Go Go.Proofs
set_option linter.unusedSimpArgs false
set_option linter.unusedVariables false
set_option maxRecDepth 100000
set_option maxHeartbeats 40000000
section
variable {c : Cx} {k : List KI} {E : Env} {L : List Atom} {all rest : List Oper} {d : Nat} {ty : TypeId} {pos : String} {aft : Array Edge}
theorem o_litI {t e : TypeId} {i : TI} {x : Operand} {z : Int} [tu : TyU c.P t (.slice e)] [ti : TyI c.P e i] (hx : ev E x = some (.int .i64 z)) (hsz : i.size = 1) (hd : Nat.blt d c.n = true)
    (hk : ∀ v, Ops c all rest k ((d, .v v) :: E) (sl v (mrow i64v e [z]) :: L)) : Ops c all (⟨some d, .buildSlice t 1 #[(0, x)], ty, pos, aft, none⟩ :: rest) k E L := by
  refine o_lit (i := i) (vs := [.int .i64 z]) (xs := [.int .i64 z]) rfl (by simp [evs, hx]) (by rw [hsz]; rfl) (by intro _ _ _ u hu; simp at hu; subst hu; rfl) (by rw [hsz]; rfl) rfl hd fun v => ?_
  have : (⟨e, i.size, 1, [Value.int .i64 z]⟩ : Row) = mrow i64v e [z] := by rw [hsz]; rfl
  rw [this]
  exact hk v
end
theorem same_c (F : List Atom) (p r : Nat) (x : Pt) (h : x.ok) : Fn Try.prog 20 [.pointer (some ⟨p, 0, none⟩), .pointer (some ⟨r, 0, none⟩)] (rp r x :: pt p x :: F) fun v L' => v = .bool true ∧ L' = rp r x :: pt p x :: F := by
  have hn0 := h.n0
  have hn1 := h.n1
  obtain ⟨b0, s0, b1, s1, lv, am, dn⟩ := x
  dsimp only at hn0 hn1
  refine fn_intro Try.func20 rfl Try.ntmps20 rfl (fun W0 => ?_)
  simp only [argE]
  refine rp_open ?_
  refine r_seq ?_
  refine r_region (id := 0) ?_
  refine o_give (g_assign (evv rfl)) rfl rfl ?_
  refine o_nil ?_
  refine c_code ?_
  refine r_seq ?_
  refine r_seq ?_
  refine r_region (id := 1) ?_
  refine o_give (g_assign (evv rfl)) rfl rfl ?_
  refine o_nil ?_
  refine c_code ?_
  refine r_block ?_
  refine r_loopE (σ := Nat) (fun i => i ≤ 2) (fun i => 2 - i) (fun i => [(5, .v (.int .i64 i))]) [0, 1] (fun i => blk r (rpB b0 b1 s0 s1 lv am dn) :: pt p ⟨b0, s0, b1, s1, lv, am, dn⟩ :: F) 0 (by dsimp only [pickE, pick1, lk2, Nat.reduceBEq, Nat.reduceAdd, Nat.zero_add, cond_true, cond_false] <;> exact rfl) ?_ (by repeat (first | exact trivial | refine ⟨rfl, ?_⟩ | refine envsub_v rfl (by first | rfl | (refine int_eq ?_; first | omega | (simp; omega) | (simp; done)) | (refine bool_eq ?_; first | (simp [*]; done) | (simp; done)) | (refine str_eq ?_; simp; done) | (refine ptr_eq ?_; omega) | fail) ?_)) ?_ ?_
  · exact Nat.zero_le _
  · exact Ent.refl _
  rintro i hi; (try dsimp only at hi); dsimp only [List.cons_append, List.nil_append]
  rcases (by omega : i = 0 ∨ i = 1 ∨ i = 2) with rfl | rfl | rfl
  · refine r_seq ?_
    refine r_seq ?_
    refine r_region (id := 2) ?_
    refine o_give (g_move (evv rfl)) rfl rfl ?_
    refine o_give (g_bin (evv rfl) (evv rfl) (by rfl)) rfl rfl ?_
    refine o_nil ?_
    refine c_code ?_
    refine r_cond_true rfl ?_
    refine r_skip ?_
    refine c_code ?_
    refine r_seq ?_
    refine r_block ?_
    refine r_seq ?_
    refine r_region (id := 4) ?_
    refine o_give (g_move (evv rfl)) rfl rfl ?_
    refine o_give (g_move (evv rfl)) rfl rfl ?_
    (refine o_call rfl _ (PickR.ent (K := pt _)) (Read_c _ _ _ (by assumption) _) rfl ?_; rintro cw _ ⟨-, rfl⟩)
    refine o_give (g_assign (evv rfl)) rfl rfl ?_
    refine o_nil ?_
    refine c_code ?_
    refine r_seq ?_
    refine r_seq ?_
    have e1 : rdT ⟨b0, s0, b1, s1, lv, am, dn⟩ ((0 : Nat) : Int) = b0 := rfl
    have e2 : syT ⟨b0, s0, b1, s1, lv, am, dn⟩ ((0 : Nat) : Int) = (s0 : Int) := rfl
    rw [e1]
    repeat (first | refine r_seq ?_ | refine c_code ?_ | refine c_blk ?_ | refine r_block ?_ | refine r_skip ?_)
    refine r_held (id := 5) [sl cw (bR b0), blk r (rpB b0 b1 s0 s1 lv am dn)] Mixed.h ?_
    refine h_give (i := 0) (by kernel_rfl) rfl (g_move (evv rfl)) rfl rfl ?_
    refine h_give (i := 1) (by kernel_rfl) rfl (g_b2sM (evv rfl)) rfl rfl ?_
    refine h_give (i := 2) (by kernel_rfl) rfl (g_move (evv rfl)) rfl rfl ?_
    refine h_give (i := 3) (by kernel_rfl) rfl (g_move (evv rfl)) rfl rfl ?_
    refine h_give (i := 4) (by kernel_rfl) rfl (g_nil (evv rfl)) rfl rfl ?_
    refine h_give (i := 5) (by kernel_rfl) rfl (g_fld (evv rfl)) rfl rfl ?_
    refine h_give (i := 6) (by kernel_rfl) rfl (g_idxAN (evv rfl) (evv rfl) (by omega)) rfl rfl ?_
    refine h_give (i := 7) (by kernel_rfl) rfl (g_load (evv rfl) (by rfl) (by rfl)) rfl rfl ?_
    refine h_give (i := 8) (by kernel_rfl) rfl (g_binS (evv rfl) (evv rfl) (by rfl)) rfl rfl ?_
    refine h_give (i := 9) (by kernel_rfl) rfl (g_move (evv rfl)) rfl rfl ?_
    simp only [decide_true, Bool.not_true]
    refine h_sure (i := 10) (by kernel_rfl) rfl rfl (g_move (evv rfl)) rfl rfl ?_
    refine h_sure (i := 11) (by kernel_rfl) rfl rfl (g_move (evv rfl)) rfl rfl ?_
    refine h_sure (i := 13) (by kernel_rfl) rfl rfl (g_move (evv rfl)) rfl rfl ?_
    refine h_sure (i := 14) (by kernel_rfl) rfl rfl (g_move (evv rfl)) rfl rfl ?_
    refine h_sure (i := 15) (by kernel_rfl) rfl rfl (g_nil (evv rfl)) rfl rfl ?_
    refine h_sure (i := 16) (by kernel_rfl) rfl rfl (g_fld (evv rfl)) rfl rfl ?_
    refine h_sure (i := 17) (by kernel_rfl) rfl rfl (g_idxAN (evv rfl) (evv rfl) (by omega)) rfl rfl ?_
    refine h_sure (i := 18) (by kernel_rfl) rfl rfl (g_load (evv rfl) (by rfl) (by rfl)) rfl rfl ?_
    refine h_one (i := 12) (by kernel_rfl) rfl (Lay.ent) ?_
    refine o_gyes rfl ?_
    (refine o_call rfl _ (PickR.ent (K := pt _)) (Synced_c _ _ _ _) rfl ?_; rintro _ _ ⟨rfl, rfl⟩)
    refine o_nil ?_
    refine h_sure (i := 19) (by kernel_rfl) rfl rfl (g_bin (evv rfl) (evv rfl) (by rfl)) rfl rfl ?_
    refine h_give (i := 20) (by kernel_rfl) rfl (g_pick (b := false) (evv rfl) (fun h => by cases h) (fun _ => (evv rfl))) rfl rfl ?_
    refine h_done (by kernel_rfl) (Lay.ent) ?_
    rw [e2]
    simp only [decide_true, Bool.not_true]
    refine c_code ?_
    refine r_cond_false rfl ?_
    refine r_skip ?_
    refine c_code ?_
    refine r_seq ?_
    refine r_region (id := 7) ?_
    refine o_give (g_assign (evv rfl)) rfl rfl ?_
    refine o_nil ?_
    refine c_code ?_
    refine r_block ?_
    refine r_loopE (σ := Nat × List UInt8) (fun ⟨j, l⟩ => j ≤ b0.length ∧ l.length = b0.length) (fun ⟨j, l⟩ => b0.length - j) (fun ⟨j, l⟩ => [(7, .v (.int .i64 j))]) [0, 1, 5, 6] (fun ⟨j, l⟩ => sl cw (bR l) :: blk r (rpB b0 b1 s0 s1 lv am dn) :: pt p ⟨b0, s0, b1, s1, lv, am, dn⟩ :: F) (0, b0) (by dsimp only [pickE, pick1, lk2, Nat.reduceBEq, Nat.reduceAdd, Nat.zero_add, cond_true, cond_false] <;> exact rfl) ?_ (by repeat (first | exact trivial | refine ⟨rfl, ?_⟩ | refine envsub_v rfl (by first | rfl | (refine int_eq ?_; first | omega | (simp; omega) | (simp; done)) | (refine bool_eq ?_; first | (simp [*]; done) | (simp; done)) | (refine str_eq ?_; simp; done) | (refine ptr_eq ?_; omega) | fail) ?_)) ?_ ?_
    · exact ⟨Nat.zero_le _, rfl⟩
    · exact Lay.ent
    rintro ⟨j, l⟩ ⟨hj, hl⟩; dsimp only [List.cons_append, List.nil_append]
    refine r_seq ?_
    refine r_seq ?_
    refine r_region (id := 8) ?_
    refine o_give (g_move (evv rfl)) rfl rfl ?_
    refine o_give (g_move (evv rfl)) rfl rfl ?_
    refine o_give (g_lenM (evv rfl)) rfl rfl ?_
    refine o_give (g_bin (evv rfl) (evv rfl) (by rfl)) rfl rfl ?_
    refine o_nil ?_
    refine c_code ?_
    refine r_cond rfl (fun hj1 => ?_) (fun hj1 => ?_) <;> (try simp only [decide_eq_true_eq, decide_eq_false_iff_not, Bool.and_eq_true, Bool.or_eq_true, Bool.not_eq_true', Bool.and_eq_false_iff, Bool.or_eq_false_iff, Bool.not_eq_false', Bool.not_eq_true, Bool.not_eq_false, Bool.true_eq_false, Bool.false_eq_true, Int.not_lt, Int.not_le, not_and, not_or, ne_eq] at hj1)
    · refine r_skip ?_
      refine c_code ?_
      refine r_seq ?_
      refine r_block ?_
      refine r_region (id := 10) ?_
      refine o_give (g_move (evv rfl)) rfl rfl ?_
      refine o_give (g_move (evv rfl)) rfl rfl ?_
      refine o_give (g_idxMN (evv rfl) (evv rfl) (by rfl) (by first | omega | (have := of_decide_eq_true hg; omega) | (simp at hg; omega) | (simp only [List.length_set, List.length_append, List.length_cons, List.length_nil, List.length_map, List.length_take, List.length_drop, List.length_replicate]; omega))) rfl rfl ?_
      refine o_storeB (evv rfl) (evv rfl) (by omega) (by omega) (by rfl) (by first | omega | (have := of_decide_eq_true hg; omega) | (simp at hg; omega) | (simp only [List.length_set, List.length_append, List.length_cons, List.length_nil, List.length_map, List.length_take, List.length_drop, List.length_replicate]; omega)) ?_
      refine o_nil ?_
      refine c_blk ?_
      refine c_code ?_
      refine r_region (id := 9) ?_
      refine o_give (g_move (evv rfl)) rfl rfl ?_
      refine o_giveN (g_bin (evv rfl) (evv rfl) (by rfl)) (by simp only [inR]; omega) rfl ?_
      refine o_give (g_assign (evv rfl)) rfl rfl ?_
      refine o_nil ?_
      refine c_loop (j + 1, l.set j (UInt8.ofNat (238 : Int).toNat)) ?_ ?_ (by repeat (first | exact trivial | refine ⟨rfl, ?_⟩ | refine envsub_v rfl (by first | rfl | (refine int_eq ?_; first | omega | (simp; omega) | (simp; done)) | (refine bool_eq ?_; first | (simp [*]; done) | (simp; done)) | (refine str_eq ?_; simp; done) | (refine ptr_eq ?_; omega) | fail) ?_)) ?_ <;> (try dsimp only)
      · exact ⟨by omega, by simpa using hl⟩
      · omega
      · exact Ent.refl _
    · refine r_exit rfl ?_
      refine c_blk ?_
      refine c_code ?_
      refine r_region (id := 3) ?_
      refine o_give (g_move (evv rfl)) rfl rfl ?_
      refine o_giveN (g_bin (evv rfl) (evv rfl) (by rfl)) (by simp only [inR]; omega) rfl ?_
      refine o_give (g_assign (evv rfl)) rfl rfl ?_
      refine o_nil ?_
      refine c_loop (0 + 1) ?_ ?_ (by repeat (first | exact trivial | refine ⟨rfl, ?_⟩ | refine envsub_v rfl (by first | rfl | (refine int_eq ?_; first | omega | (simp; omega) | (simp; done)) | (refine bool_eq ?_; first | (simp [*]; done) | (simp; done)) | (refine str_eq ?_; simp; done) | (refine ptr_eq ?_; omega) | fail) ?_)) ?_ <;> (try dsimp only)
      · omega
      · omega
      · exact Lay.ent
  · refine r_seq ?_
    refine r_seq ?_
    refine r_region (id := 2) ?_
    refine o_give (g_move (evv rfl)) rfl rfl ?_
    refine o_give (g_bin (evv rfl) (evv rfl) (by rfl)) rfl rfl ?_
    refine o_nil ?_
    refine c_code ?_
    refine r_cond_true rfl ?_
    refine r_skip ?_
    refine c_code ?_
    refine r_seq ?_
    refine r_block ?_
    refine r_seq ?_
    refine r_region (id := 4) ?_
    refine o_give (g_move (evv rfl)) rfl rfl ?_
    refine o_give (g_move (evv rfl)) rfl rfl ?_
    (refine o_call rfl _ (PickR.ent (K := pt _)) (Read_c _ _ _ (by assumption) _) rfl ?_; rintro cw _ ⟨-, rfl⟩)
    refine o_give (g_assign (evv rfl)) rfl rfl ?_
    refine o_nil ?_
    refine c_code ?_
    refine r_seq ?_
    refine r_seq ?_
    have e1 : rdT ⟨b0, s0, b1, s1, lv, am, dn⟩ ((1 : Nat) : Int) = b1 := rfl
    have e2 : syT ⟨b0, s0, b1, s1, lv, am, dn⟩ ((1 : Nat) : Int) = (s1 : Int) := rfl
    rw [e1]
    repeat (first | refine r_seq ?_ | refine c_code ?_ | refine c_blk ?_ | refine r_block ?_ | refine r_skip ?_)
    refine r_held (id := 5) [sl cw (bR b1), blk r (rpB b0 b1 s0 s1 lv am dn)] Mixed.h ?_
    refine h_give (i := 0) (by kernel_rfl) rfl (g_move (evv rfl)) rfl rfl ?_
    refine h_give (i := 1) (by kernel_rfl) rfl (g_b2sM (evv rfl)) rfl rfl ?_
    refine h_give (i := 2) (by kernel_rfl) rfl (g_move (evv rfl)) rfl rfl ?_
    refine h_give (i := 3) (by kernel_rfl) rfl (g_move (evv rfl)) rfl rfl ?_
    refine h_give (i := 4) (by kernel_rfl) rfl (g_nil (evv rfl)) rfl rfl ?_
    refine h_give (i := 5) (by kernel_rfl) rfl (g_fld (evv rfl)) rfl rfl ?_
    refine h_give (i := 6) (by kernel_rfl) rfl (g_idxAN (evv rfl) (evv rfl) (by omega)) rfl rfl ?_
    refine h_give (i := 7) (by kernel_rfl) rfl (g_load (evv rfl) (by rfl) (by rfl)) rfl rfl ?_
    refine h_give (i := 8) (by kernel_rfl) rfl (g_binS (evv rfl) (evv rfl) (by rfl)) rfl rfl ?_
    refine h_give (i := 9) (by kernel_rfl) rfl (g_move (evv rfl)) rfl rfl ?_
    simp only [decide_true, Bool.not_true]
    refine h_sure (i := 10) (by kernel_rfl) rfl rfl (g_move (evv rfl)) rfl rfl ?_
    refine h_sure (i := 11) (by kernel_rfl) rfl rfl (g_move (evv rfl)) rfl rfl ?_
    refine h_sure (i := 13) (by kernel_rfl) rfl rfl (g_move (evv rfl)) rfl rfl ?_
    refine h_sure (i := 14) (by kernel_rfl) rfl rfl (g_move (evv rfl)) rfl rfl ?_
    refine h_sure (i := 15) (by kernel_rfl) rfl rfl (g_nil (evv rfl)) rfl rfl ?_
    refine h_sure (i := 16) (by kernel_rfl) rfl rfl (g_fld (evv rfl)) rfl rfl ?_
    refine h_sure (i := 17) (by kernel_rfl) rfl rfl (g_idxAN (evv rfl) (evv rfl) (by omega)) rfl rfl ?_
    refine h_sure (i := 18) (by kernel_rfl) rfl rfl (g_load (evv rfl) (by rfl) (by rfl)) rfl rfl ?_
    refine h_one (i := 12) (by kernel_rfl) rfl (Lay.ent) ?_
    refine o_gyes rfl ?_
    (refine o_call rfl _ (PickR.ent (K := pt _)) (Synced_c _ _ _ _) rfl ?_; rintro _ _ ⟨rfl, rfl⟩)
    refine o_nil ?_
    refine h_sure (i := 19) (by kernel_rfl) rfl rfl (g_bin (evv rfl) (evv rfl) (by rfl)) rfl rfl ?_
    refine h_give (i := 20) (by kernel_rfl) rfl (g_pick (b := false) (evv rfl) (fun h => by cases h) (fun _ => (evv rfl))) rfl rfl ?_
    refine h_done (by kernel_rfl) (Lay.ent) ?_
    rw [e2]
    simp only [decide_true, Bool.not_true]
    refine c_code ?_
    refine r_cond_false rfl ?_
    refine r_skip ?_
    refine c_code ?_
    refine r_seq ?_
    refine r_region (id := 7) ?_
    refine o_give (g_assign (evv rfl)) rfl rfl ?_
    refine o_nil ?_
    refine c_code ?_
    refine r_block ?_
    refine r_loopE (σ := Nat × List UInt8) (fun ⟨j, l⟩ => j ≤ b1.length ∧ l.length = b1.length) (fun ⟨j, l⟩ => b1.length - j) (fun ⟨j, l⟩ => [(7, .v (.int .i64 j))]) [0, 1, 5, 6] (fun ⟨j, l⟩ => sl cw (bR l) :: blk r (rpB b0 b1 s0 s1 lv am dn) :: pt p ⟨b0, s0, b1, s1, lv, am, dn⟩ :: F) (0, b1) (by dsimp only [pickE, pick1, lk2, Nat.reduceBEq, Nat.reduceAdd, Nat.zero_add, cond_true, cond_false] <;> exact rfl) ?_ (by repeat (first | exact trivial | refine ⟨rfl, ?_⟩ | refine envsub_v rfl (by first | rfl | (refine int_eq ?_; first | omega | (simp; omega) | (simp; done)) | (refine bool_eq ?_; first | (simp [*]; done) | (simp; done)) | (refine str_eq ?_; simp; done) | (refine ptr_eq ?_; omega) | fail) ?_)) ?_ ?_
    · exact ⟨Nat.zero_le _, rfl⟩
    · exact Lay.ent
    rintro ⟨j, l⟩ ⟨hj, hl⟩; dsimp only [List.cons_append, List.nil_append]
    refine r_seq ?_
    refine r_seq ?_
    refine r_region (id := 8) ?_
    refine o_give (g_move (evv rfl)) rfl rfl ?_
    refine o_give (g_move (evv rfl)) rfl rfl ?_
    refine o_give (g_lenM (evv rfl)) rfl rfl ?_
    refine o_give (g_bin (evv rfl) (evv rfl) (by rfl)) rfl rfl ?_
    refine o_nil ?_
    refine c_code ?_
    refine r_cond rfl (fun hj1 => ?_) (fun hj1 => ?_) <;> (try simp only [decide_eq_true_eq, decide_eq_false_iff_not, Bool.and_eq_true, Bool.or_eq_true, Bool.not_eq_true', Bool.and_eq_false_iff, Bool.or_eq_false_iff, Bool.not_eq_false', Bool.not_eq_true, Bool.not_eq_false, Bool.true_eq_false, Bool.false_eq_true, Int.not_lt, Int.not_le, not_and, not_or, ne_eq] at hj1)
    · refine r_skip ?_
      refine c_code ?_
      refine r_seq ?_
      refine r_block ?_
      refine r_region (id := 10) ?_
      refine o_give (g_move (evv rfl)) rfl rfl ?_
      refine o_give (g_move (evv rfl)) rfl rfl ?_
      refine o_give (g_idxMN (evv rfl) (evv rfl) (by rfl) (by first | omega | (have := of_decide_eq_true hg; omega) | (simp at hg; omega) | (simp only [List.length_set, List.length_append, List.length_cons, List.length_nil, List.length_map, List.length_take, List.length_drop, List.length_replicate]; omega))) rfl rfl ?_
      refine o_storeB (evv rfl) (evv rfl) (by omega) (by omega) (by rfl) (by first | omega | (have := of_decide_eq_true hg; omega) | (simp at hg; omega) | (simp only [List.length_set, List.length_append, List.length_cons, List.length_nil, List.length_map, List.length_take, List.length_drop, List.length_replicate]; omega)) ?_
      refine o_nil ?_
      refine c_blk ?_
      refine c_code ?_
      refine r_region (id := 9) ?_
      refine o_give (g_move (evv rfl)) rfl rfl ?_
      refine o_giveN (g_bin (evv rfl) (evv rfl) (by rfl)) (by simp only [inR]; omega) rfl ?_
      refine o_give (g_assign (evv rfl)) rfl rfl ?_
      refine o_nil ?_
      refine c_loop (j + 1, l.set j (UInt8.ofNat (238 : Int).toNat)) ?_ ?_ (by repeat (first | exact trivial | refine ⟨rfl, ?_⟩ | refine envsub_v rfl (by first | rfl | (refine int_eq ?_; first | omega | (simp; omega) | (simp; done)) | (refine bool_eq ?_; first | (simp [*]; done) | (simp; done)) | (refine str_eq ?_; simp; done) | (refine ptr_eq ?_; omega) | fail) ?_)) ?_ <;> (try dsimp only)
      · exact ⟨by omega, by simpa using hl⟩
      · omega
      · exact Ent.refl _
    · refine r_exit rfl ?_
      refine c_blk ?_
      refine c_code ?_
      refine r_region (id := 3) ?_
      refine o_give (g_move (evv rfl)) rfl rfl ?_
      refine o_giveN (g_bin (evv rfl) (evv rfl) (by rfl)) (by simp only [inR]; omega) rfl ?_
      refine o_give (g_assign (evv rfl)) rfl rfl ?_
      refine o_nil ?_
      refine c_loop (1 + 1) ?_ ?_ (by repeat (first | exact trivial | refine ⟨rfl, ?_⟩ | refine envsub_v rfl (by first | rfl | (refine int_eq ?_; first | omega | (simp; omega) | (simp; done)) | (refine bool_eq ?_; first | (simp [*]; done) | (simp; done)) | (refine str_eq ?_; simp; done) | (refine ptr_eq ?_; omega) | fail) ?_)) ?_ <;> (try dsimp only)
      · omega
      · omega
      · exact Lay.ent
  · refine r_seq ?_
    refine r_seq ?_
    refine r_region (id := 2) ?_
    refine o_give (g_move (evv rfl)) rfl rfl ?_
    refine o_give (g_bin (evv rfl) (evv rfl) (by rfl)) rfl rfl ?_
    refine o_nil ?_
    refine c_code ?_
    refine r_cond_false rfl ?_
    refine r_exit rfl ?_
    refine c_code ?_
    refine r_seq ?_
    skip
    repeat (first | refine r_seq ?_ | refine c_code ?_ | refine c_blk ?_ | refine r_block ?_ | refine r_skip ?_)
    refine r_held (id := 11) [blk r (rpB b0 b1 s0 s1 lv am dn)] Mixed.h ?_
    refine h_give (i := 0) (by kernel_rfl) rfl (g_move (evv rfl)) rfl rfl ?_
    refine h_give (i := 2) (by kernel_rfl) rfl (g_move (evv rfl)) rfl rfl ?_
    refine h_give (i := 3) (by kernel_rfl) rfl (g_nil (evv rfl)) rfl rfl ?_
    refine h_give (i := 4) (by kernel_rfl) rfl (g_fld (evv rfl)) rfl rfl ?_
    refine h_give (i := 5) (by kernel_rfl) rfl (g_load (evv rfl) (by rfl) (by rfl)) rfl rfl ?_
    refine h_one (i := 1) (by kernel_rfl) rfl (Lay.ent) ?_
    (refine o_call rfl _ (PickR.ent (K := pt _)) (Live_c _ _ _) rfl ?_; rintro _ _ ⟨rfl, rfl⟩)
    refine o_nil ?_
    refine h_give (i := 6) (by kernel_rfl) rfl (g_bin (evv rfl) (evv rfl) (by rfl)) rfl rfl ?_
    refine h_give (i := 7) (by kernel_rfl) rfl (g_move (evv rfl)) rfl rfl ?_
    simp only [decide_true]
    refine h_sure (i := 8) (by kernel_rfl) rfl rfl (g_move (evv rfl)) rfl rfl ?_
    refine h_sure (i := 10) (by kernel_rfl) rfl rfl (g_move (evv rfl)) rfl rfl ?_
    refine h_sure (i := 11) (by kernel_rfl) rfl rfl (g_nil (evv rfl)) rfl rfl ?_
    refine h_sure (i := 12) (by kernel_rfl) rfl rfl (g_fld (evv rfl)) rfl rfl ?_
    refine h_sure (i := 13) (by kernel_rfl) rfl rfl (g_load (evv rfl) (by rfl) (by rfl)) rfl rfl ?_
    refine h_one (i := 9) (by kernel_rfl) rfl (Lay.ent) ?_
    refine o_gyes rfl ?_
    (refine o_call rfl _ (PickR.ent (K := pt _)) (Down_c _ _ _) rfl ?_; rintro _ _ ⟨rfl, rfl⟩)
    refine o_nil ?_
    refine h_sure (i := 14) (by kernel_rfl) rfl rfl (g_binB TyU.h (evv rfl) (evv rfl) (by rfl)) rfl rfl ?_
    refine h_give (i := 15) (by kernel_rfl) rfl (g_pick (b := true) (evv rfl) (fun _ => (evv rfl)) (fun h => by cases h)) rfl rfl ?_
    refine h_give (i := 16) (by kernel_rfl) rfl (g_assign (evv rfl)) rfl rfl ?_
    refine h_done (by kernel_rfl) (Lay.ent) ?_
    refine c_code ?_
    first | refine r_ret (rs := [.tmp 4]) rfl rfl _ ((Lay.ent (L' := blk r (rpB b0 b1 s0 s1 lv am dn) :: pt p ⟨b0, s0, b1, s1, lv, am, dn⟩ :: F))) ?_ | refine c_end (rs := [.tmp 4]) rfl rfl _ ((Lay.ent (L' := blk r (rpB b0 b1 s0 s1 lv am dn) :: pt p ⟨b0, s0, b1, s1, lv, am, dn⟩ :: F))) ?_
    refine ⟨?_, rfl⟩
    exact bool_eq (by simp)
theorem awake_c (L : List Atom) : Fn Try.prog 7 [] L fun v L' => v = .bool true ∧ L' = L := by
  have k0 : zeroPt.ok := ⟨.inl rfl, Nat.le_refl _, Nat.le_refl _, Nat.zero_le _, Nat.zero_le _, Nat.zero_le _⟩
  have k1 : (⟨[97, 98], 0, [], 0, 0, 0, false⟩ : Pt).ok := ⟨.inl rfl, by decide, by decide, by decide, by decide, by decide⟩
  have k2 : (⟨[97, 98], 2, [], 0, 0, 0, false⟩ : Pt).ok := ⟨.inl rfl, by decide, by decide, by decide, by decide, by decide⟩
  have k3 : (⟨[97, 98, 99, 100], 2, [], 0, 0, 0, false⟩ : Pt).ok := ⟨.inl rfl, by decide, by decide, by decide, by decide, by decide⟩
  have k4 : (⟨[97, 98, 99], 3, [], 0, 0, 0, false⟩ : Pt).ok := ⟨.inl rfl, by decide, by decide, by decide, by decide, by decide⟩
  have k5 : (wipT ⟨[97, 98, 99], 3, [], 0, 0, 0, false⟩ 0).2.ok := k4
  haveI hnil : ∀ L, Rd L (.slice none 0 0) (bR []) := fun L => Rd.nilM by8 _
  have hks : ∀ k ∈ [(1 : Int)], inR .i64 k := fun k hk => by simp at hk; subst hk; simp [inR]
  have l2 : ([97, 98] : List UInt8).length ≤ 1000000000 := by decide
  have l3 : ([99, 100] : List UInt8).length ≤ 1000000000 := by decide
  have l0 : ([] : List UInt8).length ≤ 1000000000 := by decide
  refine fn_intro Try.func7 rfl Try.ntmps7 rfl (fun W0 => ?_)
  simp only [argE]
  refine r_seq ?_
  refine r_region (id := 0) ?_
  refine o_give (g_assign (evv rfl)) rfl rfl ?_
  refine o_nil ?_
  refine c_code ?_
  refine r_seq ?_
  refine r_region (id := 1) ?_
  (refine o_call rfl _ (Ent.refl _) (New_c _) rfl ?_; rintro _ _ ⟨np, rfl, rfl⟩)
  refine o_give (g_assign (evv rfl)) rfl rfl ?_
  refine o_nil ?_
  refine c_code ?_
  refine r_seq ?_
  refine r_seq ?_
  refine r_region (id := 2) ?_
  refine o_give (g_move (evv rfl)) rfl rfl ?_
  refine o_give (g_pnil TyU.h (evv rfl) (evv rfl) (by simp) (by rfl)) rfl rfl ?_
  refine o_nil ?_
  refine c_code ?_
  refine r_cond_false rfl ?_
  refine r_skip ?_
  refine c_code ?_
  refine r_seq ?_
  refine r_region (id := 4) ?_
  refine o_give (g_move (evv rfl)) rfl rfl ?_
  refine o_litBs rfl rfl (by simp only [okB, and_true]; omega) rfl (by rfl) rfl rfl (fun _ => ?_)
  refine o_mark (evv rfl) (by first | exact Nat.succ_pos _ | (simp [mrow]; done)) rfl ?_
  (refine o_call rfl _ (PickR.ent (K := pt _)) (Append_c _ _ _ (by assumption) _ _ _ (by first | assumption | omega)) rfl ?_; rintro _ _ ⟨rfl, rfl⟩)
  refine o_give (g_assign (evv rfl)) rfl rfl ?_
  refine o_nil ?_
  refine c_code ?_
  refine r_seq ?_
  rw [show appT zeroPt 0 (bsOf [Value.int IntKind.u8 97, Value.int IntKind.u8 98]) = (0, ⟨[97, 98], 0, [], 0, 0, 0, false⟩) from rfl]
  refine r_region (id := 5) ?_
  refine o_give (g_move (evv rfl)) rfl rfl ?_
  (refine o_call rfl _ (PickR.ent (K := pt _)) (Sync_c _ _ _ (by assumption) _) rfl ?_; rintro _ _ ⟨rfl, rfl⟩)
  refine o_give (g_assign (evv rfl)) rfl rfl ?_
  refine o_nil ?_
  refine c_code ?_
  refine r_seq ?_
  rw [show synT ⟨[97, 98], 0, [], 0, 0, 0, false⟩ 0 = (0, ⟨[97, 98], 2, [], 0, 0, 0, false⟩) from rfl]
  refine r_region (id := 6) ?_
  refine o_give (g_move (evv rfl)) rfl rfl ?_
  refine o_litBs rfl rfl (by simp only [okB, and_true]; omega) rfl (by rfl) rfl rfl (fun _ => ?_)
  refine o_mark (evv rfl) (by first | exact Nat.succ_pos _ | (simp [mrow]; done)) rfl ?_
  (refine o_call rfl _ (PickR.ent (K := pt _)) (Append_c _ _ _ (by assumption) _ _ _ (by first | assumption | omega)) rfl ?_; rintro _ _ ⟨rfl, rfl⟩)
  refine o_nil ?_
  refine c_code ?_
  refine r_seq ?_
  rw [show appT ⟨[97, 98], 2, [], 0, 0, 0, false⟩ 0 (bsOf [Value.int IntKind.u8 99, Value.int IntKind.u8 100]) = (0, ⟨[97, 98, 99, 100], 2, [], 0, 0, 0, false⟩) from rfl]
  refine r_region (id := 7) ?_
  refine o_give (g_move (evv rfl)) rfl rfl ?_
  refine o_litI rfl (by rfl) rfl (fun _ => ?_)
  (refine o_call rfl _ (PickR.ent (K := pt _)) (Cut_c _ _ _ (by assumption) _ _ (by assumption)) rfl ?_; rintro _ _ ⟨rfl, rfl⟩)
  refine o_nil ?_
  refine c_code ?_
  refine r_seq ?_
  rw [show cutT ⟨[97, 98, 99, 100], 2, [], 0, 0, 0, false⟩ [1] = ⟨[97, 98, 99], 3, [], 0, 0, 0, false⟩ from rfl]
  refine r_region (id := 8) ?_
  refine o_give (g_move (evv rfl)) rfl rfl ?_
  refine o_give (g_bin (evv rfl) (evv rfl) (by rfl)) rfl rfl ?_
  refine o_give (g_move (evv rfl)) rfl rfl ?_
  refine o_gyes rfl ?_
  refine o_give (g_move (evv rfl)) rfl rfl ?_
  refine o_gyes rfl ?_
  refine o_give (g_bin (evv rfl) (evv rfl) (by rfl)) rfl rfl ?_
  refine o_give (g_pick (b := true) (evv rfl) (fun _ => (evv rfl)) (fun h => by cases h)) rfl rfl ?_
  refine o_give (g_move (evv rfl)) rfl rfl ?_
  refine o_gyes rfl ?_
  refine o_give (g_move (evv rfl)) rfl rfl ?_
  refine o_gyes rfl ?_
  (refine o_call rfl _ (PickR.ent (K := pt _)) (Read_c _ _ _ (by assumption) _) rfl ?_; rintro cw _ ⟨-, rfl⟩)
  refine o_gyes rfl ?_
  refine o_give (g_b2sM (evv rfl)) rfl rfl ?_
  refine o_gyes rfl ?_
  refine o_give (g_binS (evv rfl) (evv rfl) (by rfl)) rfl rfl ?_
  refine o_give (g_pick (b := true) (evv rfl) (fun _ => (evv rfl)) (fun h => by cases h)) rfl rfl ?_
  refine o_give (g_move (evv rfl)) rfl rfl ?_
  refine o_gyes rfl ?_
  refine o_give (g_move (evv rfl)) rfl rfl ?_
  refine o_gyes rfl ?_
  (refine o_call rfl _ (PickR.ent (K := pt _)) (Synced_c _ _ _ _) rfl ?_; rintro _ _ ⟨rfl, rfl⟩)
  refine o_gyes rfl ?_
  refine o_give (g_bin (evv rfl) (evv rfl) (by rfl)) rfl rfl ?_
  refine o_give (g_pick (b := true) (evv rfl) (fun _ => (evv rfl)) (fun h => by cases h)) rfl rfl ?_
  refine o_give (g_move (evv rfl)) rfl rfl ?_
  refine o_gyes rfl ?_
  refine o_give (g_move (evv rfl)) rfl rfl ?_
  refine o_gyes rfl ?_
  (refine o_call rfl _ (PickR.ent (K := pt _)) (Wipe_c _ _ _ (by assumption) _) rfl ?_; rintro _ _ ⟨rfl, rfl⟩)
  refine o_gyes rfl ?_
  refine o_give (g_bin (evv rfl) (evv rfl) (by rfl)) rfl rfl ?_
  refine o_give (g_pick (b := true) (evv rfl) (fun _ => (evv rfl)) (fun h => by cases h)) rfl rfl ?_
  refine o_give (g_move (evv rfl)) rfl rfl ?_
  refine o_gyes rfl ?_
  refine o_give (g_move (evv rfl)) rfl rfl ?_
  refine o_gyes rfl ?_
  (refine o_call rfl _ (PickR.ent (K := pt _)) (Append_c _ _ _ (by assumption) _ _ _ (by first | assumption | omega)) rfl ?_; rintro _ _ ⟨rfl, rfl⟩)
  refine o_gyes rfl ?_
  refine o_give (g_bin (evv rfl) (evv rfl) (by rfl)) rfl rfl ?_
  refine o_give (g_pick (b := true) (evv rfl) (fun _ => (evv rfl)) (fun h => by cases h)) rfl rfl ?_
  refine o_give (g_assign (evv rfl)) rfl rfl ?_
  refine o_nil ?_
  refine c_code ?_
  skip
  first | refine r_ret (rs := [.tmp 0]) rfl rfl _ ((Lay.ent (L' := L))) ?_ | refine c_end (rs := [.tmp 0]) rfl rfl _ ((Lay.ent (L' := L))) ?_
  refine ⟨?_, rfl⟩
  exact bool_eq (by decide)
end VK
