/- The reference's Next. Conditions: none. -/
import Derived.Test.YtdgenjdphmclhaaRFrame
namespace VK
open Go Go.Proofs
set_option linter.unusedSimpArgs false
set_option linter.unusedVariables false
set_option maxRecDepth 100000
set_option maxHeartbeats 40000000
/-- what of a number in four bytes lies from byte j on -/
def hiB (b : List UInt8) : Nat → Nat
  | 0 => unfourB b
  | 1 => (b.getD 1 default).toNat + (b.getD 2 default).toNat * 256 + (b.getD 3 default).toNat * 65536
  | 2 => (b.getD 2 default).toNat + (b.getD 3 default).toNat * 256
  | 3 => (b.getD 3 default).toNat
  | _ => 0
theorem hiB_step (b : List UInt8) {j : Nat} (h : j < 4) : hiB b j = hiB b (j + 1) * 256 + (b.getD j default).toNat := by
  rcases (by omega : j = 0 ∨ j = 1 ∨ j = 2 ∨ j = 3) with rfl | rfl | rfl | rfl <;> simp only [hiB, unfourB] <;> omega
theorem hiB_le (b : List UInt8) (j : Nat) : hiB b j ≤ 4294967295 := by
  have a0 := (b.getD 0 default).toNat_lt
  have a1 := (b.getD 1 default).toNat_lt
  have a2 := (b.getD 2 default).toNat_lt
  have a3 := (b.getD 3 default).toNat_lt
  match j with
  | 0 => simp only [hiB, unfourB]; omega
  | 1 => simp only [hiB]; omega
  | 2 => simp only [hiB]; omega
  | 3 => simp only [hiB]; omega
  | _ + 4 => simp only [hiB]; omega
theorem gdrop (b : List UInt8) (n i : Nat) : (b.drop n).getD i default = b.getD (n + i) default := by
  simp only [List.getD_eq_getElem?_getD, List.getElem?_drop]
theorem rNext_c (L : List Atom) (v : Value) (b : List UInt8) (hb : b.length ≤ 140737488355000) [rd : Rd L v (mrow by8 5 b)] :
    Fn Try.prog 17 [v] L fun w L' => ∃ f, w = .tuple #[f, .int .i64 ((nextR b).2.1 : Int), .int .i64 (nextR b).2.2] ∧ L' = sl f (mrow by8 5 (nextR b).1) :: L := by
  refine fn_intro Try.func17 rfl Try.ntmps17 rfl (fun W0 => ?_)
  simp only [argE]
  refine r_seq ?_
  refine r_region (id := 0) ?_
  refine o_give (g_assign (evv rfl)) rfl rfl ?_
  refine o_give (g_assign (evv rfl)) rfl rfl ?_
  refine o_give (g_assign (evv rfl)) rfl rfl ?_
  refine o_nil ?_
  refine c_code ?_
  refine r_seq ?_
  refine r_seq ?_
  refine r_region (id := 1) ?_
  refine o_give (g_move (evv rfl)) rfl rfl ?_
  refine o_give (g_lenM (evv rfl)) rfl rfl ?_
  refine o_give (g_bin (evv rfl) (evv rfl) (by rfl)) rfl rfl ?_
  refine o_nil ?_
  refine c_code ?_
  refine r_cond rfl (fun h1 => ?_) (fun h1 => ?_) <;> (try simp only [decide_eq_true_eq, decide_eq_false_iff_not, Bool.and_eq_true, Bool.or_eq_true, Bool.not_eq_true', Bool.and_eq_false_iff, Bool.or_eq_false_iff, Bool.not_eq_false', Bool.not_eq_true, Bool.not_eq_false, Bool.true_eq_false, Bool.false_eq_true, Int.not_lt, Int.not_le, not_and, not_or, ne_eq] at h1)
  · rw [show nextR b = ([], 0, 20) from if_pos (by omega)]
    refine r_seq ?_
    refine r_region (id := 2) ?_
    refine o_give (g_assign (evv rfl)) rfl rfl ?_
    refine o_give (g_assign (evv rfl)) rfl rfl ?_
    refine o_give (g_assign (evv rfl)) rfl rfl ?_
    refine o_nil ?_
    refine c_code ?_
    first | refine r_ret (rs := [.tmp 2, .tmp 3, .tmp 4]) rfl rfl _ ((Ent.nilM by8 5)) ?_ | refine c_end (rs := [.tmp 2, .tmp 3, .tmp 4]) rfl rfl _ ((Ent.nilM by8 5)) ?_
    exact ⟨_, rfl, rfl⟩
  · have g1 : ¬ b.length < 4 := by omega
    have hb4 : 4 ≤ b.length := by omega
    refine r_skip ?_
    refine c_code ?_
    refine r_seq ?_
    refine r_region (id := 3) ?_
    refine o_give (g_assign (evv rfl)) rfl rfl ?_
    refine o_nil ?_
    refine c_code ?_
    refine r_seq ?_
    refine r_seq ?_
    refine r_region (id := 4) ?_
    refine o_give (g_assign (evv rfl)) rfl rfl ?_
    refine o_nil ?_
    refine c_code ?_
    refine r_block ?_
    refine r_loopE (σ := Nat) (fun j => j ≤ 4) (fun j => j) (fun j => [(5, .v (.int .i64 (hiB b j : Int))), (6, .v (.int .i64 ((j : Int) - 1)))]) [0] (fun j => L) 4 (by dsimp only [pickE, pick1, lk2, Nat.reduceBEq, Nat.reduceAdd, Nat.zero_add, cond_true, cond_false] <;> exact rfl) ?_ (by repeat (first | exact trivial | refine ⟨rfl, ?_⟩ | refine envsub_v rfl (by first | rfl | (refine int_eq ?_; first | omega | (simp; omega) | (simp; done)) | (refine bool_eq ?_; first | (simp [*]; done) | (simp; done)) | (refine str_eq ?_; simp; done) | (refine ptr_eq ?_; omega) | fail) ?_)) ?_ ?_
    · exact Nat.le_refl _
    · exact Ent.refl _
    rintro j hj; (try dsimp only at hj); dsimp only [List.cons_append, List.nil_append]
    have hjl := hiB_le b j
    refine r_seq ?_
    refine r_seq ?_
    refine r_region (id := 5) ?_
    refine o_give (g_move (evv rfl)) rfl rfl ?_
    refine o_give (g_bin (evv rfl) (evv rfl) (by rfl)) rfl rfl ?_
    refine o_nil ?_
    refine c_code ?_
    refine r_cond rfl (fun hc => ?_) (fun hc => ?_) <;> (try simp only [decide_eq_true_eq, decide_eq_false_iff_not, Bool.and_eq_true, Bool.or_eq_true, Bool.not_eq_true', Bool.and_eq_false_iff, Bool.or_eq_false_iff, Bool.not_eq_false', Bool.not_eq_true, Bool.not_eq_false, Bool.true_eq_false, Bool.false_eq_true, Int.not_lt, Int.not_le, not_and, not_or, ne_eq] at hc)
    · have hst := hiB_step b (j := j - 1) (by omega)
      rw [show j - 1 + 1 = j by omega] at hst
      have hj2 : ((j : Int) - 1).toNat = j - 1 := by omega
      have hc8 := (b.getD ((j : Int) - 1).toNat default).toNat_lt
      refine r_skip ?_
      refine c_code ?_
      refine r_seq ?_
      refine r_block ?_
      refine r_region (id := 7) ?_
      refine o_give (g_move (evv rfl)) rfl rfl ?_
      refine o_giveN (g_bin (evv rfl) (evv rfl) (by rfl)) (by simp only [inR]; omega) rfl ?_
      refine o_give (g_move (evv rfl)) rfl rfl ?_
      refine o_give (g_move (evv rfl)) rfl rfl ?_
      refine o_give (g_idxM (evv rfl) (evv rfl) (by rfl) (by omega) (by first | omega | (have := of_decide_eq_true hg; omega) | (simp at hg; omega) | (simp only [List.length_set, List.length_append, List.length_cons, List.length_nil, List.length_map, List.length_take, List.length_drop, List.length_replicate]; omega))) rfl rfl ?_
      refine o_give (g_loadM (evv rfl) (by rfl) (by first | omega | (have := of_decide_eq_true hg; omega) | (simp at hg; omega) | (simp only [List.length_set, List.length_append, List.length_cons, List.length_nil, List.length_map, List.length_take, List.length_drop, List.length_replicate]; omega))) rfl rfl ?_
      refine o_giveN (g_conv TyU.h TyU.h (evv rfl)) (by simp only [inR]; omega) rfl ?_
      refine o_giveN (g_bin (evv rfl) (evv rfl) (by rfl)) (by simp only [inR]; omega) rfl ?_
      refine o_give (g_assign (evv rfl)) rfl rfl ?_
      refine o_nil ?_
      refine c_blk ?_
      refine c_code ?_
      refine r_region (id := 6) ?_
      refine o_give (g_move (evv rfl)) rfl rfl ?_
      refine o_giveN (g_bin (evv rfl) (evv rfl) (by rfl)) (by simp only [inR]; omega) rfl ?_
      refine o_give (g_assign (evv rfl)) rfl rfl ?_
      refine o_nil ?_
      have e3 : (hiB b j : Int) * 256 + ((b.getD ((j : Int) - 1).toNat default).toNat : Int) = ((hiB b (j - 1) : Nat) : Int) := by
        rw [hj2]; omega
      rw [e3]
      refine c_loop (j - 1) ?_ ?_ (by repeat (first | exact trivial | refine ⟨rfl, ?_⟩ | refine envsub_v rfl (by first | rfl | (refine int_eq ?_; first | omega | (simp; omega) | (simp; done)) | (refine bool_eq ?_; first | (simp [*]; done) | (simp; done)) | (refine str_eq ?_; simp; done) | (refine ptr_eq ?_; omega) | fail) ?_)) ?_ <;> (try dsimp only)
      · omega
      · omega
      · exact Ent.refl _
    · have e0 : j = 0 := by omega
      subst e0
      rw [show hiB b 0 = unfourB b by simp only [hiB]] at *
      refine r_exit rfl ?_
      refine c_code ?_
      refine r_seq ?_
      refine r_seq ?_
      refine r_region (id := 8) ?_
      refine o_give (g_move (evv rfl)) rfl rfl ?_
      refine o_give (g_bin (evv rfl) (evv rfl) (by rfl)) rfl rfl ?_
      refine o_nil ?_
      refine c_code ?_
      refine r_cond rfl (fun h2 => ?_) (fun h2 => ?_) <;> (try simp only [decide_eq_true_eq, decide_eq_false_iff_not, Bool.and_eq_true, Bool.or_eq_true, Bool.not_eq_true', Bool.and_eq_false_iff, Bool.or_eq_false_iff, Bool.not_eq_false', Bool.not_eq_true, Bool.not_eq_false, Bool.true_eq_false, Bool.false_eq_true, Int.not_lt, Int.not_le, not_and, not_or, ne_eq] at h2)
      · rw [show nextR b = ([], 0, 2) from (if_neg g1).trans (if_pos (by omega))]
        refine r_seq ?_
        refine r_region (id := 9) ?_
        refine o_give (g_assign (evv rfl)) rfl rfl ?_
        refine o_give (g_assign (evv rfl)) rfl rfl ?_
        refine o_give (g_assign (evv rfl)) rfl rfl ?_
        refine o_nil ?_
        refine c_code ?_
        first | refine r_ret (rs := [.tmp 2, .tmp 3, .tmp 4]) rfl rfl _ ((Ent.nilM by8 5)) ?_ | refine c_end (rs := [.tmp 2, .tmp 3, .tmp 4]) rfl rfl _ ((Ent.nilM by8 5)) ?_
        exact ⟨_, rfl, rfl⟩
      · have g2 : ¬ 262144 < unfourB b := by omega
        refine r_skip ?_
        refine c_code ?_
        refine r_seq ?_
        refine r_seq ?_
        refine r_region (id := 10) ?_
        refine o_give (g_move (evv rfl)) rfl rfl ?_
        refine o_give (g_lenM (evv rfl)) rfl rfl ?_
        refine o_give (g_move (evv rfl)) rfl rfl ?_
        refine o_giveN (g_bin (evv rfl) (evv rfl) (by rfl)) (by simp only [inR]; omega) rfl ?_
        refine o_give (g_bin (evv rfl) (evv rfl) (by rfl)) rfl rfl ?_
        refine o_nil ?_
        refine c_code ?_
        refine r_cond rfl (fun h3 => ?_) (fun h3 => ?_) <;> (try simp only [decide_eq_true_eq, decide_eq_false_iff_not, Bool.and_eq_true, Bool.or_eq_true, Bool.not_eq_true', Bool.and_eq_false_iff, Bool.or_eq_false_iff, Bool.not_eq_false', Bool.not_eq_true, Bool.not_eq_false, Bool.true_eq_false, Bool.false_eq_true, Int.not_lt, Int.not_le, not_and, not_or, ne_eq] at h3)
        · rw [show nextR b = ([], 0, 20) from (if_neg g1).trans ((if_neg g2).trans (if_pos (by omega)))]
          refine r_seq ?_
          refine r_region (id := 11) ?_
          refine o_give (g_assign (evv rfl)) rfl rfl ?_
          refine o_give (g_assign (evv rfl)) rfl rfl ?_
          refine o_give (g_assign (evv rfl)) rfl rfl ?_
          refine o_nil ?_
          refine c_code ?_
          first | refine r_ret (rs := [.tmp 2, .tmp 3, .tmp 4]) rfl rfl _ ((Ent.nilM by8 5)) ?_ | refine c_end (rs := [.tmp 2, .tmp 3, .tmp 4]) rfl rfl _ ((Ent.nilM by8 5)) ?_
          exact ⟨_, rfl, rfl⟩
        · have g3 : ¬ b.length < unfourB b + 8 := by omega
          have e4 : (unfourB b : Int) + 4 = ((unfourB b + 4 : Nat) : Int) := by omega
          have N1 : crc (b.take (unfourB b + 4)) ≠ unfourB (b.drop (unfourB b + 4)) → nextR b = ([], 0, 22) := fun h => (if_neg g1).trans ((if_neg g2).trans ((if_neg g3).trans (if_pos h)))
          have N2 : crc (b.take (unfourB b + 4)) = unfourB (b.drop (unfourB b + 4)) → nextR b = ((b.drop 4).take (unfourB b), unfourB b + 8, 0) := fun h => (if_neg g1).trans ((if_neg g2).trans ((if_neg g3).trans (if_neg (fun k => k h))))
          have q1 : ((unfourB b : Int) + 4).toNat = unfourB b + 4 := by omega
          generalize unfourB b = ub at *
          refine r_skip ?_
          refine c_code ?_
          refine r_seq ?_
          refine r_region (id := 12) ?_
          refine o_give (g_move (evv rfl)) rfl rfl ?_
          refine o_give (g_move (evv rfl)) rfl rfl ?_
          refine o_giveN (g_bin (evv rfl) (evv rfl) (by rfl)) (by simp only [inR]; omega) rfl ?_
          refine o_give (g_subM (evv rfl) _ _ bnd_none (bnd_to (evv rfl) (by omega)) (by rfl) (by omega) (by omega)) rfl rfl ?_
          (refine o_call rfl _ (Ent.refl _) (rCheck_c _ _ _) rfl ?_; rintro _ _ ⟨rfl, hLz⟩; obtain rfl := hLz.symm; clear hLz)
          (refine o_call rfl _ (Ent.refl _) (rFour_c _ _ (by first | assumption | exact crc_lt _ | omega)) rfl ?_; rintro fv _ rfl)
          refine o_give (g_assign (evv rfl)) rfl rfl ?_
          refine o_nil ?_
          refine c_code ?_
          refine r_seq ?_
          refine r_seq ?_
          refine r_region (id := 13) ?_
          refine o_give (g_assign (evv rfl)) rfl rfl ?_
          refine o_nil ?_
          refine c_code ?_
          refine r_block ?_
          rw [q1, Nat.sub_zero, List.drop_zero]
          have hX := crc_lt (b.take (ub + 4))
          generalize crc (b.take (ub + 4)) = X at *
          have hfX : unfourB (fourB X) = X := by
            have := unfour_four hX []
            rwa [List.append_nil] at this
          have hfl : (fourB X).length = 4 := rfl
          refine r_loopE (σ := Nat) (fun j => j ≤ 4 ∧ ∀ i, i < j → (fourB X).getD i default = b.getD (ub + 4 + i) default) (fun j => 4 - j) (fun j => [(8, .v (.int .i64 j))]) [0, 5, 7] (fun j => sl fv (mrow by8 5 (fourB X)) :: L) 0 (by dsimp only [pickE, pick1, lk2, Nat.reduceBEq, Nat.reduceAdd, Nat.zero_add, cond_true, cond_false] <;> exact rfl) ?_ (by repeat (first | exact trivial | refine ⟨rfl, ?_⟩ | refine envsub_v rfl (by first | rfl | (refine int_eq ?_; first | omega | (simp; omega) | (simp; done)) | (refine bool_eq ?_; first | (simp [*]; done) | (simp; done)) | (refine str_eq ?_; simp; done) | (refine ptr_eq ?_; omega) | fail) ?_)) ?_ ?_
          · exact ⟨Nat.zero_le _, fun i h => absurd h (Nat.not_lt_zero _)⟩
          · exact Ent.refl _
          rintro j ⟨hj, hin⟩; dsimp only [List.cons_append, List.nil_append]
          refine r_seq ?_
          refine r_seq ?_
          refine r_region (id := 14) ?_
          refine o_give (g_move (evv rfl)) rfl rfl ?_
          refine o_give (g_bin (evv rfl) (evv rfl) (by rfl)) rfl rfl ?_
          refine o_nil ?_
          refine c_code ?_
          refine r_cond rfl (fun hd => ?_) (fun hd => ?_) <;> (try simp only [decide_eq_true_eq, decide_eq_false_iff_not, Bool.and_eq_true, Bool.or_eq_true, Bool.not_eq_true', Bool.and_eq_false_iff, Bool.or_eq_false_iff, Bool.not_eq_false', Bool.not_eq_true, Bool.not_eq_false, Bool.true_eq_false, Bool.false_eq_true, Int.not_lt, Int.not_le, not_and, not_or, ne_eq] at hd)
          · have q2 : ((ub : Int) + 4 + (j : Int)).toNat = ub + 4 + j := by omega
            refine r_skip ?_
            refine c_code ?_
            refine r_seq ?_
            refine r_block ?_
            refine r_seq ?_
            refine r_quiet (id := 16) Mixed.h (by kernel_rfl) ?_
            refine q_give (g_move (evv rfl)) rfl rfl ?_
            refine q_give (g_move (evv rfl)) rfl rfl ?_
            refine q_give (g_idxMN (evv rfl) (evv rfl) (by rfl) (by first | omega | (have := of_decide_eq_true hg; omega) | (simp at hg; omega) | (simp only [List.length_set, List.length_append, List.length_cons, List.length_nil, List.length_map, List.length_take, List.length_drop, List.length_replicate]; omega))) rfl rfl ?_
            refine q_give (g_loadM (evv rfl) (by rfl) (by first | omega | (have := of_decide_eq_true hg; omega) | (simp at hg; omega) | (simp only [List.length_set, List.length_append, List.length_cons, List.length_nil, List.length_map, List.length_take, List.length_drop, List.length_replicate]; omega))) rfl rfl ?_
            refine q_give (g_move (evv rfl)) rfl rfl ?_
            refine q_give (g_move (evv rfl)) rfl rfl ?_
            refine q_giveN (g_bin (evv rfl) (evv rfl) (by rfl)) (by simp only [inR]; omega) rfl ?_
            refine q_give (g_move (evv rfl)) rfl rfl ?_
            refine q_giveN (g_bin (evv rfl) (evv rfl) (by rfl)) (by simp only [inR]; omega) rfl ?_
            refine q_give (g_idxMN (evv rfl) (evv rfl) (by rfl) (by first | omega | (have := of_decide_eq_true hg; omega) | (simp at hg; omega) | (simp only [List.length_set, List.length_append, List.length_cons, List.length_nil, List.length_map, List.length_take, List.length_drop, List.length_replicate]; omega))) rfl rfl ?_
            refine q_give (g_loadM (evv rfl) (by rfl) (by first | omega | (have := of_decide_eq_true hg; omega) | (simp at hg; omega) | (simp only [List.length_set, List.length_append, List.length_cons, List.length_nil, List.length_map, List.length_take, List.length_drop, List.length_replicate]; omega))) rfl rfl ?_
            refine q_give (g_bin (evv rfl) (evv rfl) (by rfl)) rfl rfl ?_
            refine q_nil ?_
            refine c_code ?_
            refine r_cond rfl (fun hne => ?_) (fun hne => ?_) <;> (try simp only [decide_eq_true_eq, decide_eq_false_iff_not, Bool.and_eq_true, Bool.or_eq_true, Bool.not_eq_true', Bool.and_eq_false_iff, Bool.or_eq_false_iff, Bool.not_eq_false', Bool.not_eq_true, Bool.not_eq_false, Bool.true_eq_false, Bool.false_eq_true, Int.not_lt, Int.not_le, not_and, not_or, ne_eq] at hne)
            · have hx : X ≠ unfourB (b.drop (ub + 4)) := fun e => hne (by
                have := unfour_inj (hfX.trans e) (j := j) (by omega)
                rw [this, gdrop])
              rw [N1 hx]
              refine r_seq ?_
              refine r_region (id := 17) ?_
              refine o_give (g_assign (evv rfl)) rfl rfl ?_
              refine o_give (g_assign (evv rfl)) rfl rfl ?_
              refine o_give (g_assign (evv rfl)) rfl rfl ?_
              refine o_nil ?_
              refine c_code ?_
              first | refine r_ret (rs := [.tmp 2, .tmp 3, .tmp 4]) rfl rfl _ ((Ent.drop.trans (Ent.nilM by8 5))) ?_ | refine c_end (rs := [.tmp 2, .tmp 3, .tmp 4]) rfl rfl _ ((Ent.drop.trans (Ent.nilM by8 5))) ?_
              exact ⟨_, rfl, rfl⟩
            · have hin2 : ∀ i, i < j + 1 → (fourB X).getD i default = b.getD (ub + 4 + i) default := fun i hi => by
                by_cases hij : i < j
                · exact hin i hij
                · obtain rfl : i = j := by omega
                  exact UInt8.toNat_inj.1 (by omega)
              refine r_skip ?_
              refine c_blk ?_
              refine c_code ?_
              refine r_region (id := 15) ?_
              refine o_give (g_move (evv rfl)) rfl rfl ?_
              refine o_giveN (g_bin (evv rfl) (evv rfl) (by rfl)) (by simp only [inR]; omega) rfl ?_
              refine o_give (g_assign (evv rfl)) rfl rfl ?_
              refine o_nil ?_
              refine c_loop (j + 1) ?_ ?_ (by repeat (first | exact trivial | refine ⟨rfl, ?_⟩ | refine envsub_v rfl (by first | rfl | (refine int_eq ?_; first | omega | (simp; omega) | (simp; done)) | (refine bool_eq ?_; first | (simp [*]; done) | (simp; done)) | (refine str_eq ?_; simp; done) | (refine ptr_eq ?_; omega) | fail) ?_)) ?_ <;> (try dsimp only)
              · exact ⟨by omega, hin2⟩
              · omega
              · exact Ent.refl _
          · obtain rfl : j = 4 := by omega
            have hx : X = unfourB (b.drop (ub + 4)) := by
              rw [← hfX]
              unfold unfourB
              rw [hin 0 (by decide), hin 1 (by decide), hin 2 (by decide), hin 3 (by decide), gdrop, gdrop, gdrop, gdrop]
            rw [N2 hx]
            have h7 := List.length_take_le (((ub : Int) + 4).toNat - Int.toNat 4) (List.drop (Int.toNat 4) b)
            refine r_exit rfl ?_
            refine c_code ?_
            refine r_seq ?_
            refine r_region (id := 18) ?_
            refine o_lit0 by8 (by rfl) rfl (fun _ => ?_)
            refine o_give (g_move (evv rfl)) rfl rfl ?_
            refine o_give (g_move (evv rfl)) rfl rfl ?_
            refine o_giveN (g_bin (evv rfl) (evv rfl) (by rfl)) (by simp only [inR]; omega) rfl ?_
            refine o_give (g_subM (evv rfl) _ _ (bnd_to (evv rfl) (by omega)) (bnd_to (evv rfl) (by omega)) (by rfl) (by omega) (by omega)) rfl rfl ?_
            refine o_appM (evv rfl) (evv rfl) (by rfl) (by rfl) (by rfl) (by (try simp only [bsOf, List.length_append, List.length_cons, List.length_nil]); omega) rfl (fun _ => ?_)
            refine o_give (g_move (evv rfl)) rfl rfl ?_
            refine o_giveN (g_bin (evv rfl) (evv rfl) (by rfl)) (by simp only [inR]; omega) rfl ?_
            refine o_give (g_assign (evv rfl)) rfl rfl ?_
            refine o_give (g_assign (evv rfl)) rfl rfl ?_
            refine o_give (g_assign (evv rfl)) rfl rfl ?_
            refine o_nil ?_
            refine c_code ?_
            rename_i f
            first | refine r_ret (rs := [.tmp 2, .tmp 3, .tmp 4]) rfl rfl _ ((Lay.ent (L' := sl f (mrow by8 5 ([] ++ List.take (((ub : Int) + 4).toNat - Int.toNat 4) (List.drop (Int.toNat 4) b))) :: L))) ?_ | refine c_end (rs := [.tmp 2, .tmp 3, .tmp 4]) rfl rfl _ ((Lay.ent (L' := sl f (mrow by8 5 ([] ++ List.take (((ub : Int) + 4).toNat - Int.toNat 4) (List.drop (Int.toNat 4) b))) :: L))) ?_
            refine ⟨f, rfl, ?_⟩
            refine congrArg (fun z => sl f (mrow by8 5 z) :: L) ?_
            have e44 : Int.toNat 4 = 4 := rfl
            rw [q1, e44, Nat.add_sub_cancel, List.nil_append]
end VK
