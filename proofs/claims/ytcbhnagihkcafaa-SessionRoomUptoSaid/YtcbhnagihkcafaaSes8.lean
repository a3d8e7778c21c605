/- SessionRoom, walked. Conditions: the script's replies have few bytes. -/
import Derived.Test.YtcbhnagihkcafaaSes7
import Derived.Test.YtcbhnagihkcafaaSesR
namespace VK
open Go Go.Proofs
set_option linter.unusedSimpArgs false
set_option linter.unusedVariables false
set_option maxRecDepth 100000
set_option maxHeartbeats 40000000
theorem SessionRoom_c (W : World) (v : Value) (acts : List Act) [rd : Rd [base W] v (frow actC 5 30 acts)] (room : Int) (hb : actB acts ≤ 4611686018427387904) (hok : ∀ a ∈ acts, a.ok) :
    Fn Try.prog 3 [.int .i64 room, v] [base W] fun w L' => w = .bool true ∧ L' = [base W] := by
  refine fn_lenF rd fun hlen => ?_
  have hlen : acts.length ≤ 2 ^ 63 - 1 := hlen
  refine fn_intro Try.func3 rfl Try.ntmps3 rfl (fun W0 => ?_)
  simp only [argE]
  refine r_seq ?_
  refine r_region (id := 0) ?_
  refine o_give (g_assign (evv rfl)) rfl rfl ?_
  refine o_nil ?_
  refine c_code ?_
  refine r_seq ?_
  refine r_seq ?_
  refine r_region (id := 1) ?_
  (refine o_call rfl _ (Ent.refl _) (awake_c _) rfl ?_; rintro _ _ ⟨rfl, rfl⟩)
  refine o_give (g_not (evv rfl)) rfl rfl ?_
  refine o_nil ?_
  refine c_code ?_
  refine r_cond_false rfl ?_
  refine r_skip ?_
  refine c_code ?_
  refine r_seq ?_
  refine r_seq ?_
  refine r_region (id := 3) ?_
  refine o_give (g_move (evv rfl)) rfl rfl ?_
  (refine o_call rfl _ (Ent.refl _) (fits_c _ _ _ (by first | assumption | omega)) rfl ?_; rintro _ _ ⟨rfl, rfl⟩)
  refine o_give (g_not (evv rfl)) rfl rfl ?_
  refine o_give (g_move (evv rfl)) rfl rfl ?_
  refine o_lazy rfl (fun hg => g_move (by first | exact evv rfl | exact evg rfl (by rw [hp]; rfl) | exact evg rfl hp | exact evg rfl hg | exact evg rfl (by first | (simp_all; done) | (simp [*]; done) | fail) | fail)) rfl rfl ?_
  refine o_lazy rfl (fun hg => g_bin (by first | exact evv rfl | exact evg rfl (by rw [hp]; rfl) | exact evg rfl hp | exact evg rfl hg | exact evg rfl (by first | (simp_all; done) | (simp [*]; done) | fail) | fail) (by first | exact evv rfl | exact evg rfl (by rw [hp]; rfl) | exact evg rfl hp | exact evg rfl hg | exact evg rfl (by first | (simp_all; done) | (simp [*]; done) | fail) | fail) (by rfl)) rfl rfl ?_
  refine o_give (g_pick_or (evv rfl) (evv rfl) (fun hp => (by first | exact evv rfl | exact evg rfl (by rw [hp]; rfl) | exact evg rfl hp | exact evg rfl hg | exact evg rfl (by first | (simp_all; done) | (simp [*]; done) | fail) | fail))) rfl rfl ?_
  refine o_give (g_move (evv rfl)) rfl rfl ?_
  refine o_lazy rfl (fun hg => g_move (by first | exact evv rfl | exact evg rfl (by rw [hp]; rfl) | exact evg rfl hp | exact evg rfl hg | exact evg rfl (by first | (simp_all; done) | (simp [*]; done) | fail) | fail)) rfl rfl ?_
  refine o_lazy rfl (fun hg => g_bin (by first | exact evv rfl | exact evg rfl (by rw [hp]; rfl) | exact evg rfl hp | exact evg rfl hg | exact evg rfl (by first | (simp_all; done) | (simp [*]; done) | fail) | fail) (by first | exact evv rfl | exact evg rfl (by rw [hp]; rfl) | exact evg rfl hp | exact evg rfl hg | exact evg rfl (by first | (simp_all; done) | (simp [*]; done) | fail) | fail) (by rfl)) rfl rfl ?_
  refine o_give (g_pick_or (evv rfl) (evv rfl) (fun hp => (by first | exact evv rfl | exact evg rfl (by rw [hp]; rfl) | exact evg rfl hp | exact evg rfl hg | exact evg rfl (by first | (simp_all; done) | (simp [*]; done) | fail) | fail))) rfl rfl ?_
  refine o_nil ?_
  refine c_code ?_
  refine r_cond rfl (fun hf => ?_) (fun hf => ?_) <;> (try simp only [decide_eq_true_eq, decide_eq_false_iff_not, Bool.and_eq_true, Bool.or_eq_true, Bool.not_eq_true', Bool.and_eq_false_iff, Bool.or_eq_false_iff, Bool.not_eq_false', Bool.not_eq_true, Bool.not_eq_false, Bool.true_eq_false, Bool.false_eq_true, Int.not_lt, Int.not_le, not_and, not_or, ne_eq] at hf)
  · refine r_seq ?_
    refine r_region (id := 4) ?_
    refine o_give (g_assign (evv rfl)) rfl rfl ?_
    refine o_nil ?_
    refine c_code ?_
    first | refine r_ret (rs := [.tmp 4]) rfl rfl _ (Ent.refl _) ?_ | refine c_end (rs := [.tmp 4]) rfl rfl _ (Ent.refl _) ?_
    (refine ⟨?_, ?_⟩ <;> first | rfl | trivial | omega)
  · have h0 : 0 ≤ room := by omega
    have h1 : room ≤ 8192 := by omega
    clear hf
    refine r_skip ?_
    refine c_code ?_
    refine r_seq ?_
    refine r_region (id := 5) ?_
    refine o_give (g_move (evv rfl)) rfl rfl ?_
    (refine o_call rfl _ (Ent.refl _) (Make_ok _ _ (by omega)) rfl ?_; rintro _ _ ⟨tb, rfl, rfl⟩)
    refine o_give (g_move (evv rfl)) rfl rfl ?_
    refine o_give (g_extract (evv rfl) (by rfl)) rfl rfl ?_
    refine o_give (g_extract (evv rfl) (by rfl)) rfl rfl ?_
    refine o_give (g_assign (evv rfl)) rfl rfl ?_
    refine o_give (g_assign (evv rfl)) rfl rfl ?_
    refine o_nil ?_
    refine c_code ?_
    refine r_seq ?_
    refine r_seq ?_
    refine r_region (id := 6) ?_
    refine o_give (g_move (evv rfl)) rfl rfl ?_
    refine o_give (g_pnil TyU.h (evv rfl) (evv rfl) (by simp) (by rfl)) rfl rfl ?_
    refine o_nil ?_
    refine c_code ?_
    refine r_cond_false rfl ?_
    refine r_skip ?_
    refine c_code ?_
    refine r_seq ?_
    refine r_seq ?_
    refine r_region (id := 8) ?_
    refine o_give (g_assign (evv rfl)) rfl rfl ?_
    refine o_nil ?_
    refine c_code ?_
    refine r_block ?_
    refine r_loopE (σ := Nat × List Seat) (fun ⟨k, l⟩ => k ≤ acts.length ∧ WFT l ∧ (repB l : Int) ≤ room) (fun ⟨k, l⟩ => acts.length - k) (fun ⟨k, l⟩ => [(7, .v (.int .i64 k))]) [0, 1, 5] (fun ⟨k, l⟩ => blk tb (tblB room l) :: [base W]) (0, List.replicate 8 default) (by dsimp only [pickE, pick1, lk2, Nat.reduceBEq, Nat.reduceAdd, Nat.zero_add, cond_true, cond_false] <;> exact rfl) ?_ (by repeat (first | exact trivial | refine ⟨rfl, ?_⟩ | refine envsub_v rfl (by first | rfl | (refine int_eq ?_; first | omega | (simp; omega) | (simp; done)) | (refine bool_eq ?_; first | (simp [*]; done) | (simp; done)) | (refine str_eq ?_; simp; done) | (refine ptr_eq ?_; omega) | fail) ?_)) ?_ ?_
    · exact ⟨Nat.zero_le _, WFT.init, h0⟩
    · exact Ent.refl _
    rintro ⟨k, l⟩ ⟨hk, hw, hr⟩; dsimp only [List.cons_append, List.nil_append]
    have hl8 : l.length = 8 := hw.len
    have hll := list_len hw
    have hwf := hw.wf
    have hrb : repB l ≤ 1000000 := by omega
    have hrl := repB_list hw
    refine r_seq ?_
    refine r_seq ?_
    refine r_region (id := 9) ?_
    refine o_give (g_move (evv rfl)) rfl rfl ?_
    refine o_give (g_move (evv rfl)) rfl rfl ?_
    refine o_give (g_lenF (evv rfl)) rfl rfl ?_
    refine o_give (g_bin (evv rfl) (evv rfl) (by rfl)) rfl rfl ?_
    refine o_give (g_move (evv rfl)) rfl rfl ?_
    refine o_lazy rfl (fun hg => g_move (by first | exact evv rfl | exact evg rfl (by rw [hp]; rfl) | exact evg rfl hp | exact evg rfl hg | exact evg rfl (by first | (simp_all; done) | (simp [*]; done) | fail) | fail)) rfl rfl ?_
    refine o_lazy rfl (fun hg => g_bin (by first | exact evv rfl | exact evg rfl (by rw [hp]; rfl) | exact evg rfl hp | exact evg rfl hg | exact evg rfl (by first | (simp_all; done) | (simp [*]; done) | fail) | fail) (by first | exact evv rfl | exact evg rfl (by rw [hp]; rfl) | exact evg rfl hp | exact evg rfl hg | exact evg rfl (by first | (simp_all; done) | (simp [*]; done) | fail) | fail) (by rfl)) rfl rfl ?_
    refine o_give (g_pick_and (evv rfl) (evv rfl) (fun hp => (by first | exact evv rfl | exact evg rfl (by rw [hp]; rfl) | exact evg rfl hp | exact evg rfl hg | exact evg rfl (by first | (simp_all; done) | (simp [*]; done) | fail) | fail))) rfl rfl ?_
    refine o_nil ?_
    refine c_code ?_
    refine r_cond rfl (fun hc => ?_) (fun hc => ?_) <;> (try simp only [decide_eq_true_eq, decide_eq_false_iff_not, Bool.and_eq_true, Bool.or_eq_true, Bool.not_eq_true', Bool.and_eq_false_iff, Bool.or_eq_false_iff, Bool.not_eq_false', Bool.not_eq_true, Bool.not_eq_false, Bool.true_eq_false, Bool.false_eq_true, Int.not_lt, Int.not_le, not_and, not_or, ne_eq] at hc)
    · have hk8 : k < acts.length := by omega
      have hx2 : acts.getD k default ∈ acts := by simp [hk8]
      have hao := hok _ hx2
      generalize hx : acts.getD k default = a at *
      have hac : inR .i64 a.client := hao.2.1
      refine r_skip ?_
      refine c_code ?_
      refine r_seq ?_
      refine r_block ?_
      refine r_seq ?_
      refine r_region (id := 11) ?_
      refine o_give (g_move (evv rfl)) rfl rfl ?_
      refine o_give (g_move (evv rfl)) rfl rfl ?_
      refine o_give (g_idxFN (evv rfl) (evv rfl) (by rfl) (by rfl) (by first | omega | (simp only [List.length_set, List.length_append, List.length_cons, List.length_nil, List.length_map, List.length_take, List.length_drop, List.length_replicate]; omega))) rfl rfl ?_
      refine o_give (g_loadFr (evv rfl) (by rfl) (by intro; rfl) (by rfl) (by rfl) (by first | omega | (simp only [List.length_set, List.length_append, List.length_cons, List.length_nil, List.length_map, List.length_take, List.length_drop, List.length_replicate]; omega))) rfl rfl ?_
      refine o_alloc rfl rfl (fun _ => ?_)
      refine o_storeW (evv rfl) (evv rfl) (by first | rfl | assumption | (simp [bys, *]; done) | fail) (by first | (intro _ _ _; exact bys_one _) | exact AllOne.h | (intro _ _ _ u hu; simp at hu; rcases hu with rfl | rfl | rfl | rfl | rfl | rfl | rfl | rfl <;> rfl) | fail) (by first | rfl | (simp [bys, *]; done) | (simp only [bys, List.length_map, *]; rfl) | fail) ?_
      refine o_nil ?_
      refine c_code ?_
      refine r_seq ?_
      refine r_seq ?_
      rw [hx]
      rename_i p
      refine r_region (id := 12) ?_
      refine o_give (g_fld (evv rfl)) rfl rfl ?_
      refine o_give (g_load (evv rfl) (by rfl) (by rfl)) rfl rfl ?_
      refine o_nil ?_
      refine c_code ?_
      refine r_cond rfl (fun hf => ?_) (fun hf => ?_) <;> (try simp only [decide_eq_true_eq, decide_eq_false_iff_not, Bool.and_eq_true, Bool.or_eq_true, Bool.not_eq_true', Bool.and_eq_false_iff, Bool.or_eq_false_iff, Bool.not_eq_false', Bool.not_eq_true, Bool.not_eq_false, Bool.true_eq_false, Bool.false_eq_true, Int.not_lt, Int.not_le, not_and, not_or, ne_eq] at hf)
      · refine r_exit rfl ?_
        refine c_code ?_
        refine r_region (id := 10) ?_
        refine o_give (g_move (evv rfl)) rfl rfl ?_
        refine o_giveN (g_bin (evv rfl) (evv rfl) (by rfl)) (by simp only [inR]; omega) rfl ?_
        refine o_give (g_assign (evv rfl)) rfl rfl ?_
        refine o_nil ?_
        refine c_loop (k + 1, l) ?_ ?_ (by repeat (first | exact trivial | refine ⟨rfl, ?_⟩ | refine envsub_v rfl (by first | rfl | (refine int_eq ?_; first | omega | (simp; omega) | (simp; done)) | (refine bool_eq ?_; first | (simp [*]; done) | (simp; done)) | (refine str_eq ?_; simp; done) | (refine ptr_eq ?_; omega) | fail) ?_)) ?_ <;> (try dsimp only)
        · exact ⟨by omega, hw, hr⟩
        · omega
        · exact Lay.ent
      · refine r_skip ?_
        refine c_code ?_
        refine r_seq ?_
        refine r_region (id := 13) ?_
        refine o_give (g_move (evv rfl)) rfl rfl ?_
        (refine o_call rfl _ (Ent.refl _) (Fn.atPick (List_g _ _ (by assumption))) rfl ?_; rintro _ _ ⟨-, rfl⟩)
        refine o_give (g_assign (evv rfl)) rfl rfl ?_
        refine o_nil ?_
        refine c_code ?_
        refine r_seq ?_
        refine r_region (id := 14) ?_
        refine o_give (g_assign (evv rfl)) rfl rfl ?_
        refine o_nil ?_
        refine c_code ?_
        refine r_seq ?_
        refine r_region (id := 15) ?_
        refine o_give (g_assign (evv rfl)) rfl rfl ?_
        refine o_nil ?_
        refine c_code ?_
        refine r_seq ?_
        refine r_seq ?_
        refine r_region (id := 16) ?_
        refine o_give (g_assign (evv rfl)) rfl rfl ?_
        refine o_nil ?_
        refine c_code ?_
        refine r_block ?_
        rename_i w
        have hlt : (listT l).length ≤ 1000 := by omega
        refine r_loopE (σ := Nat) (fun j => j ≤ (listT l).length) (fun j => (listT l).length - j) (fun j => [(10, .v (.int .i64 (repB (oth a.client ((listT l).take j))))), (11, .v (.int .i64 (kc (oth a.client ((listT l).take j))))), (12, .v (.int .i64 j))]) [0, 1, 5, 7, 8, 9] (fun j => sl w (frow seatC 5 34 (listT l)) :: blk p ⟨actC a, 30⟩ :: blk tb (tblB room l) :: [base W]) 0 (by dsimp only [pickE, pick1, lk2, Nat.reduceBEq, Nat.reduceAdd, Nat.zero_add, cond_true, cond_false] <;> exact rfl) ?_ (by repeat (first | exact trivial | refine ⟨rfl, ?_⟩ | refine envsub_v rfl (by first | rfl | (refine int_eq ?_; first | omega | (simp; omega) | (simp; done)) | (refine bool_eq ?_; first | (simp [*]; done) | (simp; done)) | (refine str_eq ?_; simp; done) | (refine ptr_eq ?_; omega) | fail) ?_)) ?_ ?_
        · exact Nat.zero_le _
        · exact Lay.ent
        rintro j hj; (try dsimp only at hj); dsimp only [List.cons_append, List.nil_append]
        have q1 := oth_rep a.client ((listT l).take (j + 1))
        have q2 := repB_take_le (listT l) (j + 1)
        have q3 := oth_kc a.client ((listT l).take (j + 1))
        have q4 : ((listT l).take (j + 1)).length ≤ 1000 := by simp; omega
        refine r_seq ?_
        refine r_seq ?_
        refine r_region (id := 17) ?_
        refine o_give (g_move (evv rfl)) rfl rfl ?_
        refine o_give (g_move (evv rfl)) rfl rfl ?_
        refine o_give (g_lenF (evv rfl)) rfl rfl ?_
        refine o_give (g_bin (evv rfl) (evv rfl) (by rfl)) rfl rfl ?_
        refine o_nil ?_
        refine c_code ?_
        refine r_cond rfl (fun hj1 => ?_) (fun hj1 => ?_) <;> (try simp only [decide_eq_true_eq, decide_eq_false_iff_not, Bool.and_eq_true, Bool.or_eq_true, Bool.not_eq_true', Bool.and_eq_false_iff, Bool.or_eq_false_iff, Bool.not_eq_false', Bool.not_eq_true, Bool.not_eq_false, Bool.true_eq_false, Bool.false_eq_true, Int.not_lt, Int.not_le, not_and, not_or, ne_eq] at hj1)
        · have hj2 : j < (listT l).length := by omega
          have hos := oth_succ a.client hj2
          generalize hy : (listT l).getD j default = y at *
          refine r_skip ?_
          refine c_code ?_
          refine r_seq ?_
          refine r_block ?_
          refine r_seq ?_
          refine r_quiet (id := 19) Mixed.h (by kernel_rfl) ?_
          refine q_give (g_move (evv rfl)) rfl rfl ?_
          refine q_give (g_move (evv rfl)) rfl rfl ?_
          refine q_give (g_idxFN (evv rfl) (evv rfl) (by rfl) (by rfl) (by first | omega | (simp only [List.length_set, List.length_append, List.length_cons, List.length_nil, List.length_map, List.length_take, List.length_drop, List.length_replicate]; omega))) rfl rfl ?_
          refine q_give (g_fldE (evv rfl) (by first | (simp only [frow, mrow]; omega) | (simp only [frow, mrow, List.length_set, List.length_append, List.length_cons]; omega) | fail) (by first | exact Nat.succ_pos _ | decide)) rfl rfl ?_
          refine q_give (g_loadFld (evv rfl) (by rfl) (by intro; rfl) (by first | omega | (simp only [List.length_set, List.length_append, List.length_cons, List.length_nil, List.length_map, List.length_take, List.length_drop, List.length_replicate]; omega)) (by rfl)) rfl rfl ?_
          refine q_give (g_fld (evv rfl)) rfl rfl ?_
          refine q_give (g_load (evv rfl) (by rfl) (by rfl)) rfl rfl ?_
          refine q_give (g_bin (evv rfl) (evv rfl) (by rfl)) rfl rfl ?_
          refine q_nil ?_
          refine c_code ?_
          rw [hy]
          refine r_cond rfl (fun hne => ?_) (fun hne => ?_) <;> (try simp only [decide_eq_true_eq, decide_eq_false_iff_not, Bool.and_eq_true, Bool.or_eq_true, Bool.not_eq_true', Bool.and_eq_false_iff, Bool.or_eq_false_iff, Bool.not_eq_false', Bool.not_eq_true, Bool.not_eq_false, Bool.true_eq_false, Bool.false_eq_true, Int.not_lt, Int.not_le, not_and, not_or, ne_eq] at hne)
          · rw [if_neg hne] at hos
            rw [hos, repB_app] at q1
            rw [hos, kc_app] at q3
            have q5 : repB [y] = y.reply.length := by simp [repB]
            rw [q5] at q1
            have q7 : repB (oth a.client ((listT l).take j)) + ((listT l).getD j default).reply.length ≤ 1000000 := by rw [hy]; omega
            refine r_seq ?_
            refine r_region (id := 20) ?_
            refine o_give (g_move (evv rfl)) rfl rfl ?_
            refine o_give (g_move (evv rfl)) rfl rfl ?_
            refine o_give (g_move (evv rfl)) rfl rfl ?_
            refine o_give (g_idxFN (evv rfl) (evv rfl) (by rfl) (by rfl) (by first | omega | (simp only [List.length_set, List.length_append, List.length_cons, List.length_nil, List.length_map, List.length_take, List.length_drop, List.length_replicate]; omega))) rfl rfl ?_
            refine o_give (g_fldE (evv rfl) (by first | (simp only [frow, mrow]; omega) | (simp only [frow, mrow, List.length_set, List.length_append, List.length_cons]; omega) | fail) (by first | exact Nat.succ_pos _ | decide)) rfl rfl ?_
            refine o_give (g_loadFld (evv rfl) (by rfl) (by intro; rfl) (by first | omega | (simp only [List.length_set, List.length_append, List.length_cons, List.length_nil, List.length_map, List.length_take, List.length_drop, List.length_replicate]; omega)) (by rfl)) rfl rfl ?_
            refine o_give (g_lenS TyU.h (evv rfl)) rfl rfl ?_
            refine o_giveN (g_bin (evv rfl) (evv rfl) (by rfl)) (by simp only [inR]; omega) rfl ?_
            refine o_give (g_assign (evv rfl)) rfl rfl ?_
            refine o_nil ?_
            refine c_code ?_
            refine r_seq ?_
            refine r_region (id := 21) ?_
            refine o_give (g_move (evv rfl)) rfl rfl ?_
            refine o_give (g_move (evv rfl)) rfl rfl ?_
            refine o_give (g_idxFN (evv rfl) (evv rfl) (by rfl) (by rfl) (by first | omega | (simp only [List.length_set, List.length_append, List.length_cons, List.length_nil, List.length_map, List.length_take, List.length_drop, List.length_replicate]; omega))) rfl rfl ?_
            refine o_give (g_fldE (evv rfl) (by first | (simp only [frow, mrow]; omega) | (simp only [frow, mrow, List.length_set, List.length_append, List.length_cons]; omega) | fail) (by first | exact Nat.succ_pos _ | decide)) rfl rfl ?_
            refine o_give (g_loadFld (evv rfl) (by rfl) (by intro; rfl) (by first | omega | (simp only [List.length_set, List.length_append, List.length_cons, List.length_nil, List.length_map, List.length_take, List.length_drop, List.length_replicate]; omega)) (by rfl)) rfl rfl ?_
            refine o_nil ?_
            refine c_code ?_
            rw [hy]
            refine r_cond rfl (fun hkp => ?_) (fun hkp => ?_) <;> (try simp only [decide_eq_true_eq, decide_eq_false_iff_not, Bool.and_eq_true, Bool.or_eq_true, Bool.not_eq_true', Bool.and_eq_false_iff, Bool.or_eq_false_iff, Bool.not_eq_false', Bool.not_eq_true, Bool.not_eq_false, Bool.true_eq_false, Bool.false_eq_true, Int.not_lt, Int.not_le, not_and, not_or, ne_eq] at hkp)
            · have q6 : kc [y] = 1 := by simp [kc, hkp]
              rw [q6] at q3
              refine r_region (id := 22) ?_
              refine o_give (g_move (evv rfl)) rfl rfl ?_
              refine o_giveN (g_bin (evv rfl) (evv rfl) (by rfl)) (by simp only [inR]; omega) rfl ?_
              refine o_give (g_assign (evv rfl)) rfl rfl ?_
              refine o_nil ?_
              refine c_blk ?_
              refine c_code ?_
              refine r_region (id := 18) ?_
              refine o_give (g_move (evv rfl)) rfl rfl ?_
              refine o_giveN (g_bin (evv rfl) (evv rfl) (by rfl)) (by simp only [inR]; omega) rfl ?_
              refine o_give (g_assign (evv rfl)) rfl rfl ?_
              refine o_nil ?_
              refine c_loop (j + 1) ?_ ?_ (by simp only [hos, repB_app, kc_app, q5, q6]; repeat (first | exact trivial | refine ⟨rfl, ?_⟩ | refine envsub_v rfl (by first | rfl | (refine int_eq ?_; first | omega | (simp; omega) | (simp; done)) | (refine bool_eq ?_; first | (simp [*]; done) | (simp; done)) | (refine str_eq ?_; simp; done) | (refine ptr_eq ?_; omega) | fail) ?_)) ?_ <;> (try dsimp only)
              · omega
              · omega
              · exact Lay.ent
            · have q6 : kc [y] = 0 := by simp [kc, hkp]
              rw [q6] at q3
              refine r_skip ?_
              refine c_blk ?_
              refine c_code ?_
              refine r_region (id := 18) ?_
              refine o_give (g_move (evv rfl)) rfl rfl ?_
              refine o_giveN (g_bin (evv rfl) (evv rfl) (by rfl)) (by simp only [inR]; omega) rfl ?_
              refine o_give (g_assign (evv rfl)) rfl rfl ?_
              refine o_nil ?_
              refine c_loop (j + 1) ?_ ?_ (by simp only [hos, repB_app, kc_app, q5, q6]; repeat (first | exact trivial | refine ⟨rfl, ?_⟩ | refine envsub_v rfl (by first | rfl | (refine int_eq ?_; first | omega | (simp; omega) | (simp; done)) | (refine bool_eq ?_; first | (simp [*]; done) | (simp; done)) | (refine str_eq ?_; simp; done) | (refine ptr_eq ?_; omega) | fail) ?_)) ?_ <;> (try dsimp only)
              · omega
              · omega
              · exact Lay.ent
          · rw [if_pos (by simpa using hne)] at hos
            refine r_skip ?_
            refine c_blk ?_
            refine c_code ?_
            refine r_region (id := 18) ?_
            refine o_give (g_move (evv rfl)) rfl rfl ?_
            refine o_giveN (g_bin (evv rfl) (evv rfl) (by rfl)) (by simp only [inR]; omega) rfl ?_
            refine o_give (g_assign (evv rfl)) rfl rfl ?_
            refine o_nil ?_
            refine c_loop (j + 1) ?_ ?_ (by simp only [hos]; repeat (first | exact trivial | refine ⟨rfl, ?_⟩ | refine envsub_v rfl (by first | rfl | (refine int_eq ?_; first | omega | (simp; omega) | (simp; done)) | (refine bool_eq ?_; first | (simp [*]; done) | (simp; done)) | (refine str_eq ?_; simp; done) | (refine ptr_eq ?_; omega) | fail) ?_)) ?_ <;> (try dsimp only)
            · omega
            · omega
            · exact Lay.ent
        · have : j = (listT l).length := by omega
          subst this
          rw [List.take_length]
          refine r_exit rfl ?_
          refine c_code ?_
          refine r_seq ?_
          refine r_seq ?_
          refine r_region (id := 23) ?_
          refine o_give (g_move (evv rfl)) rfl rfl ?_
          refine o_give (g_fld (evv rfl)) rfl rfl ?_
          refine o_give (g_load (evv rfl) (by rfl) (by rfl)) rfl rfl ?_
          refine o_give (g_fld (evv rfl)) rfl rfl ?_
          refine o_give (g_load (evv rfl) (by rfl) (by rfl)) rfl rfl ?_
          refine o_give (g_fld (evv rfl)) rfl rfl ?_
          refine o_give (g_load (evv rfl) (by rfl) (by rfl)) rfl rfl ?_
          refine o_give (g_fld (evv rfl)) rfl rfl ?_
          refine o_give (g_load (evv rfl) (by rfl) (by rfl)) rfl rfl ?_
          (refine o_call rfl _ (Ent.refl _) (Fn.atPick (Record_g _ _ _ _ _ _ (by first | assumption | (simp only [inR]; omega)) (by assumption) (by first | assumption | omega) (by assumption) (by assumption))) rfl ?_; rintro _ _ ⟨rfl, rfl⟩)
          refine o_give (g_bin (evv rfl) (evv rfl) (by rfl)) rfl rfl ?_
          refine o_nil ?_
          refine c_code ?_
          generalize hF : recT room l a.client a.number a.at_ a.reply = fr at *
          refine r_cond rfl (fun hcode => ?_) (fun hcode => ?_) <;> (try simp only [decide_eq_true_eq, decide_eq_false_iff_not, Bool.and_eq_true, Bool.or_eq_true, Bool.not_eq_true', Bool.and_eq_false_iff, Bool.or_eq_false_iff, Bool.not_eq_false', Bool.not_eq_true, Bool.not_eq_false, Bool.true_eq_false, Bool.false_eq_true, Int.not_lt, Int.not_le, not_and, not_or, ne_eq] at hcode)
          · have hsame : fr.2 = l := by rw [← hF]; exact rec_same (by rw [hF]; exact hcode)
            rw [hsame]
            refine r_seq ?_
            refine r_seq ?_
            refine r_region (id := 24) ?_
            refine o_give (g_move (evv rfl)) rfl rfl ?_
            (refine o_call rfl _ (Ent.refl _) (Fn.atPick (List_g _ _ (by assumption))) rfl ?_; rintro _ _ ⟨-, rfl⟩)
            refine o_give (g_move (evv rfl)) rfl rfl ?_
            (refine o_call rfl _ (Ent.refl _) (Seats_c _ _ _ _ _ (by first | assumption | omega) (by first | assumption | omega)) rfl ?_; rintro _ _ ⟨rfl, rfl⟩)
            refine o_give (g_not (evv rfl)) rfl rfl ?_
            refine o_nil ?_
            refine c_code ?_
            refine r_cond rfl (fun hbad => ?_) (fun hbad => ?_) <;> (try simp only [decide_eq_true_eq, decide_eq_false_iff_not, Bool.and_eq_true, Bool.or_eq_true, Bool.not_eq_true', Bool.and_eq_false_iff, Bool.or_eq_false_iff, Bool.not_eq_false', Bool.not_eq_true, Bool.not_eq_false, Bool.true_eq_false, Bool.false_eq_true, Int.not_lt, Int.not_le, not_and, not_or, ne_eq] at hbad)
            · exact absurd trivial hbad
            · clear hbad
              refine r_skip ?_
              refine c_code ?_
              refine r_exit rfl ?_
              refine c_code ?_
              refine r_region (id := 10) ?_
              refine o_give (g_move (evv rfl)) rfl rfl ?_
              refine o_giveN (g_bin (evv rfl) (evv rfl) (by rfl)) (by simp only [inR]; omega) rfl ?_
              refine o_give (g_assign (evv rfl)) rfl rfl ?_
              refine o_nil ?_
              refine c_loop (k + 1, l) ?_ ?_ (by repeat (first | exact trivial | refine ⟨rfl, ?_⟩ | refine envsub_v rfl (by first | rfl | (refine int_eq ?_; first | omega | (simp; omega) | (simp; done)) | (refine bool_eq ?_; first | (simp [*]; done) | (simp; done)) | (refine str_eq ?_; simp; done) | (refine ptr_eq ?_; omega) | fail) ?_)) ?_ <;> (try dsimp only)
              · exact ⟨by omega, hw, hr⟩
              · omega
              · exact Lay.ent
          · have hcode0 : (recT room l a.client a.number a.at_ a.reply).1 = 0 := by rw [hF]; exact hcode
            have hfact := room_fact hw h0 hcode0
            have hnx1 := (rec_list hw h0 a.client a.number a.at_ a.reply).2
            have hnx2 := rec_room hw h0 hr a.client a.number a.at_ a.reply
            have hrlen := (rec_ok hcode0).2.2.1
            rw [hF] at hfact hnx1 hnx2
            have hl82 := hnx1.len
            have hll3 := list_len hnx1
            have hrl3 := repB_list hnx1
            have hoth := oth_rep a.client (listT l)
            have hothk := oth_kc a.client (listT l)
            generalize hl2 : fr.2 = l2 at *
            refine r_skip ?_
            refine c_code ?_
            refine r_seq ?_
            refine r_region (id := 26) ?_
            refine o_give (g_move (evv rfl)) rfl rfl ?_
            (refine o_call rfl _ (Ent.refl _) (Fn.atPick (List_g _ _ (by assumption))) rfl ?_; rintro _ _ ⟨-, rfl⟩)
            refine o_give (g_assign (evv rfl)) rfl rfl ?_
            refine o_nil ?_
            refine c_code ?_
            refine r_seq ?_
            refine r_region (id := 27) ?_
            refine o_give (g_assign (evv rfl)) rfl rfl ?_
            refine o_nil ?_
            refine c_code ?_
            refine r_seq ?_
            refine r_region (id := 28) ?_
            refine o_give (g_assign (evv rfl)) rfl rfl ?_
            refine o_nil ?_
            refine c_code ?_
            refine r_seq ?_
            refine r_seq ?_
            refine r_region (id := 29) ?_
            refine o_give (g_assign (evv rfl)) rfl rfl ?_
            refine o_nil ?_
            refine c_code ?_
            refine r_block ?_
            rename_i w2
            refine r_loopE (σ := Nat) (fun j => j ≤ (listT l2).length) (fun j => (listT l2).length - j) (fun j => [(14, .v (.int .i64 (repB ((listT l2).take j)))), (15, .v (.int .i64 (kc ((listT l2).take j)))), (16, .v (.int .i64 j))]) [0, 1, 5, 7, 8, 10, 11, 13] (fun j => sl w2 (frow seatC 5 34 (listT l2)) :: blk p ⟨actC a, 30⟩ :: blk tb (tblB room l2) :: [base W]) 0 (by dsimp only [pickE, pick1, lk2, Nat.reduceBEq, Nat.reduceAdd, Nat.zero_add, cond_true, cond_false] <;> exact rfl) ?_ (by repeat (first | exact trivial | refine ⟨rfl, ?_⟩ | refine envsub_v rfl (by first | rfl | (refine int_eq ?_; first | omega | (simp; omega) | (simp; done)) | (refine bool_eq ?_; first | (simp [*]; done) | (simp; done)) | (refine str_eq ?_; simp; done) | (refine ptr_eq ?_; omega) | fail) ?_)) ?_ ?_
            · exact Nat.zero_le _
            · exact Lay.ent
            rintro j hj; (try dsimp only at hj); dsimp only [List.cons_append, List.nil_append]
            have q2 := repB_take_le (listT l2) (j + 1)
            have q3 : kc ((listT l2).take (j + 1)) ≤ ((listT l2).take (j + 1)).length := List.countP_le_length
            have q4 : ((listT l2).take (j + 1)).length ≤ 1000 := by simp; omega
            refine r_seq ?_
            refine r_seq ?_
            refine r_region (id := 30) ?_
            refine o_give (g_move (evv rfl)) rfl rfl ?_
            refine o_give (g_move (evv rfl)) rfl rfl ?_
            refine o_give (g_lenF (evv rfl)) rfl rfl ?_
            refine o_give (g_bin (evv rfl) (evv rfl) (by rfl)) rfl rfl ?_
            refine o_nil ?_
            refine c_code ?_
            refine r_cond rfl (fun hj1 => ?_) (fun hj1 => ?_) <;> (try simp only [decide_eq_true_eq, decide_eq_false_iff_not, Bool.and_eq_true, Bool.or_eq_true, Bool.not_eq_true', Bool.and_eq_false_iff, Bool.or_eq_false_iff, Bool.not_eq_false', Bool.not_eq_true, Bool.not_eq_false, Bool.true_eq_false, Bool.false_eq_true, Int.not_lt, Int.not_le, not_and, not_or, ne_eq] at hj1)
            · have hj2 : j < (listT l2).length := by omega
              have hrs := repB_take (listT l2) j hj2
              have hks : kc ((listT l2).take (j + 1)) = kc ((listT l2).take j) + (if ((listT l2).getD j default).kept then 1 else 0) := by
                rw [List.take_succ_eq_append_getElem hj2, kc_app]
                simp only [List.getD_eq_getElem?_getD, List.getElem?_eq_getElem hj2, Option.getD_some]
                unfold kc; cases hkk : ((listT l2)[j]).kept <;> simp [hkk]
              generalize hy : (listT l2).getD j default = y at *
              rw [hrs] at q2
              have q7 : repB ((listT l2).take j) + ((listT l2).getD j default).reply.length ≤ 1000000 := by rw [hy]; omega
              refine r_skip ?_
              refine c_code ?_
              refine r_seq ?_
              refine r_block ?_
              refine r_seq ?_
              refine r_region (id := 32) ?_
              refine o_give (g_move (evv rfl)) rfl rfl ?_
              refine o_give (g_move (evv rfl)) rfl rfl ?_
              refine o_give (g_move (evv rfl)) rfl rfl ?_
              refine o_give (g_idxFN (evv rfl) (evv rfl) (by rfl) (by rfl) (by first | omega | (simp only [List.length_set, List.length_append, List.length_cons, List.length_nil, List.length_map, List.length_take, List.length_drop, List.length_replicate]; omega))) rfl rfl ?_
              refine o_give (g_fldE (evv rfl) (by first | (simp only [frow, mrow]; omega) | (simp only [frow, mrow, List.length_set, List.length_append, List.length_cons]; omega) | fail) (by first | exact Nat.succ_pos _ | decide)) rfl rfl ?_
              refine o_give (g_loadFld (evv rfl) (by rfl) (by intro; rfl) (by first | omega | (simp only [List.length_set, List.length_append, List.length_cons, List.length_nil, List.length_map, List.length_take, List.length_drop, List.length_replicate]; omega)) (by rfl)) rfl rfl ?_
              refine o_give (g_lenS TyU.h (evv rfl)) rfl rfl ?_
              refine o_giveN (g_bin (evv rfl) (evv rfl) (by rfl)) (by simp only [inR]; omega) rfl ?_
              refine o_give (g_assign (evv rfl)) rfl rfl ?_
              refine o_nil ?_
              refine c_code ?_
              refine r_seq ?_
              refine r_region (id := 33) ?_
              refine o_give (g_move (evv rfl)) rfl rfl ?_
              refine o_give (g_move (evv rfl)) rfl rfl ?_
              refine o_give (g_idxFN (evv rfl) (evv rfl) (by rfl) (by rfl) (by first | omega | (simp only [List.length_set, List.length_append, List.length_cons, List.length_nil, List.length_map, List.length_take, List.length_drop, List.length_replicate]; omega))) rfl rfl ?_
              refine o_give (g_fldE (evv rfl) (by first | (simp only [frow, mrow]; omega) | (simp only [frow, mrow, List.length_set, List.length_append, List.length_cons]; omega) | fail) (by first | exact Nat.succ_pos _ | decide)) rfl rfl ?_
              refine o_give (g_loadFld (evv rfl) (by rfl) (by intro; rfl) (by first | omega | (simp only [List.length_set, List.length_append, List.length_cons, List.length_nil, List.length_map, List.length_take, List.length_drop, List.length_replicate]; omega)) (by rfl)) rfl rfl ?_
              refine o_nil ?_
              refine c_code ?_
              rw [hy]
              refine r_cond rfl (fun hkp => ?_) (fun hkp => ?_) <;> (try simp only [decide_eq_true_eq, decide_eq_false_iff_not, Bool.and_eq_true, Bool.or_eq_true, Bool.not_eq_true', Bool.and_eq_false_iff, Bool.or_eq_false_iff, Bool.not_eq_false', Bool.not_eq_true, Bool.not_eq_false, Bool.true_eq_false, Bool.false_eq_true, Int.not_lt, Int.not_le, not_and, not_or, ne_eq] at hkp)
              · rw [if_pos hkp] at hks
                rw [hks] at q3
                refine r_region (id := 34) ?_
                refine o_give (g_move (evv rfl)) rfl rfl ?_
                refine o_giveN (g_bin (evv rfl) (evv rfl) (by rfl)) (by simp only [inR]; omega) rfl ?_
                refine o_give (g_assign (evv rfl)) rfl rfl ?_
                refine o_nil ?_
                refine c_blk ?_
                refine c_code ?_
                refine r_region (id := 31) ?_
                refine o_give (g_move (evv rfl)) rfl rfl ?_
                refine o_giveN (g_bin (evv rfl) (evv rfl) (by rfl)) (by simp only [inR]; omega) rfl ?_
                refine o_give (g_assign (evv rfl)) rfl rfl ?_
                refine o_nil ?_
                refine c_loop (j + 1) ?_ ?_ (by simp only [hrs, hks]; repeat (first | exact trivial | refine ⟨rfl, ?_⟩ | refine envsub_v rfl (by first | rfl | (refine int_eq ?_; first | omega | (simp; omega) | (simp; done)) | (refine bool_eq ?_; first | (simp [*]; done) | (simp; done)) | (refine str_eq ?_; simp; done) | (refine ptr_eq ?_; omega) | fail) ?_)) ?_ <;> (try dsimp only)
                · omega
                · omega
                · exact Lay.ent
              · rw [if_neg (by simp [hkp])] at hks
                refine r_skip ?_
                refine c_blk ?_
                refine c_code ?_
                refine r_region (id := 31) ?_
                refine o_give (g_move (evv rfl)) rfl rfl ?_
                refine o_giveN (g_bin (evv rfl) (evv rfl) (by rfl)) (by simp only [inR]; omega) rfl ?_
                refine o_give (g_assign (evv rfl)) rfl rfl ?_
                refine o_nil ?_
                refine c_loop (j + 1) ?_ ?_ (by simp only [hrs, hks]; repeat (first | exact trivial | refine ⟨rfl, ?_⟩ | refine envsub_v rfl (by first | rfl | (refine int_eq ?_; first | omega | (simp; omega) | (simp; done)) | (refine bool_eq ?_; first | (simp [*]; done) | (simp; done)) | (refine str_eq ?_; simp; done) | (refine ptr_eq ?_; omega) | fail) ?_)) ?_ <;> (try dsimp only)
                · omega
                · omega
                · exact Lay.ent
            · have : j = (listT l2).length := by omega
              subst this
              rw [List.take_length]
              refine r_exit rfl ?_
              refine c_code ?_
              refine r_seq ?_
              refine r_region (id := 35) ?_
              refine o_give (g_move (evv rfl)) rfl rfl ?_
              refine o_give (g_move (evv rfl)) rfl rfl ?_
              refine o_give (g_bin (evv rfl) (evv rfl) (by rfl)) rfl rfl ?_
              refine o_give (g_move (evv rfl)) rfl rfl ?_
              refine o_lazy rfl (fun hg => g_move (by first | exact evv rfl | exact evg rfl (by rw [hp]; rfl) | exact evg rfl hp | exact evg rfl hg | exact evg rfl (by first | (simp_all; done) | (simp [*]; done) | fail) | fail)) rfl rfl ?_
              refine o_lazy rfl (fun hg => g_fld (evv rfl)) rfl rfl ?_
              refine o_lazy rfl (fun hg => g_load (evg rfl hg) (by rfl) (by rfl)) rfl rfl ?_
              refine o_lazy rfl (fun hg => g_lenS TyU.h (by first | exact evv rfl | exact evg rfl (by rw [hp]; rfl) | exact evg rfl hp | exact evg rfl hg | exact evg rfl (by first | (simp_all; done) | (simp [*]; done) | fail) | fail)) rfl rfl ?_
              refine o_lazy rfl (fun hg => Gives.as (g_bin (by first | exact evv rfl | exact evg rfl (by rw [hp]; rfl) | exact evg rfl hp | exact evg rfl hg | exact evg rfl (by first | (simp_all; done) | (simp [*]; done) | fail) | fail) (by first | exact evv rfl | exact evg rfl (by rw [hp]; rfl) | exact evg rfl hp | exact evg rfl hg | exact evg rfl (by first | (simp_all; done) | (simp [*]; done) | fail) | fail) (by rfl)) (by rw [wrap_in (by simp only [inR]; omega)])) rfl rfl ?_
              refine o_lazy rfl (fun hg => g_move (by first | exact evv rfl | exact evg rfl (by rw [hp]; rfl) | exact evg rfl hp | exact evg rfl hg | exact evg rfl (by first | (simp_all; done) | (simp [*]; done) | fail) | fail)) rfl rfl ?_
              refine o_lazy rfl (fun hg => g_bin (by first | exact evv rfl | exact evg rfl (by rw [hp]; rfl) | exact evg rfl hp | exact evg rfl hg | exact evg rfl (by first | (simp_all; done) | (simp [*]; done) | fail) | fail) (by first | exact evv rfl | exact evg rfl (by rw [hp]; rfl) | exact evg rfl hp | exact evg rfl hg | exact evg rfl (by first | (simp_all; done) | (simp [*]; done) | fail) | fail) (by rfl)) rfl rfl ?_
              refine o_lazy rfl (fun hg => g_move (by first | exact evv rfl | exact evg rfl (by rw [hp]; rfl) | exact evg rfl hp | exact evg rfl hg | exact evg rfl (by first | (simp_all; done) | (simp [*]; done) | fail) | fail)) rfl rfl ?_
              refine o_lazy rfl (fun hg => g_move (by first | exact evv rfl | exact evg rfl (by rw [hp]; rfl) | exact evg rfl hp | exact evg rfl hg | exact evg rfl (by first | (simp_all; done) | (simp [*]; done) | fail) | fail)) rfl rfl ?_
              refine o_lazy rfl (fun hg => g_move (by first | exact evv rfl | exact evg rfl (by rw [hp]; rfl) | exact evg rfl hp | exact evg rfl hg | exact evg rfl (by first | (simp_all; done) | (simp [*]; done) | fail) | fail)) rfl rfl ?_
              refine o_lazy rfl (fun hg => Gives.as (g_bin (by first | exact evv rfl | exact evg rfl (by rw [hp]; rfl) | exact evg rfl hp | exact evg rfl hg | exact evg rfl (by first | (simp_all; done) | (simp [*]; done) | fail) | fail) (by first | exact evv rfl | exact evg rfl (by rw [hp]; rfl) | exact evg rfl hp | exact evg rfl hg | exact evg rfl (by first | (simp_all; done) | (simp [*]; done) | fail) | fail) (by rfl)) (by rw [wrap_in (by simp only [inR]; omega)])) rfl rfl ?_
              refine o_lazy rfl (fun hg => g_bin (by first | exact evv rfl | exact evg rfl (by rw [hp]; rfl) | exact evg rfl hp | exact evg rfl hg | exact evg rfl (by first | (simp_all; done) | (simp [*]; done) | fail) | fail) (by first | exact evv rfl | exact evg rfl (by rw [hp]; rfl) | exact evg rfl hp | exact evg rfl hg | exact evg rfl (by first | (simp_all; done) | (simp [*]; done) | fail) | fail) (by rfl)) rfl rfl ?_
              refine o_lazy rfl (fun hg => g_pick_and (by first | exact evv rfl | exact evg rfl (by rw [hp]; rfl) | exact evg rfl hp | exact evg rfl hg | exact evg rfl (by first | (simp_all; done) | (simp [*]; done) | fail) | fail) (by first | exact evv rfl | exact evg rfl (by rw [hp]; rfl) | exact evg rfl hp | exact evg rfl hg | exact evg rfl (by first | (simp_all; done) | (simp [*]; done) | fail) | fail) (fun hp => (by first | exact evv rfl | exact evg rfl (by rw [hp]; rfl) | exact evg rfl hp | exact evg rfl hg | exact evg rfl (by first | (simp_all; done) | (simp [*]; done) | fail) | fail))) rfl rfl ?_
              refine o_give (g_pick_or (evv rfl) (evv rfl) (fun hp => (by first | exact evv rfl | exact evg rfl (by rw [hp]; rfl) | exact evg rfl hp | exact evg rfl hg | exact evg rfl (by first | (simp_all; done) | (simp [*]; done) | fail) | fail))) rfl rfl ?_
              refine o_give (g_move (evv rfl)) rfl rfl ?_
              refine o_lazy rfl (fun hg => g_move (by first | exact evv rfl | exact evg rfl (by rw [hp]; rfl) | exact evg rfl hp | exact evg rfl hg | exact evg rfl (by first | (simp_all; done) | (simp [*]; done) | fail) | fail)) rfl rfl ?_
              refine o_lazy rfl (fun hg => g_fld (evv rfl)) rfl rfl ?_
              refine o_lazy rfl (fun hg => g_load (evg rfl hg) (by rfl) (by rfl)) rfl rfl ?_
              refine o_lazy rfl (fun hg => g_lenS TyU.h (by first | exact evv rfl | exact evg rfl (by rw [hp]; rfl) | exact evg rfl hp | exact evg rfl hg | exact evg rfl (by first | (simp_all; done) | (simp [*]; done) | fail) | fail)) rfl rfl ?_
              refine o_lazy rfl (fun hg => Gives.as (g_bin (by first | exact evv rfl | exact evg rfl (by rw [hp]; rfl) | exact evg rfl hp | exact evg rfl hg | exact evg rfl (by first | (simp_all; done) | (simp [*]; done) | fail) | fail) (by first | exact evv rfl | exact evg rfl (by rw [hp]; rfl) | exact evg rfl hp | exact evg rfl hg | exact evg rfl (by first | (simp_all; done) | (simp [*]; done) | fail) | fail) (by rfl)) (by rw [wrap_in (by simp only [inR]; omega)])) rfl rfl ?_
              refine o_lazy rfl (fun hg => g_move (by first | exact evv rfl | exact evg rfl (by rw [hp]; rfl) | exact evg rfl hp | exact evg rfl hg | exact evg rfl (by first | (simp_all; done) | (simp [*]; done) | fail) | fail)) rfl rfl ?_
              refine o_lazy rfl (fun hg => g_bin (by first | exact evv rfl | exact evg rfl (by rw [hp]; rfl) | exact evg rfl hp | exact evg rfl hg | exact evg rfl (by first | (simp_all; done) | (simp [*]; done) | fail) | fail) (by first | exact evv rfl | exact evg rfl (by rw [hp]; rfl) | exact evg rfl hp | exact evg rfl hg | exact evg rfl (by first | (simp_all; done) | (simp [*]; done) | fail) | fail) (by rfl)) rfl rfl ?_
              refine o_lazy rfl (fun hg => g_move (by first | exact evv rfl | exact evg rfl (by rw [hp]; rfl) | exact evg rfl hp | exact evg rfl hg | exact evg rfl (by first | (simp_all; done) | (simp [*]; done) | fail) | fail)) rfl rfl ?_
              refine o_lazy rfl (fun hg => g_move (by first | exact evv rfl | exact evg rfl (by rw [hp]; rfl) | exact evg rfl hp | exact evg rfl hg | exact evg rfl (by first | (simp_all; done) | (simp [*]; done) | fail) | fail)) rfl rfl ?_
              refine o_lazy rfl (fun hg => g_move (by first | exact evv rfl | exact evg rfl (by rw [hp]; rfl) | exact evg rfl hp | exact evg rfl hg | exact evg rfl (by first | (simp_all; done) | (simp [*]; done) | fail) | fail)) rfl rfl ?_
              refine o_lazy rfl (fun hg => Gives.as (g_bin (by first | exact evv rfl | exact evg rfl (by rw [hp]; rfl) | exact evg rfl hp | exact evg rfl hg | exact evg rfl (by first | (simp_all; done) | (simp [*]; done) | fail) | fail) (by first | exact evv rfl | exact evg rfl (by rw [hp]; rfl) | exact evg rfl hp | exact evg rfl hg | exact evg rfl (by first | (simp_all; done) | (simp [*]; done) | fail) | fail) (by rfl)) (by rw [wrap_in (by simp only [inR]; omega)])) rfl rfl ?_
              refine o_lazy rfl (fun hg => g_bin (by first | exact evv rfl | exact evg rfl (by rw [hp]; rfl) | exact evg rfl hp | exact evg rfl hg | exact evg rfl (by first | (simp_all; done) | (simp [*]; done) | fail) | fail) (by first | exact evv rfl | exact evg rfl (by rw [hp]; rfl) | exact evg rfl hp | exact evg rfl hg | exact evg rfl (by first | (simp_all; done) | (simp [*]; done) | fail) | fail) (by rfl)) rfl rfl ?_
              refine o_lazy rfl (fun hg => g_pick_and (by first | exact evv rfl | exact evg rfl (by rw [hp]; rfl) | exact evg rfl hp | exact evg rfl hg | exact evg rfl (by first | (simp_all; done) | (simp [*]; done) | fail) | fail) (by first | exact evv rfl | exact evg rfl (by rw [hp]; rfl) | exact evg rfl hp | exact evg rfl hg | exact evg rfl (by first | (simp_all; done) | (simp [*]; done) | fail) | fail) (fun hp => (by first | exact evv rfl | exact evg rfl (by rw [hp]; rfl) | exact evg rfl hp | exact evg rfl hg | exact evg rfl (by first | (simp_all; done) | (simp [*]; done) | fail) | fail))) rfl rfl ?_
              refine o_give (g_pick_or (evv rfl) (evv rfl) (fun hp => (by first | exact evv rfl | exact evg rfl (by rw [hp]; rfl) | exact evg rfl hp | exact evg rfl hg | exact evg rfl (by first | (simp_all; done) | (simp [*]; done) | fail) | fail))) rfl rfl ?_
              refine o_nil ?_
              refine c_code ?_
              refine r_cond rfl (fun hbad => ?_) (fun hbad => ?_) <;> (try simp only [decide_eq_true_eq, decide_eq_false_iff_not, Bool.and_eq_true, Bool.or_eq_true, Bool.not_eq_true', Bool.and_eq_false_iff, Bool.or_eq_false_iff, Bool.not_eq_false', Bool.not_eq_true, Bool.not_eq_false, Bool.true_eq_false, Bool.false_eq_true, Int.not_lt, Int.not_le, not_and, not_or, ne_eq] at hbad)
              · exfalso; omega
              · clear hbad
                refine r_skip ?_
                refine c_blk ?_
                refine c_code ?_
                refine r_region (id := 10) ?_
                refine o_give (g_move (evv rfl)) rfl rfl ?_
                refine o_giveN (g_bin (evv rfl) (evv rfl) (by rfl)) (by simp only [inR]; omega) rfl ?_
                refine o_give (g_assign (evv rfl)) rfl rfl ?_
                refine o_nil ?_
                refine c_loop (k + 1, l2) ?_ ?_ (by repeat (first | exact trivial | refine ⟨rfl, ?_⟩ | refine envsub_v rfl (by first | rfl | (refine int_eq ?_; first | omega | (simp; omega) | (simp; done)) | (refine bool_eq ?_; first | (simp [*]; done) | (simp; done)) | (refine str_eq ?_; simp; done) | (refine ptr_eq ?_; omega) | fail) ?_)) ?_ <;> (try dsimp only)
                · exact ⟨by omega, hnx1, hnx2⟩
                · omega
                · exact Lay.ent
    · refine r_exit rfl ?_
      refine c_code ?_
      refine r_seq ?_
      refine r_region (id := 37) ?_
      refine o_give (g_assign (evv rfl)) rfl rfl ?_
      refine o_nil ?_
      refine c_code ?_
      first | refine r_ret (rs := [.tmp 4]) rfl rfl _ ((Lay.ent (L' := [base W]))) ?_ | refine c_end (rs := [.tmp 4]) rfl rfl _ ((Lay.ent (L' := [base W]))) ?_
      (refine ⟨?_, ?_⟩ <;> first | rfl | trivial | omega)
end VK
