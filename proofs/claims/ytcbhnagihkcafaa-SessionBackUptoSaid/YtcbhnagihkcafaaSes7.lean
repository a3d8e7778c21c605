/- awake and SessionPlays, walked. Conditions: the script's replies have few bytes. -/
import Derived.Test.YtcbhnagihkcafaaSes6
namespace VK
open Go Go.Proofs
set_option linter.unusedSimpArgs false
set_option linter.unusedVariables false
set_option maxRecDepth 100000
set_option maxHeartbeats 40000000
theorem awake_c (L : List Atom) : Fn Try.prog 8 [] L fun v L' => v = .bool true ∧ L' = L := by
  have W0 := WFT.init
  have W1 := (rec_list W0 (room := 5) (by decide) 1 1 10 [97, 98, 99]).2
  have R1 := rec_room W0 (room := 5) (by decide) (by decide) 1 1 10 [97, 98, 99]
  have W2 := (rec_list W1 (room := 5) (by decide) 2 7 11 [100, 101]).2
  have R2 := rec_room W1 (room := 5) (by decide) R1 2 7 11 [100, 101]
  have W3 := (rec_list W2 (room := 5) (by decide) 3 1 12 [102]).2
  have R3 := rec_room W2 (room := 5) (by decide) R2 3 1 12 [102]
  have w0 := W0.wf
  have w1 := W1.wf
  have w2 := W2.wf
  have w3 := W3.wf
  have l0 := W0.len
  have l1 := W1.len
  have l2 := W2.len
  have l3 := W3.len
  have b0 : repB (List.replicate 8 default) ≤ 1000000 := by decide
  have b1 : repB (recT 5 (List.replicate 8 default) 1 1 10 [97, 98, 99]).2 ≤ 1000000 := by omega
  have b2 : repB (recT 5 (recT 5 (List.replicate 8 default) 1 1 10 [97, 98, 99]).2 2 7 11 [100, 101]).2 ≤ 1000000 := by omega
  refine fn_intro Try.func8 rfl Try.ntmps8 rfl (fun W0 => ?_)
  simp only [argE]
  refine r_seq ?_
  refine r_region (id := 0) ?_
  refine o_give (g_assign (evv rfl)) rfl rfl ?_
  refine o_nil ?_
  refine c_code ?_
  refine r_seq ?_
  refine r_region (id := 1) ?_
  (refine o_call rfl _ (Ent.refl _) (Make_ok _ _ (by omega)) rfl ?_; rintro _ _ ⟨tb, rfl, rfl⟩)
  refine o_give (g_move (evv rfl)) rfl rfl ?_
  refine o_give (g_extract (evv rfl) (by rfl)) rfl rfl ?_
  refine o_give (g_extract (evv rfl) (by rfl)) rfl rfl ?_
  refine o_give (g_assign (evv rfl)) rfl rfl ?_
  refine o_give (g_assign (evv rfl)) rfl rfl ?_
  refine o_nil ?_
  refine c_code ?_
  refine r_seq ?_
  refine r_seq ?_
  refine r_region (id := 2) ?_
  refine o_give (g_move (evv rfl)) rfl rfl ?_
  refine o_give (g_bin (evv rfl) (evv rfl) (by rfl)) rfl rfl ?_
  refine o_give (g_move (evv rfl)) rfl rfl ?_
  refine o_gyes rfl ?_
  refine o_give (g_move (evv rfl)) rfl rfl ?_
  refine o_gyes rfl ?_
  refine o_give (g_pnil TyU.h (evv rfl) (evv rfl) (by simp) (by rfl)) rfl rfl ?_
  refine o_give (g_pick (b := false) (evv rfl) (fun h => by cases h) (fun _ => (evv rfl))) rfl rfl ?_
  refine o_nil ?_
  refine c_code ?_
  refine r_cond_false rfl ?_
  refine r_skip ?_
  refine c_code ?_
  refine r_seq ?_
  refine r_region (id := 4) ?_
  refine o_give (g_move (evv rfl)) rfl rfl ?_
  (refine o_call rfl _ (Ent.refl _) (Fn.atPick (Record_g _ _ _ _ _ _ (by first | assumption | (simp only [inR]; omega)) (by assumption) (by first | assumption | omega) (by assumption) (by assumption))) rfl ?_; rintro _ _ ⟨rfl, rfl⟩)
  refine o_give (g_assign (evv rfl)) rfl rfl ?_
  refine o_nil ?_
  refine c_code ?_
  refine r_seq ?_
  refine r_region (id := 5) ?_
  refine o_give (g_move (evv rfl)) rfl rfl ?_
  (refine o_call rfl _ (Ent.refl _) (Fn.atPick (Record_g _ _ _ _ _ _ (by first | assumption | (simp only [inR]; omega)) (by assumption) (by first | assumption | omega) (by assumption) (by assumption))) rfl ?_; rintro _ _ ⟨rfl, rfl⟩)
  refine o_give (g_assign (evv rfl)) rfl rfl ?_
  refine o_nil ?_
  refine c_code ?_
  refine r_seq ?_
  refine r_region (id := 6) ?_
  refine o_give (g_move (evv rfl)) rfl rfl ?_
  (refine o_call rfl _ (Ent.refl _) (Fn.atPick (Record_g _ _ _ _ _ _ (by first | assumption | (simp only [inR]; omega)) (by assumption) (by first | assumption | omega) (by assumption) (by assumption))) rfl ?_; rintro _ _ ⟨rfl, rfl⟩)
  refine o_give (g_assign (evv rfl)) rfl rfl ?_
  refine o_nil ?_
  refine c_code ?_
  refine r_seq ?_
  refine r_region (id := 7) ?_
  refine o_give (g_move (evv rfl)) rfl rfl ?_
  (refine o_call rfl _ (Ent.refl _) (Fn.atPick (Look_g _ _ _ _ (by first | assumption | (simp only [inR]; omega)) (by assumption))) rfl ?_; rintro _ _ ⟨rfl, rfl⟩)
  refine o_give (g_move (evv rfl)) rfl rfl ?_
  refine o_give (g_extract (evv rfl) (by rfl)) rfl rfl ?_
  refine o_give (g_extract (evv rfl) (by rfl)) rfl rfl ?_
  refine o_give (g_assign (evv rfl)) rfl rfl ?_
  refine o_give (g_assign (evv rfl)) rfl rfl ?_
  refine o_nil ?_
  refine c_code ?_
  refine r_seq ?_
  refine r_region (id := 8) ?_
  refine o_give (g_move (evv rfl)) rfl rfl ?_
  (refine o_call rfl _ (Ent.refl _) (Fn.atPick (Look_g _ _ _ _ (by first | assumption | (simp only [inR]; omega)) (by assumption))) rfl ?_; rintro _ _ ⟨rfl, rfl⟩)
  refine o_give (g_move (evv rfl)) rfl rfl ?_
  refine o_give (g_extract (evv rfl) (by rfl)) rfl rfl ?_
  refine o_give (g_extract (evv rfl) (by rfl)) rfl rfl ?_
  refine o_give (g_assign (evv rfl)) rfl rfl ?_
  refine o_give (g_assign (evv rfl)) rfl rfl ?_
  refine o_nil ?_
  refine c_code ?_
  refine r_seq ?_
  refine r_region (id := 9) ?_
  refine o_give (g_move (evv rfl)) rfl rfl ?_
  (refine o_call rfl _ (Ent.refl _) (Fn.atPick (Look_g _ _ _ _ (by first | assumption | (simp only [inR]; omega)) (by assumption))) rfl ?_; rintro _ _ ⟨rfl, rfl⟩)
  refine o_give (g_move (evv rfl)) rfl rfl ?_
  refine o_give (g_extract (evv rfl) (by rfl)) rfl rfl ?_
  refine o_give (g_extract (evv rfl) (by rfl)) rfl rfl ?_
  refine o_give (g_assign (evv rfl)) rfl rfl ?_
  refine o_give (g_assign (evv rfl)) rfl rfl ?_
  refine o_nil ?_
  refine c_code ?_
  refine r_seq ?_
  refine r_region (id := 10) ?_
  refine o_give (g_move (evv rfl)) rfl rfl ?_
  refine o_give (g_bin (evv rfl) (evv rfl) (by rfl)) rfl rfl ?_
  refine o_give (g_move (evv rfl)) rfl rfl ?_
  refine o_gyes rfl ?_
  refine o_give (g_move (evv rfl)) rfl rfl ?_
  refine o_gyes rfl ?_
  refine o_give (g_bin (evv rfl) (evv rfl) (by rfl)) rfl rfl ?_
  refine o_give (g_pick (b := true) (evv rfl) (fun _ => (evv rfl)) (fun h => by cases h)) rfl rfl ?_
  refine o_give (g_move (evv rfl)) rfl rfl ?_
  refine o_gyes rfl ?_
  refine o_give (g_move (evv rfl)) rfl rfl ?_
  refine o_gyes rfl ?_
  refine o_give (g_bin (evv rfl) (evv rfl) (by rfl)) rfl rfl ?_
  refine o_give (g_pick (b := true) (evv rfl) (fun _ => (evv rfl)) (fun h => by cases h)) rfl rfl ?_
  refine o_give (g_move (evv rfl)) rfl rfl ?_
  refine o_gyes rfl ?_
  refine o_give (g_move (evv rfl)) rfl rfl ?_
  refine o_gyes rfl ?_
  refine o_give (g_bin (evv rfl) (evv rfl) (by rfl)) rfl rfl ?_
  refine o_give (g_pick (b := true) (evv rfl) (fun _ => (evv rfl)) (fun h => by cases h)) rfl rfl ?_
  refine o_give (g_move (evv rfl)) rfl rfl ?_
  refine o_gyes rfl ?_
  refine o_give (g_move (evv rfl)) rfl rfl ?_
  refine o_gyes rfl ?_
  refine o_give (g_bin (evv rfl) (evv rfl) (by rfl)) rfl rfl ?_
  refine o_give (g_pick (b := true) (evv rfl) (fun _ => (evv rfl)) (fun h => by cases h)) rfl rfl ?_
  refine o_give (g_move (evv rfl)) rfl rfl ?_
  refine o_gyes rfl ?_
  refine o_give (g_move (evv rfl)) rfl rfl ?_
  refine o_gyes rfl ?_
  refine o_give (g_binS (evv rfl) (evv rfl) (by rfl)) rfl rfl ?_
  refine o_give (g_pick (b := true) (evv rfl) (fun _ => (evv rfl)) (fun h => by cases h)) rfl rfl ?_
  refine o_give (g_move (evv rfl)) rfl rfl ?_
  refine o_gyes rfl ?_
  refine o_give (g_move (evv rfl)) rfl rfl ?_
  refine o_gyes rfl ?_
  refine o_give (g_bin (evv rfl) (evv rfl) (by rfl)) rfl rfl ?_
  refine o_give (g_pick (b := true) (evv rfl) (fun _ => (evv rfl)) (fun h => by cases h)) rfl rfl ?_
  refine o_give (g_assign (evv rfl)) rfl rfl ?_
  refine o_nil ?_
  refine c_code ?_
  first | refine r_ret (rs := [.tmp 0]) rfl rfl _ ((Lay.ent (L' := L))) ?_ | refine c_end (rs := [.tmp 0]) rfl rfl _ ((Lay.ent (L' := L))) ?_
  refine ⟨?_, rfl⟩
  exact bool_eq (by decide)
theorem SessionPlays_c (W : World) (v : Value) (acts : List Act) [rd : Rd [base W] v (frow actC 5 30 acts)] (room client number : Int) (hb : actB acts ≤ 4611686018427387904) (hok : ∀ a ∈ acts, a.ok) (hc : inR .i64 client) :
    Fn Try.prog 4 [.int .i64 room, v, .int .i64 client, .int .i64 number] [base W] fun w L' => w = .bool true ∧ L' = [base W] := by
  refine fn_intro Try.func4 rfl Try.ntmps4 rfl (fun W0 => ?_)
  simp only [argE]
  refine r_seq ?_
  refine r_region (id := 0) ?_
  refine o_give (g_assign (evv rfl)) rfl rfl ?_
  refine o_nil ?_
  refine c_code ?_
  refine r_seq ?_
  refine r_seq ?_
  refine r_region (id := 1) ?_
  (refine o_call rfl _ (Ent.refl _) (awake_c _) rfl ?_; rintro _ _ ⟨rfl, rfl⟩)
  refine o_give (g_not (evv rfl)) rfl rfl ?_
  refine o_nil ?_
  refine c_code ?_
  refine r_cond_false rfl ?_
  refine r_skip ?_
  refine c_code ?_
  refine r_seq ?_
  refine r_seq ?_
  refine r_region (id := 3) ?_
  refine o_give (g_move (evv rfl)) rfl rfl ?_
  (refine o_call rfl _ (Ent.refl _) (fits_c _ _ _ (by first | assumption | omega)) rfl ?_; rintro _ _ ⟨rfl, rfl⟩)
  refine o_give (g_not (evv rfl)) rfl rfl ?_
  refine o_nil ?_
  refine c_code ?_
  refine r_cond rfl (fun hf => ?_) (fun hf => ?_) <;> (try simp only [decide_eq_true_eq, decide_eq_false_iff_not, Bool.and_eq_true, Bool.or_eq_true, Bool.not_eq_true', Bool.and_eq_false_iff, Bool.or_eq_false_iff, Bool.not_eq_false', Bool.not_eq_true, Bool.not_eq_false, Bool.true_eq_false, Bool.false_eq_true, Int.not_lt, Int.not_le, not_and, not_or, ne_eq] at hf)
  · refine r_seq ?_
    refine r_region (id := 4) ?_
    refine o_give (g_assign (evv rfl)) rfl rfl ?_
    refine o_nil ?_
    refine c_code ?_
    first | refine r_ret (rs := [.tmp 8]) rfl rfl _ (Ent.refl _) ?_ | refine c_end (rs := [.tmp 8]) rfl rfl _ (Ent.refl _) ?_
    (refine ⟨?_, ?_⟩ <;> first | rfl | trivial | omega)
  · clear hf
    by_cases hr : 0 ≤ room ∧ room ≤ 8192
    · obtain ⟨h0, h1⟩ := hr
      refine r_skip ?_
      refine c_code ?_
      refine r_seq ?_
      refine r_region (id := 5) ?_
      refine o_give (g_move (evv rfl)) rfl rfl ?_
      (refine o_call rfl _ (Ent.refl _) (Make_ok _ _ (by omega)) rfl ?_; rintro _ _ ⟨tb, rfl, rfl⟩)
      refine o_give (g_move (evv rfl)) rfl rfl ?_
      refine o_give (g_extract (evv rfl) (by rfl)) rfl rfl ?_
      refine o_give (g_extract (evv rfl) (by rfl)) rfl rfl ?_
      refine o_give (g_assign (evv rfl)) rfl rfl ?_
      refine o_give (g_assign (evv rfl)) rfl rfl ?_
      refine o_nil ?_
      refine c_code ?_
      refine r_seq ?_
      refine r_seq ?_
      refine r_region (id := 6) ?_
      refine o_give (g_move (evv rfl)) rfl rfl ?_
      refine o_give (g_bin (evv rfl) (evv rfl) (by rfl)) rfl rfl ?_
      refine o_give (g_move (evv rfl)) rfl rfl ?_
      refine o_lazy rfl (fun hg => g_move (by first | exact evv rfl | exact evg rfl (by rw [hp]; rfl) | exact evg rfl hp | exact evg rfl hg | exact evg rfl (by first | (simp_all; done) | (simp [*]; done) | fail) | fail)) rfl rfl ?_
      refine o_lazy rfl (fun hg => g_bin (by first | exact evv rfl | exact evg rfl (by rw [hp]; rfl) | exact evg rfl hp | exact evg rfl hg | exact evg rfl (by first | (simp_all; done) | (simp [*]; done) | fail) | fail) (by first | exact evv rfl | exact evg rfl (by rw [hp]; rfl) | exact evg rfl hp | exact evg rfl hg | exact evg rfl (by first | (simp_all; done) | (simp [*]; done) | fail) | fail) (by rfl)) rfl rfl ?_
      refine o_give (g_pick_or (evv rfl) (evv rfl) (fun hp => (by first | exact evv rfl | exact evg rfl (by rw [hp]; rfl) | exact evg rfl hp | exact evg rfl hg | exact evg rfl (by first | (simp_all; done) | (simp [*]; done) | fail) | fail))) rfl rfl ?_
      refine o_nil ?_
      refine c_code ?_
      refine r_cond rfl (fun hx => ?_) (fun hx => ?_) <;> (try simp only [decide_eq_true_eq, decide_eq_false_iff_not, Bool.and_eq_true, Bool.or_eq_true, Bool.not_eq_true', Bool.and_eq_false_iff, Bool.or_eq_false_iff, Bool.not_eq_false', Bool.not_eq_true, Bool.not_eq_false, Bool.true_eq_false, Bool.false_eq_true, Int.not_lt, Int.not_le, not_and, not_or, ne_eq] at hx)
      · exfalso; omega
      · clear hx
        refine r_skip ?_
        refine c_code ?_
        refine r_seq ?_
        refine r_region (id := 8) ?_
        refine o_give (g_move (evv rfl)) rfl rfl ?_
        refine o_give (g_buildC rfl (by rfl)) rfl rfl ?_
        refine o_boxA (evv rfl) rfl (fun _ => ?_)
        refine o_give (g_assign (evv rfl)) rfl rfl ?_
        refine o_nil ?_
        refine c_code ?_
        refine r_seq ?_
        refine r_seq ?_
        rename_i r
        obtain ⟨hw, hrb⟩ := play_ok WFT.init h0 (show ((repB (List.replicate 8 default) : Nat) : Int) ≤ room from h0) acts
        have hl8 := hw.len
        have hll := list_len hw
        have hll2 : (listT (playT room (List.replicate 8 default) acts)).length ≤ 1000 := by omega
        have W0 := WFT.init
        have R0 : ((repB (List.replicate 8 default) : Nat) : Int) ≤ room := h0
        refine r_ent (blk tb (tblB room (List.replicate 8 default)) :: blk r (rtB room (.slice none 0 0)) :: sl (.slice none 0 0) (frow seatC 5 34 (listT (List.replicate 8 default))) :: [base W]) ?_ ?_
        · exact (Ent.nilsl 34 5).trans (Lay.ent (L' := blk tb (tblB room (List.replicate 8 default)) :: blk r ⟨[.int .i64 room, .slice none 0 0], 40⟩ :: sl (.slice none 0 0) ⟨34, 5, 0, []⟩ :: [base W]))
        repeat (first | refine r_seq ?_ | refine c_code ?_ | refine c_blk ?_ | refine r_block ?_ | refine r_skip ?_)
        refine r_cutE (σ := Value) (fun u => [(64, .v (.bool false))]) [2, 3, 9, 11] (fun u => blk tb (tblB room (playT room (List.replicate 8 default) acts)) :: blk r (rtB room u) :: sl u (frow seatC 5 34 (listT (playT room (List.replicate 8 default) acts))) :: [base W]) (by dsimp only [pickE, pick1, lk2, Nat.reduceBEq, Nat.reduceAdd, Nat.zero_add, cond_true, cond_false] <;> exact rfl) ?_ ?_
        · refine r_held (id := 9) [] Mixed.h ?_
          (refine h_give (i := 0) (by kernel_rfl) rfl (g_move (evv rfl)) rfl rfl ?_)
          (refine h_give (i := 1) (by kernel_rfl) rfl (g_bin (evv rfl) (evv rfl) (by rfl)) rfl rfl ?_)
          (refine h_give (i := 2) (by kernel_rfl) rfl (g_move (evv rfl)) rfl rfl ?_)
          (refine h_sure (i := 3) (by kernel_rfl) rfl rfl (g_move (evv rfl)) rfl rfl ?_)
          (refine h_sure (i := 4) (by kernel_rfl) rfl rfl (g_move (evv rfl)) rfl rfl ?_)
          (refine h_sure (i := 5) (by kernel_rfl) rfl rfl (g_move (evv rfl)) rfl rfl ?_)
          refine h_one (i := 6) (by kernel_rfl) rfl (Ent.nil _) ?_
          (refine o_gyes rfl ?_; (refine o_call rfl _ (Ent.refl _) (play_o _ _ _ _ _ _ _ _ (by assumption) (by assumption) (by assumption) (by assumption) (by assumption)) rfl ?_; rintro _ _ ⟨rfl, pu, rfl⟩)); refine o_nil ?_
          (refine h_sure (i := 7) (by kernel_rfl) rfl rfl (g_not (evv rfl)) rfl rfl ?_)
          (refine h_give (i := 8) (by kernel_rfl) rfl (g_pick (b := false) (evv rfl) (fun h => by cases h) (fun _ => (evv rfl))) rfl rfl ?_)
          (refine h_give (i := 9) (by kernel_rfl) rfl (g_move (evv rfl)) rfl rfl ?_)
          (refine h_sure (i := 10) (by kernel_rfl) rfl rfl (g_move (evv rfl)) rfl rfl ?_)
          (refine h_sure (i := 12) (by kernel_rfl) rfl rfl (g_move (evv rfl)) rfl rfl ?_)
          (refine h_sure (i := 13) (by kernel_rfl) rfl rfl (g_nil (evv rfl)) rfl rfl ?_)
          (refine h_sure (i := 14) (by kernel_rfl) rfl rfl (g_fld (evv rfl)) rfl rfl ?_)
          refine h_two (i := 11) (j := 15) (by kernel_rfl) rfl rfl (Ent.nil _) ?_ ?_
          · (refine o_gyes rfl ?_; (refine o_call rfl _ (Ent.refl _) (Fn.atPick (List_g _ _ (by assumption))) rfl ?_; rintro _ _ ⟨-, rfl⟩)); refine o_nil ?_
            refine h_one (i := 15) (by kernel_rfl) rfl (Ent.nil _) ?_
            (refine o_gyes rfl ?_; refine o_give (g_load (evv rfl) (by rfl) (by rfl)) rfl rfl ?_); refine o_nil ?_
            refine h_one (i := 16) (by kernel_rfl) rfl (Ent.nil _) ?_
            (refine o_gyes rfl ?_; (refine o_call rfl _ (Ent.refl _) (Seats_c _ _ _ _ _ (by first | assumption | omega) (by first | assumption | omega)) rfl ?_; rintro _ _ ⟨rfl, rfl⟩)); refine o_nil ?_
            (refine h_sure (i := 17) (by kernel_rfl) rfl rfl (g_not (evv rfl)) rfl rfl ?_)
            (refine h_give (i := 18) (by kernel_rfl) rfl (g_pick (b := false) (evv rfl) (fun h => by cases h) (fun _ => (evv rfl))) rfl rfl ?_)
            refine h_done (by kernel_rfl) (Ent.nil _) ?_
            exact c_cut pu (by repeat (first | exact trivial | refine ⟨rfl, ?_⟩ | refine envsub_v rfl (by first | rfl | (refine int_eq ?_; first | omega | (simp; omega) | (simp; done)) | (refine bool_eq ?_; first | (simp [*]; done) | (simp; done)) | (refine str_eq ?_; simp; done) | (refine ptr_eq ?_; omega) | fail) ?_)) (Lay.ent)
          · (refine o_gyes rfl ?_; refine o_give (g_load (evv rfl) (by rfl) (by rfl)) rfl rfl ?_); refine o_nil ?_
            refine h_one (i := 11) (by kernel_rfl) rfl (Ent.nil _) ?_
            (refine o_gyes rfl ?_; (refine o_call rfl _ (Ent.refl _) (Fn.atPick (List_g _ _ (by assumption))) rfl ?_; rintro _ _ ⟨-, rfl⟩)); refine o_nil ?_
            refine h_one (i := 16) (by kernel_rfl) rfl (Ent.nil _) ?_
            (refine o_gyes rfl ?_; (refine o_call rfl _ (Ent.refl _) (Seats_c _ _ _ _ _ (by first | assumption | omega) (by first | assumption | omega)) rfl ?_; rintro _ _ ⟨rfl, rfl⟩)); refine o_nil ?_
            (refine h_sure (i := 17) (by kernel_rfl) rfl rfl (g_not (evv rfl)) rfl rfl ?_)
            (refine h_give (i := 18) (by kernel_rfl) rfl (g_pick (b := false) (evv rfl) (fun h => by cases h) (fun _ => (evv rfl))) rfl rfl ?_)
            refine h_done (by kernel_rfl) (Ent.nil _) ?_
            exact c_cut pu (by repeat (first | exact trivial | refine ⟨rfl, ?_⟩ | refine envsub_v rfl (by first | rfl | (refine int_eq ?_; first | omega | (simp; omega) | (simp; done)) | (refine bool_eq ?_; first | (simp [*]; done) | (simp; done)) | (refine str_eq ?_; simp; done) | (refine ptr_eq ?_; omega) | fail) ?_)) (Lay.ent)
        intro u
        dsimp only [List.cons_append, List.nil_append]
        generalize playT room (List.replicate 8 default) acts = lp at *
        refine c_code ?_
        refine r_cond_false rfl ?_
        refine r_skip ?_
        refine c_code ?_
        refine r_seq ?_
        refine r_region (id := 11) ?_
        refine o_give (g_move (evv rfl)) rfl rfl ?_
        refine o_give (g_move (evv rfl)) rfl rfl ?_
        refine o_give (g_move (evv rfl)) rfl rfl ?_
        (refine o_call rfl _ (Ent.refl _) (Fn.atPick (Look_g _ _ _ _ (by first | assumption | (simp only [inR]; omega)) (by assumption))) rfl ?_; rintro _ _ ⟨rfl, rfl⟩)
        refine o_give (g_move (evv rfl)) rfl rfl ?_
        refine o_give (g_extract (evv rfl) (by rfl)) rfl rfl ?_
        refine o_give (g_extract (evv rfl) (by rfl)) rfl rfl ?_
        refine o_give (g_assign (evv rfl)) rfl rfl ?_
        refine o_give (g_assign (evv rfl)) rfl rfl ?_
        refine o_nil ?_
        refine c_code ?_
        refine r_seq ?_
        refine r_region (id := 12) ?_
        refine o_give (g_move (evv rfl)) rfl rfl ?_
        refine o_give (g_move (evv rfl)) rfl rfl ?_
        refine o_give (g_move (evv rfl)) rfl rfl ?_
        (refine o_call rfl _ (Ent.refl _) (Fn.atPick (rLook_g _ _ _ _ (by assumption))) rfl ?_; rintro _ _ ⟨rfl, rfl⟩)
        refine o_give (g_move (evv rfl)) rfl rfl ?_
        refine o_give (g_extract (evv rfl) (by rfl)) rfl rfl ?_
        refine o_give (g_extract (evv rfl) (by rfl)) rfl rfl ?_
        refine o_give (g_assign (evv rfl)) rfl rfl ?_
        refine o_give (g_assign (evv rfl)) rfl rfl ?_
        refine o_nil ?_
        refine c_code ?_
        refine r_seq ?_
        refine r_seq ?_
        refine r_region (id := 13) ?_
        refine o_give (g_assign (evv rfl)) rfl rfl ?_
        refine o_nil ?_
        refine c_code ?_
        refine r_block ?_
        rw [look_list hw]
        refine r_loopE (σ := Nat) (fun k => 1 ≤ k ∧ k ≤ 9) (fun k => 9 - k) (fun k => [(16, .v (.int .i64 k))]) [3, 9, 11, 12, 13, 14, 15] (fun k => blk tb (tblB room lp) :: blk r (rtB room u) :: sl u (frow seatC 5 34 (listT lp)) :: [base W]) 1 (by dsimp only [pickE, pick1, lk2, Nat.reduceBEq, Nat.reduceAdd, Nat.zero_add, cond_true, cond_false] <;> exact rfl) ?_ (by repeat (first | exact trivial | refine ⟨rfl, ?_⟩ | refine envsub_v rfl (by first | rfl | (refine int_eq ?_; first | omega | (simp; omega) | (simp; done)) | (refine bool_eq ?_; first | (simp [*]; done) | (simp; done)) | (refine str_eq ?_; simp; done) | (refine ptr_eq ?_; omega) | fail) ?_)) ?_ ?_
        · omega
        · exact Lay.ent
        rintro k hk; (try dsimp only at hk); dsimp only [List.cons_append, List.nil_append]
        refine r_seq ?_
        refine r_seq ?_
        refine r_region (id := 14) ?_
        refine o_give (g_move (evv rfl)) rfl rfl ?_
        refine o_give (g_bin (evv rfl) (evv rfl) (by rfl)) rfl rfl ?_
        refine o_nil ?_
        refine c_code ?_
        refine r_cond rfl (fun hk2 => ?_) (fun hk2 => ?_) <;> (try simp only [decide_eq_true_eq, decide_eq_false_iff_not, Bool.and_eq_true, Bool.or_eq_true, Bool.not_eq_true', Bool.and_eq_false_iff, Bool.or_eq_false_iff, Bool.not_eq_false', Bool.not_eq_true, Bool.not_eq_false, Bool.true_eq_false, Bool.false_eq_true, Int.not_lt, Int.not_le, not_and, not_or, ne_eq] at hk2)
        · refine r_skip ?_
          refine c_code ?_
          refine r_seq ?_
          refine r_block ?_
          refine r_seq ?_
          refine r_region (id := 16) ?_
          refine o_give (g_move (evv rfl)) rfl rfl ?_
          refine o_give (g_move (evv rfl)) rfl rfl ?_
          refine o_give (g_move (evv rfl)) rfl rfl ?_
          (refine o_call rfl _ (Ent.refl _) (Fn.atPick (Look_g _ _ _ _ (by first | assumption | (simp only [inR]; omega)) (by assumption))) rfl ?_; rintro _ _ ⟨rfl, rfl⟩)
          refine o_give (g_move (evv rfl)) rfl rfl ?_
          refine o_give (g_extract (evv rfl) (by rfl)) rfl rfl ?_
          refine o_give (g_extract (evv rfl) (by rfl)) rfl rfl ?_
          refine o_give (g_assign (evv rfl)) rfl rfl ?_
          refine o_give (g_assign (evv rfl)) rfl rfl ?_
          refine o_nil ?_
          refine c_code ?_
          refine r_seq ?_
          refine r_region (id := 17) ?_
          refine o_give (g_move (evv rfl)) rfl rfl ?_
          refine o_give (g_move (evv rfl)) rfl rfl ?_
          refine o_give (g_move (evv rfl)) rfl rfl ?_
          (refine o_call rfl _ (Ent.refl _) (Fn.atPick (rLook_g _ _ _ _ (by assumption))) rfl ?_; rintro _ _ ⟨rfl, rfl⟩)
          refine o_give (g_move (evv rfl)) rfl rfl ?_
          refine o_give (g_extract (evv rfl) (by rfl)) rfl rfl ?_
          refine o_give (g_extract (evv rfl) (by rfl)) rfl rfl ?_
          refine o_give (g_assign (evv rfl)) rfl rfl ?_
          refine o_give (g_assign (evv rfl)) rfl rfl ?_
          refine o_nil ?_
          refine c_code ?_
          refine r_seq ?_
          refine r_region (id := 18) ?_
          refine o_give (g_move (evv rfl)) rfl rfl ?_
          refine o_give (g_move (evv rfl)) rfl rfl ?_
          refine o_give (g_bin (evv rfl) (evv rfl) (by rfl)) rfl rfl ?_
          refine o_nil ?_
          refine c_code ?_
          rw [look_list hw]
          skip
          refine r_cond rfl (fun hk3 => ?_) (fun hk3 => ?_) <;> (try simp only [decide_eq_true_eq, decide_eq_false_iff_not, Bool.and_eq_true, Bool.or_eq_true, Bool.not_eq_true', Bool.and_eq_false_iff, Bool.or_eq_false_iff, Bool.not_eq_false', Bool.not_eq_true, Bool.not_eq_false, Bool.true_eq_false, Bool.false_eq_true, Int.not_lt, Int.not_le, not_and, not_or, ne_eq] at hk3)
          · exact absurd trivial hk3
          · clear hk3
            refine r_skip ?_
            refine c_blk ?_
            refine c_code ?_
            refine r_region (id := 15) ?_
            refine o_give (g_move (evv rfl)) rfl rfl ?_
            refine o_giveN (g_bin (evv rfl) (evv rfl) (by rfl)) (by simp only [inR]; omega) rfl ?_
            refine o_give (g_assign (evv rfl)) rfl rfl ?_
            refine o_nil ?_
            refine c_loop (k + 1) ?_ ?_ (by repeat (first | exact trivial | refine ⟨rfl, ?_⟩ | refine envsub_v rfl (by first | rfl | (refine int_eq ?_; first | omega | (simp; omega) | (simp; done)) | (refine bool_eq ?_; first | (simp [*]; done) | (simp; done)) | (refine str_eq ?_; simp; done) | (refine ptr_eq ?_; omega) | fail) ?_)) ?_ <;> (try dsimp only)
            · omega
            · omega
            · exact Lay.ent
        · refine r_exit rfl ?_
          refine c_code ?_
          refine r_seq ?_
          refine r_region (id := 20) ?_
          refine o_give (g_move (evv rfl)) rfl rfl ?_
          refine o_give (g_move (evv rfl)) rfl rfl ?_
          refine o_give (g_bin (evv rfl) (evv rfl) (by rfl)) rfl rfl ?_
          refine o_give (g_move (evv rfl)) rfl rfl ?_
          refine o_lazy rfl (fun hg => g_move (by first | exact evv rfl | exact evg rfl (by rw [hp]; rfl) | exact evg rfl hp | exact evg rfl hg | exact evg rfl (by first | (simp_all; done) | (simp [*]; done) | fail) | fail)) rfl rfl ?_
          refine o_lazy rfl (fun hg => g_move (by first | exact evv rfl | exact evg rfl (by rw [hp]; rfl) | exact evg rfl hp | exact evg rfl hg | exact evg rfl (by first | (simp_all; done) | (simp [*]; done) | fail) | fail)) rfl rfl ?_
          refine o_lazy rfl (fun hg => g_binS (by first | exact evv rfl | exact evg rfl (by rw [hp]; rfl) | exact evg rfl hp | exact evg rfl hg | exact evg rfl (by first | (simp_all; done) | (simp [*]; done) | fail) | fail) (by first | exact evv rfl | exact evg rfl (by rw [hp]; rfl) | exact evg rfl hp | exact evg rfl hg | exact evg rfl (by first | (simp_all; done) | (simp [*]; done) | fail) | fail) (by rfl)) rfl rfl ?_
          refine o_give (g_pick_and (evv rfl) (evv rfl) (fun hp => (by first | exact evv rfl | exact evg rfl (by rw [hp]; rfl) | exact evg rfl hp | exact evg rfl hg | exact evg rfl (by first | (simp_all; done) | (simp [*]; done) | fail) | fail))) rfl rfl ?_
          refine o_give (g_assign (evv rfl)) rfl rfl ?_
          refine o_nil ?_
          refine c_code ?_
          first | refine r_ret (rs := [.tmp 8]) rfl rfl _ ((Lay.ent (L' := [base W]))) ?_ | refine c_end (rs := [.tmp 8]) rfl rfl _ ((Lay.ent (L' := [base W]))) ?_
          refine ⟨?_, rfl⟩
          exact bool_eq (by simp)
    · have hr : room < 0 ∨ 8192 < room := by omega
      refine r_skip ?_
      refine c_code ?_
      refine r_seq ?_
      refine r_region (id := 5) ?_
      refine o_give (g_move (evv rfl)) rfl rfl ?_
      (refine o_call rfl _ (Ent.refl _) (Make_bad _ _ (by omega)) rfl ?_; rintro _ _ ⟨rfl, rfl⟩)
      refine o_give (g_move (evv rfl)) rfl rfl ?_
      refine o_give (g_extract (evv rfl) (by rfl)) rfl rfl ?_
      refine o_give (g_extract (evv rfl) (by rfl)) rfl rfl ?_
      refine o_give (g_assign (evv rfl)) rfl rfl ?_
      refine o_give (g_assign (evv rfl)) rfl rfl ?_
      refine o_nil ?_
      refine c_code ?_
      refine r_seq ?_
      refine r_seq ?_
      refine r_region (id := 6) ?_
      refine o_give (g_move (evv rfl)) rfl rfl ?_
      refine o_give (g_bin (evv rfl) (evv rfl) (by rfl)) rfl rfl ?_
      refine o_give (g_move (evv rfl)) rfl rfl ?_
      refine o_lazy rfl (fun hg => g_move (by first | exact evv rfl | exact evg rfl (by rw [hp]; rfl) | exact evg rfl hp | exact evg rfl hg | exact evg rfl (by first | (simp_all; done) | (simp [*]; done) | fail) | fail)) rfl rfl ?_
      refine o_lazy rfl (fun hg => g_bin (by first | exact evv rfl | exact evg rfl (by rw [hp]; rfl) | exact evg rfl hp | exact evg rfl hg | exact evg rfl (by first | (simp_all; done) | (simp [*]; done) | fail) | fail) (by first | exact evv rfl | exact evg rfl (by rw [hp]; rfl) | exact evg rfl hp | exact evg rfl hg | exact evg rfl (by first | (simp_all; done) | (simp [*]; done) | fail) | fail) (by rfl)) rfl rfl ?_
      refine o_give (g_pick_or (evv rfl) (evv rfl) (fun hp => (by first | exact evv rfl | exact evg rfl (by rw [hp]; rfl) | exact evg rfl hp | exact evg rfl hg | exact evg rfl (by first | (simp_all; done) | (simp [*]; done) | fail) | fail))) rfl rfl ?_
      refine o_nil ?_
      refine c_code ?_
      refine r_cond rfl (fun hx => ?_) (fun hx => ?_) <;> (try simp only [decide_eq_true_eq, decide_eq_false_iff_not, Bool.and_eq_true, Bool.or_eq_true, Bool.not_eq_true', Bool.and_eq_false_iff, Bool.or_eq_false_iff, Bool.not_eq_false', Bool.not_eq_true, Bool.not_eq_false, Bool.true_eq_false, Bool.false_eq_true, Int.not_lt, Int.not_le, not_and, not_or, ne_eq] at hx)
      · refine r_seq ?_
        refine r_region (id := 7) ?_
        refine o_give (g_move (evv rfl)) rfl rfl ?_
        refine o_give (g_bin (evv rfl) (evv rfl) (by rfl)) rfl rfl ?_
        refine o_give (g_move (evv rfl)) rfl rfl ?_
        refine o_gyes rfl ?_
        refine o_give (g_move (evv rfl)) rfl rfl ?_
        refine o_gyes rfl ?_
        refine o_give (g_pnil TyU.h (evv rfl) (evv rfl) (by simp) (by rfl)) rfl rfl ?_
        refine o_give (g_pick (b := true) (evv rfl) (fun _ => (evv rfl)) (fun h => by cases h)) rfl rfl ?_
        refine o_give (g_assign (evv rfl)) rfl rfl ?_
        refine o_nil ?_
        refine c_code ?_
        first | refine r_ret (rs := [.tmp 8]) rfl rfl _ (Ent.refl _) ?_ | refine c_end (rs := [.tmp 8]) rfl rfl _ (Ent.refl _) ?_
        refine ⟨?_, rfl⟩
        exact bool_eq (by simp)
      · omega
end VK
