/- SessionBytes, walked. Conditions: few bytes. -/
import Derived.Test.YtcbhnagihkcafaaSes12
import Derived.Test.YtcbhnagihkcafaaSes7
import Derived.Test.YtcbhnagihkcafaaOff
namespace VK
open Go Go.Proofs
set_option linter.unusedSimpArgs false
set_option linter.unusedVariables false
set_option maxRecDepth 100000
set_option maxHeartbeats 40000000
theorem rise_el : ∀ {last : Int} {L : List Seat}, 0 ≤ last → riseL last L → ∀ s ∈ L, (0 ≤ s.client ∧ s.client ≤ 8) ∧ (0 ≤ s.number ∧ s.number ≤ 1099511627776) ∧ inR .i64 s.at_ ∧ s.reply.length ≤ 8192
  | _, [], _, _, s, hs => by cases hs
  | last, a :: L, h0, h, s, hs => by
    obtain ⟨h1, h2, h3, h4⟩ := h
    simp only [badSeat, not_or] at h1
    rcases List.mem_cons.1 hs with rfl | hs
    · exact ⟨by omega, by omega, h2, h3⟩
    · exact rise_el (by omega) h4 s hs
theorem rise_enc {room : Int} {L : List Seat} (h : riseL 0 L) (h0 : 0 ≤ room) (h1 : room ≤ 8192) (hl : L.length ≤ 8) : EncOk room L := ⟨h0, h1, hl, rise_el (Int.le_refl _) h⟩
theorem table_enc {room : Int} {l : List Seat} (h : WFT l) (hg : goodT l) (h0 : 0 ≤ room) (h1 : room ≤ 8192) (hr : (repB l : Int) ≤ room) : EncOk room (listT l) :=
  rise_enc (list_rise h (fun s hs => (hg s hs).2.1) (fun s hs => (hg s hs).2.2) (fun s hs => by have := rep_mem hs; omega)) h0 h1 (list_len h)
theorem SessionBytes_c (W : World) (v w : Value) (acts : List Act) (b : List UInt8) [rd : Rd [base W] v (frow actC 5 30 acts)] [rw_ : Rd [base W] w (mrow by8 5 b)] (room : Int) (hb : actB acts ≤ 4611686018427387904) (hok : ∀ a ∈ acts, a.ok) (hbl : b.length ≤ 140737488355000) :
    Fn Try.prog 6 [.int .i64 room, v, w] [base W] fun w L' => w = .bool true ∧ L' = [base W] := by
  refine fn_intro Try.func6 rfl Try.ntmps6 rfl (fun W0 => ?_)
  simp only [argE]
  refine r_seq ?_
  refine r_region (id := 0) ?_
  refine o_give (g_assign (evv rfl)) rfl rfl ?_
  refine o_nil ?_
  refine c_code ?_
  refine r_seq ?_
  refine r_seq ?_
  refine r_region (id := 1) ?_
  (refine o_call rfl _ (Ent.refl _) (awake_c _) rfl ?_; rintro _ _ ⟨rfl, rfl⟩)
  refine o_give (g_not (evv rfl)) rfl rfl ?_
  refine o_nil ?_
  refine c_code ?_
  refine r_cond_false rfl ?_
  refine r_skip ?_
  refine c_code ?_
  refine r_seq ?_
  refine r_seq ?_
  refine r_region (id := 3) ?_
  refine o_give (g_move (evv rfl)) rfl rfl ?_
  (refine o_call rfl _ (Ent.refl _) (fits_c _ _ _ (by first | assumption | omega)) rfl ?_; rintro _ _ ⟨rfl, rfl⟩)
  refine o_give (g_not (evv rfl)) rfl rfl ?_
  refine o_give (g_move (evv rfl)) rfl rfl ?_
  refine o_lazy rfl (fun hg => g_move (by first | exact evv rfl | exact evg rfl (by rw [hp]; rfl) | exact evg rfl hp | exact evg rfl hg | exact evg rfl (by first | (simp_all; done) | (simp [*]; done) | fail) | fail)) rfl rfl ?_
  refine o_lazy rfl (fun hg => g_bin (by first | exact evv rfl | exact evg rfl (by rw [hp]; rfl) | exact evg rfl hp | exact evg rfl hg | exact evg rfl (by first | (simp_all; done) | (simp [*]; done) | fail) | fail) (by first | exact evv rfl | exact evg rfl (by rw [hp]; rfl) | exact evg rfl hp | exact evg rfl hg | exact evg rfl (by first | (simp_all; done) | (simp [*]; done) | fail) | fail) (by rfl)) rfl rfl ?_
  refine o_give (g_pick_or (evv rfl) (evv rfl) (fun hp => (by first | exact evv rfl | exact evg rfl (by rw [hp]; rfl) | exact evg rfl hp | exact evg rfl hg | exact evg rfl (by first | (simp_all; done) | (simp [*]; done) | fail) | fail))) rfl rfl ?_
  refine o_give (g_move (evv rfl)) rfl rfl ?_
  refine o_lazy rfl (fun hg => g_move (by first | exact evv rfl | exact evg rfl (by rw [hp]; rfl) | exact evg rfl hp | exact evg rfl hg | exact evg rfl (by first | (simp_all; done) | (simp [*]; done) | fail) | fail)) rfl rfl ?_
  refine o_lazy rfl (fun hg => g_bin (by first | exact evv rfl | exact evg rfl (by rw [hp]; rfl) | exact evg rfl hp | exact evg rfl hg | exact evg rfl (by first | (simp_all; done) | (simp [*]; done) | fail) | fail) (by first | exact evv rfl | exact evg rfl (by rw [hp]; rfl) | exact evg rfl hp | exact evg rfl hg | exact evg rfl (by first | (simp_all; done) | (simp [*]; done) | fail) | fail) (by rfl)) rfl rfl ?_
  refine o_give (g_pick_or (evv rfl) (evv rfl) (fun hp => (by first | exact evv rfl | exact evg rfl (by rw [hp]; rfl) | exact evg rfl hp | exact evg rfl hg | exact evg rfl (by first | (simp_all; done) | (simp [*]; done) | fail) | fail))) rfl rfl ?_
  refine o_give (g_move (evv rfl)) rfl rfl ?_
  refine o_lazy rfl (fun hg => g_move (by first | exact evv rfl | exact evg rfl (by rw [hp]; rfl) | exact evg rfl hp | exact evg rfl hg | exact evg rfl (by first | (simp_all; done) | (simp [*]; done) | fail) | fail)) rfl rfl ?_
  refine o_lazy rfl (fun hg => g_lenM (by first | exact evv rfl | exact evg rfl (by rw [hp]; rfl) | exact evg rfl hp | exact evg rfl hg | exact evg rfl (by first | (simp_all; done) | (simp [*]; done) | fail) | fail)) rfl rfl ?_
  refine o_lazy rfl (fun hg => g_bin (by first | exact evv rfl | exact evg rfl (by rw [hp]; rfl) | exact evg rfl hp | exact evg rfl hg | exact evg rfl (by first | (simp_all; done) | (simp [*]; done) | fail) | fail) (by first | exact evv rfl | exact evg rfl (by rw [hp]; rfl) | exact evg rfl hp | exact evg rfl hg | exact evg rfl (by first | (simp_all; done) | (simp [*]; done) | fail) | fail) (by rfl)) rfl rfl ?_
  refine o_give (g_pick_or (evv rfl) (evv rfl) (fun hp => (by first | exact evv rfl | exact evg rfl (by rw [hp]; rfl) | exact evg rfl hp | exact evg rfl hg | exact evg rfl (by first | (simp_all; done) | (simp [*]; done) | fail) | fail))) rfl rfl ?_
  refine o_nil ?_
  refine c_code ?_
  refine r_cond rfl (fun hf => ?_) (fun hf => ?_) <;> (try simp only [decide_eq_true_eq, decide_eq_false_iff_not, Bool.and_eq_true, Bool.or_eq_true, Bool.not_eq_true', Bool.and_eq_false_iff, Bool.or_eq_false_iff, Bool.not_eq_false', Bool.not_eq_true, Bool.not_eq_false, Bool.true_eq_false, Bool.false_eq_true, Int.not_lt, Int.not_le, not_and, not_or, ne_eq] at hf)
  · refine r_seq ?_
    refine r_region (id := 4) ?_
    refine o_give (g_assign (evv rfl)) rfl rfl ?_
    refine o_nil ?_
    refine c_code ?_
    first | refine r_ret (rs := [.tmp 6]) rfl rfl _ ((Lay.ent (L' := [base W]))) ?_ | refine c_end (rs := [.tmp 6]) rfl rfl _ ((Lay.ent (L' := [base W]))) ?_
    (refine ⟨?_, ?_⟩ <;> first | rfl | trivial | omega)
  · have h0 : 0 ≤ room := by omega
    have h1 : room ≤ 8192 := by omega
    clear hf
    refine r_skip ?_
    refine c_code ?_
    refine r_seq ?_
    refine r_region (id := 5) ?_
    refine o_give (g_move (evv rfl)) rfl rfl ?_
    (refine o_call rfl _ (Ent.refl _) (Make_ok _ _ (by omega)) rfl ?_; rintro _ _ ⟨tb, rfl, rfl⟩)
    refine o_give (g_move (evv rfl)) rfl rfl ?_
    refine o_give (g_extract (evv rfl) (by rfl)) rfl rfl ?_
    refine o_give (g_extract (evv rfl) (by rfl)) rfl rfl ?_
    refine o_give (g_assign (evv rfl)) rfl rfl ?_
    refine o_give (g_assign (evv rfl)) rfl rfl ?_
    refine o_nil ?_
    refine c_code ?_
    refine r_seq ?_
    refine r_region (id := 6) ?_
    refine o_give (g_move (evv rfl)) rfl rfl ?_
    refine o_give (g_buildC rfl (by rfl)) rfl rfl ?_
    refine o_boxA (evv rfl) rfl (fun _ => ?_)
    refine o_give (g_assign (evv rfl)) rfl rfl ?_
    refine o_nil ?_
    refine c_code ?_
    refine r_seq ?_
    refine r_seq ?_
    rename_i r
    obtain ⟨hw, hrb⟩ := play_ok WFT.init h0 (show ((repB (List.replicate 8 default) : Nat) : Int) ≤ room from h0) acts
    have hg : goodT (playT room (List.replicate 8 default) acts) := goodT.init.play hok
    have hl8 := hw.len
    have hek := table_enc hw hg h0 h1 hrb
    have W0 := WFT.init
    have R0 : ((repB (List.replicate 8 default) : Nat) : Int) ≤ room := h0
    have hel := hek.take (listT (playT room (List.replicate 8 default) acts)).length (Nat.le_refl _)
    refine r_ent (blk tb (tblB room (List.replicate 8 default)) :: blk r (rtB room (.slice none 0 0)) :: sl (.slice none 0 0) (frow seatC 5 34 (listT (List.replicate 8 default))) :: [base W]) ?_ ?_
    · exact (Ent.nilsl 34 5).trans (Lay.ent (L' := blk tb (tblB room (List.replicate 8 default)) :: blk r ⟨[.int .i64 room, .slice none 0 0], 40⟩ :: sl (.slice none 0 0) ⟨34, 5, 0, []⟩ :: [base W]))
    repeat (first | refine r_seq ?_ | refine c_code ?_ | refine c_blk ?_ | refine r_block ?_ | refine r_skip ?_)
    refine r_cutE (σ := Value) (fun u => [(57, .v (.bool false))]) [2] (fun u => blk tb (tblB room (playT room (List.replicate 8 default) acts)) :: blk r (rtB room u) :: sl u (frow seatC 5 34 (listT (playT room (List.replicate 8 default) acts))) :: [base W]) (by dsimp only [pickE, pick1, lk2, Nat.reduceBEq, Nat.reduceAdd, Nat.zero_add, cond_true, cond_false] <;> exact rfl) ?_ ?_
    · refine r_held (id := 7) [] Mixed.h ?_
      (refine h_give (i := 0) (by kernel_rfl) rfl (g_move (evv rfl)) rfl rfl ?_)
      (refine h_give (i := 1) (by kernel_rfl) rfl (g_pnil TyU.h (evv rfl) (evv rfl) (by simp) (by rfl)) rfl rfl ?_)
      (refine h_give (i := 2) (by kernel_rfl) rfl (g_move (evv rfl)) rfl rfl ?_)
      (refine h_sure (i := 3) (by kernel_rfl) rfl rfl (g_move (evv rfl)) rfl rfl ?_)
      (refine h_sure (i := 4) (by kernel_rfl) rfl rfl (g_move (evv rfl)) rfl rfl ?_)
      (refine h_sure (i := 5) (by kernel_rfl) rfl rfl (g_move (evv rfl)) rfl rfl ?_)
      refine h_one (i := 6) (by kernel_rfl) rfl (Ent.nil _) ?_
      (refine o_gyes rfl ?_; (refine o_call rfl _ (Ent.refl _) (play_o _ _ _ _ _ _ _ _ (by assumption) (by assumption) (by assumption) (by assumption) (by assumption)) rfl ?_; rintro _ _ ⟨rfl, pu, rfl⟩)); refine o_nil ?_
      (refine h_sure (i := 7) (by kernel_rfl) rfl rfl (g_not (evv rfl)) rfl rfl ?_)
      (refine h_give (i := 8) (by kernel_rfl) rfl (g_pick (b := false) (evv rfl) (fun h => by cases h) (fun _ => (evv rfl))) rfl rfl ?_)
      (refine h_give (i := 9) (by kernel_rfl) rfl (g_move (evv rfl)) rfl rfl ?_)
      (refine h_sure (i := 10) (by kernel_rfl) rfl rfl (g_move (evv rfl)) rfl rfl ?_)
      (refine h_sure (i := 13) (by kernel_rfl) rfl rfl (g_move (evv rfl)) rfl rfl ?_)
      refine h_one (i := 11) (by kernel_rfl) rfl (Ent.nil _) ?_
      (refine o_gyes rfl ?_; (refine o_call rfl _ (Ent.refl _) (Fn.atPick (Encode_g _ _ (by assumption) (by assumption))) rfl ?_; rintro _ _ ⟨_, rfl⟩)); refine o_nil ?_
      refine h_two (i := 12) (j := 14) (by kernel_rfl) rfl rfl (Ent.nil _) ?_ ?_
      · (refine o_gyes rfl ?_; refine o_give (g_b2sM (evv rfl)) rfl rfl ?_); refine o_nil ?_
        refine h_one (i := 14) (by kernel_rfl) rfl (Ent.nil _) ?_
        (refine o_gyes rfl ?_; (refine o_call rfl _ (Ent.refl _) (Fn.atPick (rEncode_g _ _ (by assumption))) rfl ?_; rintro _ _ ⟨_, rfl⟩)); refine o_nil ?_
        refine h_one (i := 15) (by kernel_rfl) rfl (Ent.nil _) ?_
        (refine o_gyes rfl ?_; refine o_give (g_b2sM (evv rfl)) rfl rfl ?_); refine o_nil ?_
        (refine h_sure (i := 16) (by kernel_rfl) rfl rfl (g_binS (evv rfl) (evv rfl) (by rfl)) rfl rfl ?_)
        (refine h_give (i := 17) (by kernel_rfl) rfl (g_pick (b := false) (evv rfl) (fun h => by cases h) (fun _ => (evv rfl))) rfl rfl ?_)
        refine h_done (by kernel_rfl) (Ent.nil _) ?_
        exact c_cut pu (by repeat (first | exact trivial | refine ⟨rfl, ?_⟩ | refine envsub_v rfl (by first | rfl | (refine int_eq ?_; first | omega | (simp; omega) | (simp; done)) | (refine bool_eq ?_; first | (simp [*]; done) | (simp; done)) | (refine str_eq ?_; simp; done) | (refine ptr_eq ?_; omega) | fail) ?_)) (Lay.ent)
      · (refine o_gyes rfl ?_; (refine o_call rfl _ (Ent.refl _) (Fn.atPick (rEncode_g _ _ (by assumption))) rfl ?_; rintro _ _ ⟨_, rfl⟩)); refine o_nil ?_
        refine h_two (i := 12) (j := 15) (by kernel_rfl) rfl rfl (Ent.nil _) ?_ ?_
        · (refine o_gyes rfl ?_; refine o_give (g_b2sM (evv rfl)) rfl rfl ?_); refine o_nil ?_
          refine h_one (i := 15) (by kernel_rfl) rfl (Ent.nil _) ?_
          (refine o_gyes rfl ?_; refine o_give (g_b2sM (evv rfl)) rfl rfl ?_); refine o_nil ?_
          (refine h_sure (i := 16) (by kernel_rfl) rfl rfl (g_binS (evv rfl) (evv rfl) (by rfl)) rfl rfl ?_)
          (refine h_give (i := 17) (by kernel_rfl) rfl (g_pick (b := false) (evv rfl) (fun h => by cases h) (fun _ => (evv rfl))) rfl rfl ?_)
          refine h_done (by kernel_rfl) (Ent.nil _) ?_
          exact c_cut pu (by repeat (first | exact trivial | refine ⟨rfl, ?_⟩ | refine envsub_v rfl (by first | rfl | (refine int_eq ?_; first | omega | (simp; omega) | (simp; done)) | (refine bool_eq ?_; first | (simp [*]; done) | (simp; done)) | (refine str_eq ?_; simp; done) | (refine ptr_eq ?_; omega) | fail) ?_)) (Lay.ent)
        · (refine o_gyes rfl ?_; refine o_give (g_b2sM (evv rfl)) rfl rfl ?_); refine o_nil ?_
          refine h_one (i := 12) (by kernel_rfl) rfl (Ent.nil _) ?_
          (refine o_gyes rfl ?_; refine o_give (g_b2sM (evv rfl)) rfl rfl ?_); refine o_nil ?_
          (refine h_sure (i := 16) (by kernel_rfl) rfl rfl (g_binS (evv rfl) (evv rfl) (by rfl)) rfl rfl ?_)
          (refine h_give (i := 17) (by kernel_rfl) rfl (g_pick (b := false) (evv rfl) (fun h => by cases h) (fun _ => (evv rfl))) rfl rfl ?_)
          refine h_done (by kernel_rfl) (Ent.nil _) ?_
          exact c_cut pu (by repeat (first | exact trivial | refine ⟨rfl, ?_⟩ | refine envsub_v rfl (by first | rfl | (refine int_eq ?_; first | omega | (simp; omega) | (simp; done)) | (refine bool_eq ?_; first | (simp [*]; done) | (simp; done)) | (refine str_eq ?_; simp; done) | (refine ptr_eq ?_; omega) | fail) ?_)) (Lay.ent)
    intro u
    dsimp only [List.cons_append, List.nil_append]
    cases hd : decT b with
    | none =>
      refine c_code ?_
      refine r_cond_false rfl ?_
      refine r_skip ?_
      refine c_code ?_
      refine r_seq ?_
      refine r_region (id := 9) ?_
      refine o_give (g_move (evv rfl)) rfl rfl ?_
      (refine o_call rfl _ (Ent.refl _) (Decode_n _ _ _ (by first | assumption | omega) (by assumption)) rfl ?_; rintro _ _ ⟨rfl, hLz⟩; obtain rfl := hLz.symm; clear hLz)
      refine o_give (g_move (evv rfl)) rfl rfl ?_
      refine o_give (g_extract (evv rfl) (by rfl)) rfl rfl ?_
      refine o_give (g_extract (evv rfl) (by rfl)) rfl rfl ?_
      refine o_give (g_assign (evv rfl)) rfl rfl ?_
      refine o_give (g_assign (evv rfl)) rfl rfl ?_
      refine o_nil ?_
      refine c_code ?_
      refine r_seq ?_
      refine r_region (id := 10) ?_
      refine o_give (g_move (evv rfl)) rfl rfl ?_
      (refine o_call rfl _ (Ent.refl _) (rDecode_n _ _ _ (by first | assumption | omega) (by assumption)) rfl ?_; rintro _ _ ⟨rfl, hLz⟩; obtain rfl := hLz.symm; clear hLz)
      refine o_give (g_move (evv rfl)) rfl rfl ?_
      refine o_give (g_extract (evv rfl) (by rfl)) rfl rfl ?_
      refine o_give (g_extract (evv rfl) (by rfl)) rfl rfl ?_
      refine o_give (g_assign (evv rfl)) rfl rfl ?_
      refine o_give (g_assign (evv rfl)) rfl rfl ?_
      refine o_nil ?_
      refine c_code ?_
      refine r_seq ?_
      refine r_seq ?_
      refine r_region (id := 11) ?_
      refine o_give (g_move (evv rfl)) rfl rfl ?_
      refine o_give (g_bin (evv rfl) (evv rfl) (by rfl)) rfl rfl ?_
      refine o_give (g_move (evv rfl)) rfl rfl ?_
      refine o_give (g_binB TyU.h (evv rfl) (evv rfl) (by rfl)) rfl rfl ?_
      refine o_give (g_move (evv rfl)) rfl rfl ?_
      refine o_gyes rfl ?_
      refine o_give (g_move (evv rfl)) rfl rfl ?_
      refine o_gyes rfl ?_
      refine o_give (g_pnil TyU.h (evv rfl) (evv rfl) (by simp) (by rfl)) rfl rfl ?_
      refine o_gyes rfl ?_
      refine o_give (g_move (evv rfl)) rfl rfl ?_
      refine o_gyes rfl ?_
      refine o_give (g_binB TyU.h (evv rfl) (evv rfl) (by rfl)) rfl rfl ?_
      refine o_give (g_pick (b := false) (evv rfl) (fun h => by cases h) (fun _ => (evv rfl))) rfl rfl ?_
      refine o_give (g_move (evv rfl)) rfl rfl ?_
      refine o_gyes rfl ?_
      refine o_give (g_move (evv rfl)) rfl rfl ?_
      refine o_gyes rfl ?_
      refine o_give (g_not (evv rfl)) rfl rfl ?_
      refine o_gyes rfl ?_
      refine o_give (g_move (evv rfl)) rfl rfl ?_
      refine o_gyes rfl ?_
      refine o_give (g_move (evv rfl)) rfl rfl ?_
      refine o_gyes rfl ?_
      refine o_give (g_bin (evv rfl) (evv rfl) (by rfl)) rfl rfl ?_
      refine o_gyes rfl ?_
      refine o_give (g_pick (b := true) (evv rfl) (fun _ => (evv rfl)) (fun h => by cases h)) rfl rfl ?_
      refine o_give (g_pick (b := false) (evv rfl) (fun h => by cases h) (fun _ => (evv rfl))) rfl rfl ?_
      refine o_nil ?_
      refine c_code ?_
      refine r_cond_false rfl ?_
      refine r_skip ?_
      refine c_code ?_
      refine r_seq ?_
      repeat (first | refine r_seq ?_ | refine c_code ?_ | refine c_blk ?_ | refine r_block ?_ | refine r_skip ?_)
      refine r_held (id := 13) [base W] Mixed.h ?_
      refine h_give (i := 0) (by kernel_rfl) rfl (g_move (evv rfl)) rfl rfl ?_
      refine h_give (i := 1) (by kernel_rfl) rfl (g_not (evv rfl)) rfl rfl ?_
      refine h_give (i := 2) (by kernel_rfl) rfl (g_move (evv rfl)) rfl rfl ?_
      simp only [Bool.not_false]
      refine h_lazy (i := 3) (by kernel_rfl) rfl rfl (fun hg => g_move (by first | exact evv rfl | exact evg rfl (by rw [hp]; rfl) | exact evg rfl hp | exact evg rfl hg | exact evg rfl (by first | (simp_all; done) | (simp [*]; done) | fail) | fail)) rfl rfl ?_
      refine h_lazy (i := 5) (by kernel_rfl) rfl rfl (fun hg => g_move (by first | exact evv rfl | exact evg rfl (by rw [hp]; rfl) | exact evg rfl hp | exact evg rfl hg | exact evg rfl (by first | (simp_all; done) | (simp [*]; done) | fail) | fail)) rfl rfl ?_
      refine h_lazy (i := 6) (by kernel_rfl) rfl (v0 := undef) rfl (fun hg => absurd hg (by first | (simp; done) | fail)) rfl rfl ?_
      refine h_lazy (i := 7) (by kernel_rfl) rfl (v0 := undef) rfl (fun hg => absurd hg (by first | (simp; done) | fail)) rfl rfl ?_
      refine h_lazy (i := 8) (by kernel_rfl) rfl (v0 := undef) rfl (fun hg => absurd hg (by first | (simp; done) | fail)) rfl rfl ?_
      refine h_one (i := 4) (by kernel_rfl) rfl (Lay.ent) ?_
      refine o_lazy (v0 := undef) rfl (fun hg => absurd hg (by first | (simp; done) | fail)) rfl rfl ?_
      refine o_nil ?_
      refine h_one (i := 9) (by kernel_rfl) rfl (Lay.ent) ?_
      refine o_lazy (v0 := undef) rfl (fun hg => absurd hg (by first | (simp; done) | fail)) rfl rfl ?_
      refine o_nil ?_
      refine h_lazy (i := 10) (by kernel_rfl) rfl rfl (fun hg => g_move (by first | exact evv rfl | exact evg rfl (by rw [hp]; rfl) | exact evg rfl hp | exact evg rfl hg | exact evg rfl (by first | (simp_all; done) | (simp [*]; done) | fail) | fail)) rfl rfl ?_
      refine h_off (i := 11) (by kernel_rfl) rfl rfl rfl rfl ?_
      refine h_off (i := 14) (by kernel_rfl) rfl rfl rfl rfl ?_
      refine h_off (i := 15) (by kernel_rfl) rfl rfl rfl rfl ?_
      refine h_one (i := 12) (by kernel_rfl) rfl (Lay.ent) ?_
      refine o_off rfl rfl rfl ?_
      refine o_nil ?_
      refine h_one (i := 13) (by kernel_rfl) rfl (Lay.ent) ?_
      refine o_off rfl rfl rfl ?_
      refine o_nil ?_
      refine h_off (i := 16) (by kernel_rfl) rfl rfl rfl rfl ?_
      refine h_lazy (i := 17) (by kernel_rfl) rfl (v0 := undef) rfl (fun hg => absurd hg (by first | (simp; done) | fail)) rfl rfl ?_
      refine h_give (i := 18) (by kernel_rfl) rfl (g_pick (b := true) (evv rfl) (fun _ => (evv rfl)) (fun h => by cases h)) rfl rfl ?_
      refine h_give (i := 19) (by kernel_rfl) rfl (g_assign (evv rfl)) rfl rfl ?_
      refine h_done (by kernel_rfl) (Lay.ent) ?_
      refine c_code ?_
      first | refine r_ret (rs := [.tmp 6]) rfl rfl _ ((Lay.ent (L' := [base W]))) ?_ | refine c_end (rs := [.tmp 6]) rfl rfl _ ((Lay.ent (L' := [base W]))) ?_
      (refine ⟨?_, ?_⟩ <;> first | rfl | trivial | omega)
    | some x =>
      obtain ⟨rm, L⟩ := x
      obtain ⟨d1, d2, d3, d4, d5⟩ := dec_canon hd
      obtain ⟨t1, t2, t3⟩ := tab_ok d2
      have hl82 := t1.len
      have hek2 : EncOk (rm : Int) (listT (tabOf L)) := by rw [t2]; exact rise_enc d2 (by omega) (by omega) d3
      have hek3 := hek2.take (listT (tabOf L)).length (Nat.le_refl _)
      rw [List.take_length] at hek3
      have hel3 : (encT (rm : Int) (listT (tabOf L))).length ≤ 140737488355000 := by
        have h1 := num_le (rm : Int).toNat (by omega)
        have h2 := num_le (listT (tabOf L)).length (by rw [t2]; omega)
        have h3 := list_len t1
        simp only [encT, List.length_append]
        omega
      have hll1 : L.length ≤ 1000 := by omega
      have hll2 : (listT (tabOf L)).length ≤ 1000 := by rw [t2]; omega
      refine c_code ?_
      refine r_cond_false rfl ?_
      refine r_skip ?_
      refine c_code ?_
      refine r_seq ?_
      refine r_region (id := 9) ?_
      refine o_give (g_move (evv rfl)) rfl rfl ?_
      (refine o_call rfl _ (Ent.refl _) (Decode_s _ _ _ _ _ (by first | assumption | omega) (by assumption)) rfl ?_; rintro _ _ ⟨db, rfl, rfl⟩)
      refine o_give (g_move (evv rfl)) rfl rfl ?_
      refine o_give (g_extract (evv rfl) (by rfl)) rfl rfl ?_
      refine o_give (g_extract (evv rfl) (by rfl)) rfl rfl ?_
      refine o_give (g_assign (evv rfl)) rfl rfl ?_
      refine o_give (g_assign (evv rfl)) rfl rfl ?_
      refine o_nil ?_
      refine c_code ?_
      refine r_seq ?_
      refine r_region (id := 10) ?_
      refine o_give (g_move (evv rfl)) rfl rfl ?_
      (refine o_call rfl _ (Ent.refl _) (rDecode_s _ _ _ _ _ (by first | assumption | omega) (by assumption)) rfl ?_; rintro _ _ ⟨dt, du, rfl, rfl⟩)
      refine o_give (g_move (evv rfl)) rfl rfl ?_
      refine o_give (g_extract (evv rfl) (by rfl)) rfl rfl ?_
      refine o_give (g_extract (evv rfl) (by rfl)) rfl rfl ?_
      refine o_give (g_assign (evv rfl)) rfl rfl ?_
      refine o_give (g_assign (evv rfl)) rfl rfl ?_
      refine o_nil ?_
      refine c_code ?_
      refine r_seq ?_
      refine r_seq ?_
      refine r_region (id := 11) ?_
      refine o_give (g_move (evv rfl)) rfl rfl ?_
      refine o_give (g_bin (evv rfl) (evv rfl) (by rfl)) rfl rfl ?_
      refine o_give (g_move (evv rfl)) rfl rfl ?_
      refine o_give (g_binB TyU.h (evv rfl) (evv rfl) (by rfl)) rfl rfl ?_
      refine o_give (g_move (evv rfl)) rfl rfl ?_
      refine o_gyes rfl ?_
      refine o_give (g_move (evv rfl)) rfl rfl ?_
      refine o_gyes rfl ?_
      refine o_give (g_pnil TyU.h (evv rfl) (evv rfl) (by simp) (by rfl)) rfl rfl ?_
      refine o_gyes rfl ?_
      refine o_give (g_move (evv rfl)) rfl rfl ?_
      refine o_gyes rfl ?_
      refine o_give (g_binB TyU.h (evv rfl) (evv rfl) (by rfl)) rfl rfl ?_
      refine o_give (g_pick (b := false) (evv rfl) (fun h => by cases h) (fun _ => (evv rfl))) rfl rfl ?_
      refine o_give (g_move (evv rfl)) rfl rfl ?_
      refine o_gyes rfl ?_
      refine o_give (g_move (evv rfl)) rfl rfl ?_
      refine o_gyes rfl ?_
      refine o_give (g_not (evv rfl)) rfl rfl ?_
      refine o_gyes rfl ?_
      refine o_give (g_move (evv rfl)) rfl rfl ?_
      refine o_lazy rfl (fun hg => g_move (by first | exact evv rfl | exact evg rfl (by rw [hp]; rfl) | exact evg rfl hp | exact evg rfl hg | exact evg rfl (by first | (simp_all; done) | (simp [*]; done) | fail) | fail)) rfl rfl ?_
      refine o_lazy rfl (fun hg => g_bin (by first | exact evv rfl | exact evg rfl (by rw [hp]; rfl) | exact evg rfl hp | exact evg rfl hg | exact evg rfl (by first | (simp_all; done) | (simp [*]; done) | fail) | fail) (by first | exact evv rfl | exact evg rfl (by rw [hp]; rfl) | exact evg rfl hp | exact evg rfl hg | exact evg rfl (by first | (simp_all; done) | (simp [*]; done) | fail) | fail) (by rfl)) rfl rfl ?_
      refine o_gyes rfl ?_
      refine o_give (g_pick (b := false) (evv rfl) (fun h => by cases h) (fun _ => (evv rfl))) rfl rfl ?_
      refine o_give (g_pick (b := false) (evv rfl) (fun h => by cases h) (fun _ => (evv rfl))) rfl rfl ?_
      refine o_nil ?_
      refine c_code ?_
      refine r_cond_false rfl ?_
      refine r_skip ?_
      refine c_code ?_
      refine r_seq ?_
      repeat (first | refine r_seq ?_ | refine c_code ?_ | refine c_blk ?_ | refine r_block ?_ | refine r_skip ?_)
      refine r_held (id := 13) [blk dt (rtB (rm : Int) du), base W] Mixed.h ?_
      refine h_give (i := 0) (by kernel_rfl) rfl (g_move (evv rfl)) rfl rfl ?_
      refine h_give (i := 1) (by kernel_rfl) rfl (g_not (evv rfl)) rfl rfl ?_
      refine h_give (i := 2) (by kernel_rfl) rfl (g_move (evv rfl)) rfl rfl ?_
      refine h_sure (i := 3) (by kernel_rfl) rfl rfl (g_move (evv rfl)) rfl rfl ?_
      refine h_sure (i := 5) (by kernel_rfl) rfl rfl (g_move (evv rfl)) rfl rfl ?_
      refine h_sure (i := 6) (by kernel_rfl) rfl rfl (g_nil (evv rfl)) rfl rfl ?_
      refine h_sure (i := 7) (by kernel_rfl) rfl rfl (g_fld (evv rfl)) rfl rfl ?_
      refine h_sure (i := 8) (by kernel_rfl) rfl rfl (g_load (evv rfl) (by rfl) (by rfl)) rfl rfl ?_
      refine h_one (i := 4) (by kernel_rfl) rfl (Lay.ent) ?_
      refine o_gyes rfl ?_
      (refine o_call rfl _ (Ent.refl _) (Fn.atPick (List_g _ _ (by assumption))) rfl ?_; rintro _ _ ⟨-, rfl⟩)
      refine o_nil ?_
      refine h_one (i := 9) (by kernel_rfl) rfl (Lay.ent) ?_
      refine o_gyes rfl ?_
      (refine o_call rfl _ (Ent.refl _) (Seats_c _ _ _ _ _ (by first | assumption | omega) (by first | assumption | omega)) rfl ?_; rintro _ _ ⟨rfl, rfl⟩)
      refine o_nil ?_
      refine h_sure (i := 10) (by kernel_rfl) rfl rfl (g_move (evv rfl)) rfl rfl ?_
      simp only [t2, seatsEq, decide_true]
      refine h_sure (i := 11) (by kernel_rfl) rfl rfl (g_move (evv rfl)) rfl rfl ?_
      refine h_sure (i := 14) (by kernel_rfl) rfl rfl (g_move (evv rfl)) rfl rfl ?_
      refine h_sure (i := 15) (by kernel_rfl) rfl rfl (g_b2sM (evv rfl)) rfl rfl ?_
      refine h_one (i := 12) (by kernel_rfl) rfl (Lay.ent) ?_
      refine o_gyes rfl ?_
      (refine o_call rfl _ (Ent.refl _) (Fn.atPick (Encode_g _ _ (by assumption) (by assumption))) rfl ?_; rintro _ _ ⟨_, rfl⟩)
      refine o_nil ?_
      refine h_one (i := 13) (by kernel_rfl) rfl (Lay.ent) ?_
      refine o_gyes rfl ?_
      refine o_give (g_b2sM (evv rfl)) rfl rfl ?_
      refine o_nil ?_
      refine h_sure (i := 16) (by kernel_rfl) rfl rfl (g_binS (evv rfl) (evv rfl) (by rfl)) rfl rfl ?_
      refine h_sure (i := 17) (by kernel_rfl) rfl rfl (g_pick (b := true) (evv rfl) (fun _ => (evv rfl)) (fun h => by cases h)) rfl rfl ?_
      refine h_give (i := 18) (by kernel_rfl) rfl (g_pick (b := false) (evv rfl) (fun h => by cases h) (fun _ => (evv rfl))) rfl rfl ?_
      refine h_give (i := 19) (by kernel_rfl) rfl (g_assign (evv rfl)) rfl rfl ?_
      refine h_done (by kernel_rfl) (Lay.ent) ?_
      refine c_code ?_
      first | refine r_ret (rs := [.tmp 6]) rfl rfl _ ((Lay.ent (L' := [base W]))) ?_ | refine c_end (rs := [.tmp 6]) rfl rfl _ ((Lay.ent (L' := [base W]))) ?_
      exact ⟨bool_eq (decide_eq_true (by rw [t2]; exact d1.symm)), rfl⟩
end VK
