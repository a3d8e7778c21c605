/- SessionBack, walked. Conditions: few bytes. -/
import Derived.Test.YtcbhnagihkcafaaSes13
namespace VK
open Go Go.Proofs
set_option linter.unusedSimpArgs false
set_option linter.unusedVariables false
set_option maxRecDepth 100000
set_option maxHeartbeats 40000000
theorem Look_nil (L : List Atom) (client number : Int) : Fn Try.prog 15 [.pointer none, .int .i64 client, .int .i64 number] L fun v L' => v = .tuple #[.int .i64 0, str []] ∧ L' = L := by
  refine fn_intro Try.func15 rfl Try.ntmps15 rfl (fun W0 => ?_)
  simp only [argE]
  refine r_seq ?_
  refine r_region (id := 0) ?_
  refine o_give (g_assign (evv rfl)) rfl rfl ?_
  refine o_give (g_assign (evv rfl)) rfl rfl ?_
  refine o_nil ?_
  refine c_code ?_
  refine r_seq ?_
  refine r_region (id := 1) ?_
  refine o_give (g_move (evv rfl)) rfl rfl ?_
  refine o_give (g_move (evv rfl)) rfl rfl ?_
  (refine o_call rfl _ (Ent.refl _) (seat_nil _ _) rfl ?_; rintro _ _ ⟨rfl, rfl⟩)
  refine o_give (g_assign (evv rfl)) rfl rfl ?_
  refine o_nil ?_
  refine c_code ?_
  refine r_seq ?_
  refine r_block ?_
  refine r_seq ?_
  refine r_region (id := 2) ?_
  refine o_give (g_move (evv rfl)) rfl rfl ?_
  refine o_give (g_pnil TyU.h (evv rfl) (evv rfl) (by simp) (by rfl)) rfl rfl ?_
  refine o_give (g_move (evv rfl)) rfl rfl ?_
  refine o_lazy rfl (fun hg => g_move (by first | exact evv rfl | exact evg rfl (by rw [hp]; rfl) | exact evg rfl hp | exact evg rfl hg | exact evg rfl (by first | (simp_all; done) | (simp [*]; done) | fail) | fail)) rfl rfl ?_
  refine o_lazy rfl (fun hg => g_bin (by first | exact evv rfl | exact evg rfl (by rw [hp]; rfl) | exact evg rfl hp | exact evg rfl hg | exact evg rfl (by first | (simp_all; done) | (simp [*]; done) | fail) | fail) (by first | exact evv rfl | exact evg rfl (by rw [hp]; rfl) | exact evg rfl hp | exact evg rfl hg | exact evg rfl (by first | (simp_all; done) | (simp [*]; done) | fail) | fail) (by rfl)) rfl rfl ?_
  refine o_give (g_pick (b := true) (evv rfl) (fun _ => (evv rfl)) (fun h => by cases h)) rfl rfl ?_
  refine o_give (g_move (evv rfl)) rfl rfl ?_
  refine o_lazy rfl (fun hg => g_move (by first | exact evv rfl | exact evg rfl (by rw [hp]; rfl) | exact evg rfl hp | exact evg rfl hg | exact evg rfl (by first | (simp_all; done) | (simp [*]; done) | fail) | fail)) rfl rfl ?_
  refine o_lazy rfl (fun hg => g_bin (by first | exact evv rfl | exact evg rfl (by rw [hp]; rfl) | exact evg rfl hp | exact evg rfl hg | exact evg rfl (by first | (simp_all; done) | (simp [*]; done) | fail) | fail) (by first | exact evv rfl | exact evg rfl (by rw [hp]; rfl) | exact evg rfl hp | exact evg rfl hg | exact evg rfl (by first | (simp_all; done) | (simp [*]; done) | fail) | fail) (by rfl)) rfl rfl ?_
  refine o_give (g_pick (b := true) (evv rfl) (fun _ => (evv rfl)) (fun h => by cases h)) rfl rfl ?_
  refine o_give (g_assign (evv rfl)) rfl rfl ?_
  refine o_nil ?_
  refine c_code ?_
  refine r_cond_true rfl ?_
  refine r_seq ?_
  refine r_region (id := 3) ?_
  refine o_give (g_assign (evv rfl)) rfl rfl ?_
  refine o_give (g_assign (evv rfl)) rfl rfl ?_
  refine o_nil ?_
  refine c_code ?_
  first | refine r_ret (rs := [.tmp 6, .tmp 7]) rfl rfl _ (Ent.refl _) ?_ | refine c_end (rs := [.tmp 6, .tmp 7]) rfl rfl _ (Ent.refl _) ?_
  (refine ⟨?_, ?_⟩ <;> first | rfl | trivial | omega)
theorem Record_nil (L : List Atom) (client number at_ : Int) (s : List UInt8) : Fn Try.prog 12 [.pointer none, .int .i64 client, .int .i64 number, .int .i64 at_, str s] L fun v L' => v = .int .i64 7 ∧ L' = L := by
  refine fn_intro Try.func12 rfl Try.ntmps12 rfl (fun W0 => ?_)
  simp only [argE]
  refine r_seq ?_
  refine r_region (id := 0) ?_
  refine o_give (g_assign (evv rfl)) rfl rfl ?_
  refine o_nil ?_
  refine c_code ?_
  refine r_seq ?_
  refine r_seq ?_
  refine r_region (id := 1) ?_
  refine o_give (g_move (evv rfl)) rfl rfl ?_
  refine o_give (g_pnil TyU.h (evv rfl) (evv rfl) (by simp) (by rfl)) rfl rfl ?_
  refine o_nil ?_
  refine c_code ?_
  refine r_cond_true rfl ?_
  refine r_seq ?_
  refine r_region (id := 2) ?_
  refine o_give (g_assign (evv rfl)) rfl rfl ?_
  refine o_nil ?_
  refine c_code ?_
  first | refine r_ret (rs := [.tmp 10]) rfl rfl _ (Ent.refl _) ?_ | refine c_end (rs := [.tmp 10]) rfl rfl _ (Ent.refl _) ?_
  (refine ⟨?_, ?_⟩ <;> first | rfl | trivial | omega)
theorem Forget_nil (L : List Atom) (client : Int) : Fn Try.prog 17 [.pointer none, .int .i64 client] L fun v L' => v = .bool false ∧ L' = L := by
  refine fn_intro Try.func17 rfl Try.ntmps17 rfl (fun W0 => ?_)
  simp only [argE]
  refine r_seq ?_
  refine r_region (id := 0) ?_
  refine o_give (g_assign (evv rfl)) rfl rfl ?_
  refine o_nil ?_
  refine c_code ?_
  refine r_seq ?_
  refine r_region (id := 1) ?_
  refine o_give (g_move (evv rfl)) rfl rfl ?_
  refine o_give (g_move (evv rfl)) rfl rfl ?_
  (refine o_call rfl _ (Ent.refl _) (seat_nil _ _) rfl ?_; rintro _ _ ⟨rfl, rfl⟩)
  refine o_give (g_assign (evv rfl)) rfl rfl ?_
  refine o_nil ?_
  refine c_code ?_
  refine r_seq ?_
  refine r_seq ?_
  refine r_region (id := 2) ?_
  refine o_give (g_move (evv rfl)) rfl rfl ?_
  refine o_give (g_pnil TyU.h (evv rfl) (evv rfl) (by simp) (by rfl)) rfl rfl ?_
  refine o_give (g_move (evv rfl)) rfl rfl ?_
  refine o_lazy rfl (fun hg => g_move (by first | exact evv rfl | exact evg rfl (by rw [hp]; rfl) | exact evg rfl hp | exact evg rfl hg | exact evg rfl (by first | (simp_all; done) | (simp [*]; done) | fail) | fail)) rfl rfl ?_
  refine o_lazy (v0 := undef) rfl (fun hg => absurd hg (by first | (simp; done) | fail)) rfl rfl ?_
  refine o_lazy (v0 := undef) rfl (fun hg => absurd hg (by first | (simp; done) | fail)) rfl rfl ?_
  refine o_lazy (v0 := undef) rfl (fun hg => absurd hg (by first | (simp; done) | fail)) rfl rfl ?_
  refine o_lazy (v0 := undef) rfl (fun hg => absurd hg (by first | (simp; done) | fail)) rfl rfl ?_
  refine o_give (g_pick (b := true) (evv rfl) (fun _ => (evv rfl)) (fun h => by cases h)) rfl rfl ?_
  refine o_nil ?_
  refine c_code ?_
  refine r_cond_true rfl ?_
  refine r_seq ?_
  refine r_region (id := 3) ?_
  refine o_give (g_assign (evv rfl)) rfl rfl ?_
  refine o_nil ?_
  refine c_code ?_
  first | refine r_ret (rs := [.tmp 4]) rfl rfl _ (Ent.refl _) ?_ | refine c_end (rs := [.tmp 4]) rfl rfl _ (Ent.refl _) ?_
  (refine ⟨?_, ?_⟩ <;> first | rfl | trivial | omega)
theorem List_nil (L : List Atom) : Fn Try.prog 11 [.pointer none] L fun v L' => v = .slice none 0 0 ∧ L' = L := by
  refine fn_intro Try.func11 rfl Try.ntmps11 rfl (fun W0 => ?_)
  simp only [argE]
  refine r_seq ?_
  refine r_region (id := 0) ?_
  refine o_give (g_assign (evv rfl)) rfl rfl ?_
  refine o_nil ?_
  refine c_code ?_
  refine r_seq ?_
  refine r_region (id := 1) ?_
  refine o_give (g_assign (evv rfl)) rfl rfl ?_
  refine o_nil ?_
  refine c_code ?_
  refine r_seq ?_
  refine r_seq ?_
  refine r_region (id := 2) ?_
  refine o_give (g_move (evv rfl)) rfl rfl ?_
  refine o_give (g_pnil TyU.h (evv rfl) (evv rfl) (by simp) (by rfl)) rfl rfl ?_
  refine o_nil ?_
  refine c_code ?_
  refine r_cond_true rfl ?_
  refine r_seq ?_
  refine r_region (id := 3) ?_
  refine o_give (g_assign (evv rfl)) rfl rfl ?_
  refine o_nil ?_
  refine c_code ?_
  first | refine r_ret (rs := [.tmp 2]) rfl rfl _ (Ent.refl _) ?_ | refine c_end (rs := [.tmp 2]) rfl rfl _ (Ent.refl _) ?_
  (refine ⟨?_, ?_⟩ <;> first | rfl | trivial | omega)
theorem SessionBack_c (W : World) (v w : Value) (acts more : List Act) [rd : Rd [base W] v (frow actC 5 30 acts)] [rw_ : Rd [base W] w (frow actC 5 30 more)] (room : Int) (hb : actB acts ≤ 4611686018427387904) (hb2 : actB more ≤ 4611686018427387904) (hok : ∀ a ∈ acts, a.ok) (hok2 : ∀ a ∈ more, a.ok) :
    Fn Try.prog 7 [.int .i64 room, v, w] [base W] fun w L' => w = .bool true ∧ L' = [base W] := by
  refine fn_lenF rd fun hlen => ?_
  have hlen : acts.length ≤ 2 ^ 63 - 1 := hlen
  refine fn_intro Try.func7 rfl Try.ntmps7 rfl (fun W0 => ?_)
  simp only [argE]
  refine r_seq ?_
  refine r_region (id := 0) ?_
  refine o_give (g_assign (evv rfl)) rfl rfl ?_
  refine o_nil ?_
  refine c_code ?_
  refine r_seq ?_
  refine r_seq ?_
  refine r_region (id := 1) ?_
  (refine o_call rfl _ (Ent.refl _) (awake_c _) rfl ?_; rintro _ _ ⟨rfl, rfl⟩)
  refine o_give (g_not (evv rfl)) rfl rfl ?_
  refine o_nil ?_
  refine c_code ?_
  refine r_cond_false rfl ?_
  refine r_skip ?_
  refine c_code ?_
  refine r_seq ?_
  refine r_seq ?_
  refine r_region (id := 3) ?_
  refine o_give (g_move (evv rfl)) rfl rfl ?_
  (refine o_call rfl _ (Ent.refl _) (fits_c _ _ _ (by first | assumption | omega)) rfl ?_; rintro _ _ ⟨rfl, rfl⟩)
  refine o_give (g_not (evv rfl)) rfl rfl ?_
  refine o_give (g_move (evv rfl)) rfl rfl ?_
  refine o_lazy rfl (fun hg => g_move (by first | exact evv rfl | exact evg rfl (by rw [hp]; rfl) | exact evg rfl hp | exact evg rfl hg | exact evg rfl (by first | (simp_all; done) | (simp [*]; done) | fail) | fail)) rfl rfl ?_
  refine o_split (t := 24) rfl (fun hs => ?_) (fun hs => ?_)
  · refine o_lazy (v0 := undef) rfl (fun hg => absurd hg (by first | (simp; done) | fail)) rfl rfl ?_
    refine o_lazy (v0 := undef) rfl (fun hg => absurd hg (by first | (simp; done) | fail)) rfl rfl ?_
    refine o_give (g_pick (b := true) (evv rfl) (fun _ => (evv rfl)) (fun h => by cases h)) rfl rfl ?_
    refine o_give (g_move (evv rfl)) rfl rfl ?_
    refine o_lazy rfl (fun hg => g_move (by first | exact evv rfl | exact evg rfl (by rw [hp]; rfl) | exact evg rfl hp | exact evg rfl hg | exact evg rfl (by first | (simp_all; done) | (simp [*]; done) | fail) | fail)) rfl rfl ?_
    refine o_lazy rfl (fun hg => g_bin (by first | exact evv rfl | exact evg rfl (by rw [hp]; rfl) | exact evg rfl hp | exact evg rfl hg | exact evg rfl (by first | (simp_all; done) | (simp [*]; done) | fail) | fail) (by first | exact evv rfl | exact evg rfl (by rw [hp]; rfl) | exact evg rfl hp | exact evg rfl hg | exact evg rfl (by first | (simp_all; done) | (simp [*]; done) | fail) | fail) (by rfl)) rfl rfl ?_
    refine o_give (g_pick (b := true) (evv rfl) (fun _ => (evv rfl)) (fun h => by cases h)) rfl rfl ?_
    refine o_give (g_move (evv rfl)) rfl rfl ?_
    refine o_lazy rfl (fun hg => g_move (by first | exact evv rfl | exact evg rfl (by rw [hp]; rfl) | exact evg rfl hp | exact evg rfl hg | exact evg rfl (by first | (simp_all; done) | (simp [*]; done) | fail) | fail)) rfl rfl ?_
    refine o_lazy rfl (fun hg => g_bin (by first | exact evv rfl | exact evg rfl (by rw [hp]; rfl) | exact evg rfl hp | exact evg rfl hg | exact evg rfl (by first | (simp_all; done) | (simp [*]; done) | fail) | fail) (by first | exact evv rfl | exact evg rfl (by rw [hp]; rfl) | exact evg rfl hp | exact evg rfl hg | exact evg rfl (by first | (simp_all; done) | (simp [*]; done) | fail) | fail) (by rfl)) rfl rfl ?_
    refine o_give (g_pick (b := true) (evv rfl) (fun _ => (evv rfl)) (fun h => by cases h)) rfl rfl ?_
    refine o_nil ?_
    refine c_code ?_
    refine r_cond_true rfl ?_
    refine r_seq ?_
    refine r_region (id := 4) ?_
    refine o_give (g_assign (evv rfl)) rfl rfl ?_
    refine o_nil ?_
    refine c_code ?_
    first | refine r_ret (rs := [.tmp 6]) rfl rfl _ ((Lay.ent (L' := [base W]))) ?_ | refine c_end (rs := [.tmp 6]) rfl rfl _ ((Lay.ent (L' := [base W]))) ?_
    (refine ⟨?_, ?_⟩ <;> first | rfl | trivial | omega)
  refine o_sure (t := 25) rfl (by rw [hs]; rfl) ?_
  refine o_gyes rfl ?_
  (refine o_call rfl _ (Ent.refl _) (fits_c _ _ _ (by first | assumption | omega)) rfl ?_; rintro _ _ ⟨rfl, rfl⟩)
  refine o_gyes rfl ?_
  refine o_give (g_not (evv rfl)) rfl rfl ?_
  refine o_give (g_pick (b := false) (evv rfl) (fun h => by cases h) (fun _ => (evv rfl))) rfl rfl ?_
  refine o_give (g_move (evv rfl)) rfl rfl ?_
  refine o_lazy rfl (fun hg => g_move (by first | exact evv rfl | exact evg rfl (by rw [hp]; rfl) | exact evg rfl hp | exact evg rfl hg | exact evg rfl (by first | (simp_all; done) | (simp [*]; done) | fail) | fail)) rfl rfl ?_
  refine o_lazy rfl (fun hg => g_bin (by first | exact evv rfl | exact evg rfl (by rw [hp]; rfl) | exact evg rfl hp | exact evg rfl hg | exact evg rfl (by first | (simp_all; done) | (simp [*]; done) | fail) | fail) (by first | exact evv rfl | exact evg rfl (by rw [hp]; rfl) | exact evg rfl hp | exact evg rfl hg | exact evg rfl (by first | (simp_all; done) | (simp [*]; done) | fail) | fail) (by rfl)) rfl rfl ?_
  refine o_give (g_pick_or (evv rfl) (evv rfl) (fun hp => (by first | exact evv rfl | exact evg rfl (by rw [hp]; rfl) | exact evg rfl hp | exact evg rfl hg | exact evg rfl (by first | (simp_all; done) | (simp [*]; done) | fail) | fail))) rfl rfl ?_
  refine o_give (g_move (evv rfl)) rfl rfl ?_
  refine o_lazy rfl (fun hg => g_move (by first | exact evv rfl | exact evg rfl (by rw [hp]; rfl) | exact evg rfl hp | exact evg rfl hg | exact evg rfl (by first | (simp_all; done) | (simp [*]; done) | fail) | fail)) rfl rfl ?_
  refine o_lazy rfl (fun hg => g_bin (by first | exact evv rfl | exact evg rfl (by rw [hp]; rfl) | exact evg rfl hp | exact evg rfl hg | exact evg rfl (by first | (simp_all; done) | (simp [*]; done) | fail) | fail) (by first | exact evv rfl | exact evg rfl (by rw [hp]; rfl) | exact evg rfl hp | exact evg rfl hg | exact evg rfl (by first | (simp_all; done) | (simp [*]; done) | fail) | fail) (by rfl)) rfl rfl ?_
  refine o_give (g_pick_or (evv rfl) (evv rfl) (fun hp => (by first | exact evv rfl | exact evg rfl (by rw [hp]; rfl) | exact evg rfl hp | exact evg rfl hg | exact evg rfl (by first | (simp_all; done) | (simp [*]; done) | fail) | fail))) rfl rfl ?_
  refine o_nil ?_
  refine c_code ?_
  refine r_cond rfl (fun hf => ?_) (fun hf => ?_) <;> (try simp only [decide_eq_true_eq, decide_eq_false_iff_not, Bool.and_eq_true, Bool.or_eq_true, Bool.not_eq_true', Bool.and_eq_false_iff, Bool.or_eq_false_iff, Bool.not_eq_false', Bool.not_eq_true, Bool.not_eq_false, Bool.true_eq_false, Bool.false_eq_true, Int.not_lt, Int.not_le, not_and, not_or, ne_eq] at hf)
  · refine r_seq ?_
    refine r_region (id := 4) ?_
    refine o_give (g_assign (evv rfl)) rfl rfl ?_
    refine o_nil ?_
    refine c_code ?_
    first | refine r_ret (rs := [.tmp 6]) rfl rfl _ ((Lay.ent (L' := [base W]))) ?_ | refine c_end (rs := [.tmp 6]) rfl rfl _ ((Lay.ent (L' := [base W]))) ?_
    (refine ⟨?_, ?_⟩ <;> first | rfl | trivial | omega)
  · have h0 : 0 ≤ room := by omega
    have h1 : room ≤ 8192 := by omega
    clear hf
    obtain ⟨rn, rfl⟩ := Int.eq_ofNat_of_zero_le h0
    refine r_skip ?_
    refine c_code ?_
    refine r_seq ?_
    refine r_region (id := 5) ?_
    refine o_give (g_move (evv rfl)) rfl rfl ?_
    (refine o_call rfl _ (Ent.refl _) (Make_ok _ _ (by omega)) rfl ?_; rintro _ _ ⟨tb, rfl, rfl⟩)
    refine o_give (g_move (evv rfl)) rfl rfl ?_
    refine o_give (g_extract (evv rfl) (by rfl)) rfl rfl ?_
    refine o_give (g_extract (evv rfl) (by rfl)) rfl rfl ?_
    refine o_give (g_assign (evv rfl)) rfl rfl ?_
    refine o_give (g_assign (evv rfl)) rfl rfl ?_
    refine o_nil ?_
    refine c_code ?_
    refine r_seq ?_
    refine r_region (id := 6) ?_
    refine o_give (g_move (evv rfl)) rfl rfl ?_
    refine o_give (g_buildC rfl (by rfl)) rfl rfl ?_
    refine o_boxA (evv rfl) rfl (fun _ => ?_)
    refine o_give (g_assign (evv rfl)) rfl rfl ?_
    refine o_nil ?_
    refine c_code ?_
    refine r_seq ?_
    refine r_seq ?_
    rename_i r
    obtain ⟨hw, hrb⟩ := play_ok WFT.init h0 (show ((repB (List.replicate 8 default) : Nat) : Int) ≤ (rn : Int) from h0) acts
    have hg : goodT (playT rn (List.replicate 8 default) acts) := goodT.init.play hok
    have W0 := WFT.init
    have R0 : ((repB (List.replicate 8 default) : Nat) : Int) ≤ (rn : Int) := h0
    refine r_ent (blk tb (tblB rn (List.replicate 8 default)) :: blk r (rtB rn (.slice none 0 0)) :: sl (.slice none 0 0) (frow seatC 5 34 (listT (List.replicate 8 default))) :: [base W]) ?_ ?_
    · exact (Ent.nilsl 34 5).trans (Lay.ent (L' := blk tb (tblB rn (List.replicate 8 default)) :: blk r ⟨[.int .i64 (rn : Int), .slice none 0 0], 40⟩ :: sl (.slice none 0 0) ⟨34, 5, 0, []⟩ :: [base W]))
    refine r_region (id := 7) ?_
    refine o_give (g_move (evv rfl)) rfl rfl ?_
    refine o_give (g_pnil TyU.h (evv rfl) (evv rfl) (by simp) (by rfl)) rfl rfl ?_
    refine o_give (g_move (evv rfl)) rfl rfl ?_
    refine o_gyes rfl ?_
    refine o_give (g_move (evv rfl)) rfl rfl ?_
    refine o_gyes rfl ?_
    refine o_give (g_move (evv rfl)) rfl rfl ?_
    refine o_gyes rfl ?_
    refine o_give (g_move (evv rfl)) rfl rfl ?_
    refine o_gyes rfl ?_
    (refine o_call rfl _ (Ent.refl _) (play_o _ _ _ _ _ _ _ _ (by assumption) (by assumption) (by assumption) (by assumption) (by assumption)) rfl ?_; rintro _ _ ⟨rfl, pu, rfl⟩)
    refine o_gyes rfl ?_
    refine o_give (g_not (evv rfl)) rfl rfl ?_
    refine o_give (g_pick (b := false) (evv rfl) (fun h => by cases h) (fun _ => (evv rfl))) rfl rfl ?_
    refine o_nil ?_
    refine c_code ?_
    refine r_cond_false rfl ?_
    refine r_skip ?_
    refine c_code ?_
    refine r_seq ?_
    have hpl : playT rn (List.replicate 8 default) acts = (acts.take 200).foldl (actT rn) (List.replicate 8 default) := rfl
    generalize playT rn (List.replicate 8 default) acts = l1 at *
    have hl8 := hw.len
    have hek := table_enc hw hg h0 h1 hrb
    obtain ⟨hd, htb⟩ := table_back hw hg (room := rn) (by omega) (by omega)
    have hll := list_len hw
    have hll2 : (listT l1).length ≤ 100 := by omega
    have hek1 := hek.take (listT l1).length (Nat.le_refl _)
    rw [List.take_length] at hek1
    have hel1 : (encT (rn : Int) (listT l1)).length ≤ 140737488355000 := by
      have h1 := num_le (rn : Int).toNat (by omega)
      have h2 := num_le (listT l1).length (by omega)
      simp only [encT, List.length_append]
      omega
    refine r_region (id := 9) ?_
    refine o_give (g_move (evv rfl)) rfl rfl ?_
    (refine o_call rfl _ (Ent.refl _) (Fn.atPick (Encode_g _ _ (by assumption) (by assumption))) rfl ?_; rintro _ _ ⟨_, rfl⟩)
    (refine o_call rfl _ (Ent.refl _) (Decode_s _ _ _ _ _ (by first | assumption | omega) (by assumption)) rfl ?_; rintro _ _ ⟨db, rfl, rfl⟩)
    refine o_give (g_move (evv rfl)) rfl rfl ?_
    refine o_give (g_extract (evv rfl) (by rfl)) rfl rfl ?_
    refine o_give (g_extract (evv rfl) (by rfl)) rfl rfl ?_
    refine o_give (g_assign (evv rfl)) rfl rfl ?_
    refine o_give (g_assign (evv rfl)) rfl rfl ?_
    refine o_nil ?_
    refine c_code ?_
    refine r_seq ?_
    refine r_seq ?_
    rw [htb]
    refine r_region (id := 10) ?_
    refine o_give (g_move (evv rfl)) rfl rfl ?_
    refine o_give (g_bin (evv rfl) (evv rfl) (by rfl)) rfl rfl ?_
    refine o_give (g_move (evv rfl)) rfl rfl ?_
    refine o_gyes rfl ?_
    refine o_give (g_move (evv rfl)) rfl rfl ?_
    refine o_gyes rfl ?_
    refine o_give (g_pnil TyU.h (evv rfl) (evv rfl) (by simp) (by rfl)) rfl rfl ?_
    refine o_give (g_pick (b := false) (evv rfl) (fun h => by cases h) (fun _ => (evv rfl))) rfl rfl ?_
    refine o_nil ?_
    refine c_code ?_
    refine r_cond_false rfl ?_
    refine r_skip ?_
    refine c_code ?_
    refine r_seq ?_
    refine r_region (id := 12) ?_
    refine o_give (g_move (evv rfl)) rfl rfl ?_
    (refine o_call rfl _ (Ent.refl _) (Fn.atPick (Clone_g _ _ (by assumption))) rfl ?_; rintro _ _ ⟨cb, rfl, rfl⟩)
    refine o_give (g_assign (evv rfl)) rfl rfl ?_
    refine o_nil ?_
    refine c_code ?_
    refine r_seq ?_
    refine r_region (id := 13) ?_
    refine o_give (g_move (evv rfl)) rfl rfl ?_
    (refine o_call rfl _ (Ent.refl _) (Fn.atPick (rClone_g _ _ (by first | assumption | omega))) rfl ?_; rintro _ _ ⟨cq, cw, rfl, rfl⟩)
    refine o_give (g_assign (evv rfl)) rfl rfl ?_
    refine o_nil ?_
    refine c_code ?_
    refine r_seq ?_
    refine r_seq ?_
    obtain ⟨hw2, hrb2⟩ := play_ok hw h0 hrb more
    have hg2 : goodT (playT rn l1 more) := hg.play hok2
    have hek2 := table_enc hw2 hg2 h0 h1 hrb2
    have hl82 := hw2.len
    have hll3 := list_len hw2
    have hll4 : (listT (playT rn l1 more)).length ≤ 1000 := by omega
    have hll5 : (listT l1).length ≤ 1000 := by omega
    repeat (first | refine r_seq ?_ | refine c_code ?_ | refine c_blk ?_ | refine r_block ?_ | refine r_skip ?_)
    refine r_cutE (σ := Unit) (fun u => [(98, .v (.bool false))]) [0, 1, 12] (fun u => blk cb (tblB rn l1) :: [base W]) (by dsimp only [pickE, pick1, lk2, Nat.reduceBEq, Nat.reduceAdd, Nat.zero_add, cond_true, cond_false] <;> exact rfl) ?_ ?_
    · refine r_held (id := 14) [] Mixed.h ?_
      (refine h_give (i := 0) (by kernel_rfl) rfl (g_move (evv rfl)) rfl rfl ?_)
      (refine h_give (i := 1) (by kernel_rfl) rfl (g_move (evv rfl)) rfl rfl ?_)
      (refine h_give (i := 2) (by kernel_rfl) rfl (g_move (evv rfl)) rfl rfl ?_)
      refine h_one (i := 3) (by kernel_rfl) rfl (Ent.nil _) ?_
      ((refine o_call rfl _ pick3 (play_o _ _ _ _ _ _ _ _ (by assumption) (by assumption) (by assumption) (by assumption) (by assumption)) rfl ?_; rintro _ _ ⟨rfl, pu, rfl⟩)); refine o_nil ?_
      (refine h_give (i := 4) (by kernel_rfl) rfl (g_not (evv rfl)) rfl rfl ?_)
      (refine h_give (i := 5) (by kernel_rfl) rfl (g_move (evv rfl)) rfl rfl ?_)
      (refine h_sure (i := 6) (by kernel_rfl) rfl rfl (g_move (evv rfl)) rfl rfl ?_)
      (refine h_sure (i := 7) (by kernel_rfl) rfl rfl (g_move (evv rfl)) rfl rfl ?_)
      (refine h_sure (i := 8) (by kernel_rfl) rfl rfl (g_move (evv rfl)) rfl rfl ?_)
      refine h_one (i := 9) (by kernel_rfl) rfl (Ent.nil _) ?_
      (refine o_gyes rfl ?_; (refine o_call rfl _ pick3 (play_o _ _ _ _ _ _ _ _ (by assumption) (by assumption) (by assumption) (by assumption) (by assumption)) rfl ?_; rintro _ _ ⟨rfl, pu, rfl⟩)); refine o_nil ?_
      (refine h_sure (i := 10) (by kernel_rfl) rfl rfl (g_not (evv rfl)) rfl rfl ?_)
      (refine h_give (i := 11) (by kernel_rfl) rfl (g_pick (b := false) (evv rfl) (fun h => by cases h) (fun _ => (evv rfl))) rfl rfl ?_)
      (refine h_give (i := 12) (by kernel_rfl) rfl (g_move (evv rfl)) rfl rfl ?_)
      (refine h_sure (i := 13) (by kernel_rfl) rfl rfl (g_move (evv rfl)) rfl rfl ?_)
      (refine h_sure (i := 15) (by kernel_rfl) rfl rfl (g_move (evv rfl)) rfl rfl ?_)
      refine h_one (i := 14) (by kernel_rfl) rfl (Ent.nil _) ?_
      (refine o_gyes rfl ?_; (refine o_call rfl _ (Ent.refl _) (Fn.atPick (List_g _ _ (by assumption))) rfl ?_; rintro _ _ ⟨-, rfl⟩)); refine o_nil ?_
      refine h_one (i := 16) (by kernel_rfl) rfl (Ent.nil _) ?_
      (refine o_gyes rfl ?_; (refine o_call rfl _ (Ent.refl _) (Fn.atPick (List_g _ _ (by assumption))) rfl ?_; rintro _ _ ⟨-, rfl⟩)); refine o_nil ?_
      refine h_one (i := 17) (by kernel_rfl) rfl (Ent.nil _) ?_
      (refine o_gyes rfl ?_; (refine o_call rfl _ (Ent.refl _) (Seats_c _ _ _ _ _ (by first | assumption | omega) (by first | assumption | omega)) rfl ?_; rintro _ _ ⟨rfl, rfl⟩)); refine o_nil ?_
      (refine h_sure (i := 18) (by kernel_rfl) rfl rfl (g_not (evv rfl)) rfl rfl ?_)
      simp only [seatsEq, decide_true, Bool.not_true]
      (refine h_give (i := 19) (by kernel_rfl) rfl (g_pick (b := false) (evv rfl) (fun h => by cases h) (fun _ => (evv rfl))) rfl rfl ?_)
      (refine h_give (i := 20) (by kernel_rfl) rfl (g_move (evv rfl)) rfl rfl ?_)
      (refine h_sure (i := 21) (by kernel_rfl) rfl rfl (g_move (evv rfl)) rfl rfl ?_)
      (refine h_sure (i := 24) (by kernel_rfl) rfl rfl (g_move (evv rfl)) rfl rfl ?_)
      refine h_one (i := 22) (by kernel_rfl) rfl (Ent.nil _) ?_
      (refine o_gyes rfl ?_; (refine o_call rfl _ (Ent.refl _) (Fn.atPick (Encode_g _ _ (by assumption) (by assumption))) rfl ?_; rintro _ _ ⟨_, rfl⟩)); refine o_nil ?_
      refine h_two (i := 23) (j := 25) (by kernel_rfl) rfl rfl (Ent.nil _) ?_ ?_
      · (refine o_gyes rfl ?_; refine o_give (g_b2sM (evv rfl)) rfl rfl ?_); refine o_nil ?_
        refine h_one (i := 25) (by kernel_rfl) rfl (Ent.nil _) ?_
        (refine o_gyes rfl ?_; (refine o_call rfl _ (Ent.refl _) (Fn.atPick (Encode_g _ _ (by assumption) (by assumption))) rfl ?_; rintro _ _ ⟨_, rfl⟩)); refine o_nil ?_
        refine h_one (i := 26) (by kernel_rfl) rfl (Ent.nil _) ?_
        (refine o_gyes rfl ?_; refine o_give (g_b2sM (evv rfl)) rfl rfl ?_); refine o_nil ?_
        (refine h_sure (i := 27) (by kernel_rfl) rfl rfl (g_binS (evv rfl) (evv rfl) (by rfl)) rfl rfl ?_)
        (refine h_give (i := 28) (by kernel_rfl) rfl (g_pick (b := false) (evv rfl) (fun h => by cases h) (fun _ => (evv rfl))) rfl rfl ?_)
        refine h_done (by kernel_rfl) (Ent.nil _) ?_
        exact c_cut () (by repeat (first | exact trivial | refine ⟨rfl, ?_⟩ | refine envsub_v rfl (by first | rfl | (refine int_eq ?_; first | omega | (simp; omega) | (simp; done)) | (refine bool_eq ?_; first | (simp [*]; done) | (simp; done)) | (refine str_eq ?_; simp; done) | (refine ptr_eq ?_; omega) | fail) ?_)) (Lay.ent)
      · (refine o_gyes rfl ?_; (refine o_call rfl _ (Ent.refl _) (Fn.atPick (Encode_g _ _ (by assumption) (by assumption))) rfl ?_; rintro _ _ ⟨_, rfl⟩)); refine o_nil ?_
        refine h_two (i := 23) (j := 26) (by kernel_rfl) rfl rfl (Ent.nil _) ?_ ?_
        · (refine o_gyes rfl ?_; refine o_give (g_b2sM (evv rfl)) rfl rfl ?_); refine o_nil ?_
          refine h_one (i := 26) (by kernel_rfl) rfl (Ent.nil _) ?_
          (refine o_gyes rfl ?_; refine o_give (g_b2sM (evv rfl)) rfl rfl ?_); refine o_nil ?_
          (refine h_sure (i := 27) (by kernel_rfl) rfl rfl (g_binS (evv rfl) (evv rfl) (by rfl)) rfl rfl ?_)
          (refine h_give (i := 28) (by kernel_rfl) rfl (g_pick (b := false) (evv rfl) (fun h => by cases h) (fun _ => (evv rfl))) rfl rfl ?_)
          refine h_done (by kernel_rfl) (Ent.nil _) ?_
          exact c_cut () (by repeat (first | exact trivial | refine ⟨rfl, ?_⟩ | refine envsub_v rfl (by first | rfl | (refine int_eq ?_; first | omega | (simp; omega) | (simp; done)) | (refine bool_eq ?_; first | (simp [*]; done) | (simp; done)) | (refine str_eq ?_; simp; done) | (refine ptr_eq ?_; omega) | fail) ?_)) (Lay.ent)
        · (refine o_gyes rfl ?_; refine o_give (g_b2sM (evv rfl)) rfl rfl ?_); refine o_nil ?_
          refine h_one (i := 23) (by kernel_rfl) rfl (Ent.nil _) ?_
          (refine o_gyes rfl ?_; refine o_give (g_b2sM (evv rfl)) rfl rfl ?_); refine o_nil ?_
          (refine h_sure (i := 27) (by kernel_rfl) rfl rfl (g_binS (evv rfl) (evv rfl) (by rfl)) rfl rfl ?_)
          (refine h_give (i := 28) (by kernel_rfl) rfl (g_pick (b := false) (evv rfl) (fun h => by cases h) (fun _ => (evv rfl))) rfl rfl ?_)
          refine h_done (by kernel_rfl) (Ent.nil _) ?_
          exact c_cut () (by repeat (first | exact trivial | refine ⟨rfl, ?_⟩ | refine envsub_v rfl (by first | rfl | (refine int_eq ?_; first | omega | (simp; omega) | (simp; done)) | (refine bool_eq ?_; first | (simp [*]; done) | (simp; done)) | (refine str_eq ?_; simp; done) | (refine ptr_eq ?_; omega) | fail) ?_)) (Lay.ent)
    intro u
    dsimp only [List.cons_append, List.nil_append]
    refine c_code ?_
    refine r_cond_false rfl ?_
    refine r_skip ?_
    refine c_code ?_
    refine r_seq ?_
    refine r_region (id := 16) ?_
    refine o_give (g_move (evv rfl)) rfl rfl ?_
    refine o_give (g_buildC rfl (by rfl)) rfl rfl ?_
    refine o_boxA (evv rfl) rfl (fun _ => ?_)
    refine o_give (g_assign (evv rfl)) rfl rfl ?_
    refine o_nil ?_
    refine c_code ?_
    refine r_seq ?_
    refine r_seq ?_
    refine r_region (id := 17) ?_
    refine o_give (g_assign (evv rfl)) rfl rfl ?_
    refine o_nil ?_
    refine c_code ?_
    refine r_block ?_
    rename_i p
    refine r_ent (rtA p ((rn : Int), listT (List.replicate 8 default)) :: blk cb (tblB rn l1) :: [base W]) ?_ ?_
    · exact (Ent.nilsl 34 5).trans (Ent.swap.trans (Ent.shut (X := fun u : Value => [blk p ⟨[.int .i64 (rn : Int), u], 40⟩, sl u (frow seatC 5 34 (listT (List.replicate 8 default)))]) (.slice none 0 0)))
    refine r_loopE (σ := Nat × List Seat) (fun ⟨k, l'⟩ => k ≤ acts.length ∧ k ≤ 200 ∧ l' = (acts.take k).foldl (actT rn) (List.replicate 8 default) ∧ WFT l' ∧ (repB l' : Int) ≤ (rn : Int)) (fun ⟨k, l'⟩ => acts.length - k) (fun ⟨k, l'⟩ => [(15, .v (.int .i64 k))]) [1, 12, 14] (fun ⟨k, l'⟩ => rtA p ((rn : Int), listT l') :: blk cb (tblB rn l1) :: [base W]) (0, List.replicate 8 default) (by dsimp only [pickE, pick1, lk2, Nat.reduceBEq, Nat.reduceAdd, Nat.zero_add, cond_true, cond_false] <;> exact rfl) ?_ (by repeat (first | exact trivial | refine ⟨rfl, ?_⟩ | refine envsub_v rfl (by first | rfl | (refine int_eq ?_; first | omega | (simp; omega) | (simp; done)) | (refine bool_eq ?_; first | (simp [*]; done) | (simp; done)) | (refine str_eq ?_; simp; done) | (refine ptr_eq ?_; omega) | fail) ?_)) ?_ ?_
    · exact ⟨Nat.zero_le _, Nat.zero_le _, rfl, W0, R0⟩
    · exact Ent.refl _
    rintro ⟨k, l'⟩ ⟨hk, hk2, he, hw', hr'⟩; dsimp only [List.cons_append, List.nil_append]
    have hm8 : l'.length = 8 := hw'.len
    have hmm := list_len hw'
    have hmm2 : ((rn : Int), listT l').2.length ≤ 1000 := by dsimp only; omega
    have hmm3 : ((rn : Int), listT l').2.length ≤ 100 := by dsimp only; omega
    have hwf2 : wfS ((rn : Int), listT l').2 := list_wf hw'
    have hrb2' : repB ((rn : Int), listT l').2 ≤ 1000000 := by dsimp only; rw [repB_list hw']; omega
    have h02 : 0 ≤ ((rn : Int), listT l').1 := h0
    refine r_seq ?_
    refine r_seq ?_
    refine r_region (id := 18) ?_
    refine o_give (g_move (evv rfl)) rfl rfl ?_
    refine o_give (g_move (evv rfl)) rfl rfl ?_
    refine o_give (g_lenF (evv rfl)) rfl rfl ?_
    refine o_give (g_bin (evv rfl) (evv rfl) (by rfl)) rfl rfl ?_
    refine o_give (g_move (evv rfl)) rfl rfl ?_
    refine o_lazy rfl (fun hg => g_move (by first | exact evv rfl | exact evg rfl (by rw [hp]; rfl) | exact evg rfl hp | exact evg rfl hg | exact evg rfl (by first | (simp_all; done) | (simp [*]; done) | fail) | fail)) rfl rfl ?_
    refine o_lazy rfl (fun hg => g_bin (by first | exact evv rfl | exact evg rfl (by rw [hp]; rfl) | exact evg rfl hp | exact evg rfl hg | exact evg rfl (by first | (simp_all; done) | (simp [*]; done) | fail) | fail) (by first | exact evv rfl | exact evg rfl (by rw [hp]; rfl) | exact evg rfl hp | exact evg rfl hg | exact evg rfl (by first | (simp_all; done) | (simp [*]; done) | fail) | fail) (by rfl)) rfl rfl ?_
    refine o_give (g_pick_and (evv rfl) (evv rfl) (fun hp => (by first | exact evv rfl | exact evg rfl (by rw [hp]; rfl) | exact evg rfl hp | exact evg rfl hg | exact evg rfl (by first | (simp_all; done) | (simp [*]; done) | fail) | fail))) rfl rfl ?_
    refine o_nil ?_
    refine c_code ?_
    refine r_cond rfl (fun hc => ?_) (fun hc => ?_) <;> (try simp only [decide_eq_true_eq, decide_eq_false_iff_not, Bool.and_eq_true, Bool.or_eq_true, Bool.not_eq_true', Bool.and_eq_false_iff, Bool.or_eq_false_iff, Bool.not_eq_false', Bool.not_eq_true, Bool.not_eq_false, Bool.true_eq_false, Bool.false_eq_true, Int.not_lt, Int.not_le, not_and, not_or, ne_eq] at hc)
    · have hk8 : k < acts.length := by omega
      have hx2 : acts.getD k default ∈ acts := by simp [hk8]
      have hfold := foldl_take_succ (actT rn) (List.replicate 8 default) acts k default hk8
      rw [← he] at hfold
      have hao := hok _ hx2
      have hac : inR .i64 (acts.getD k default).client := hao.2.1
      have hnx := act_ok hw' h0 hr' (acts.getD k default)
      refine r_skip ?_
      refine c_code ?_
      refine r_seq ?_
      refine r_block ?_
      refine r_seq ?_
      refine r_region (id := 20) ?_
      refine o_give (g_move (evv rfl)) rfl rfl ?_
      refine o_give (g_move (evv rfl)) rfl rfl ?_
      refine o_give (g_idxFN (evv rfl) (evv rfl) (by rfl) (by rfl) (by first | omega | (have := of_decide_eq_true hg; omega) | (simp at hg; omega) | (simp only [List.length_set, List.length_append, List.length_cons, List.length_nil, List.length_map, List.length_take, List.length_drop, List.length_replicate]; omega))) rfl rfl ?_
      refine o_give (g_fldE (evv rfl) (by first | (simp only [frow, mrow]; omega) | (simp only [frow, mrow, List.length_set, List.length_append, List.length_cons]; omega) | fail) (by first | exact Nat.succ_pos _ | decide)) rfl rfl ?_
      refine o_give (g_loadFld (evv rfl) (by rfl) (by intro; rfl) (by first | omega | (have := of_decide_eq_true hg; omega) | (simp at hg; omega) | (simp only [List.length_set, List.length_append, List.length_cons, List.length_nil, List.length_map, List.length_take, List.length_drop, List.length_replicate]; omega)) (by rfl)) rfl rfl ?_
      refine o_nil ?_
      refine c_code ?_
      refine r_cond rfl (fun hf => ?_) (fun hf => ?_) <;> (try simp only [decide_eq_true_eq, decide_eq_false_iff_not, Bool.and_eq_true, Bool.or_eq_true, Bool.not_eq_true', Bool.and_eq_false_iff, Bool.or_eq_false_iff, Bool.not_eq_false', Bool.not_eq_true, Bool.not_eq_false, Bool.true_eq_false, Bool.false_eq_true, Int.not_lt, Int.not_le, not_and, not_or, ne_eq] at hf)
      · refine r_region (id := 21) ?_
        refine o_give (g_move (evv rfl)) rfl rfl ?_
        refine o_give (g_move (evv rfl)) rfl rfl ?_
        refine o_give (g_move (evv rfl)) rfl rfl ?_
        refine o_give (g_idxFN (evv rfl) (evv rfl) (by rfl) (by rfl) (by first | omega | (have := of_decide_eq_true hg; omega) | (simp at hg; omega) | (simp only [List.length_set, List.length_append, List.length_cons, List.length_nil, List.length_map, List.length_take, List.length_drop, List.length_replicate]; omega))) rfl rfl ?_
        refine o_give (g_fldE (evv rfl) (by first | (simp only [frow, mrow]; omega) | (simp only [frow, mrow, List.length_set, List.length_append, List.length_cons]; omega) | fail) (by first | exact Nat.succ_pos _ | decide)) rfl rfl ?_
        refine o_give (g_loadFld (evv rfl) (by rfl) (by intro; rfl) (by first | omega | (have := of_decide_eq_true hg; omega) | (simp at hg; omega) | (simp only [List.length_set, List.length_append, List.length_cons, List.length_nil, List.length_map, List.length_take, List.length_drop, List.length_replicate]; omega)) (by rfl)) rfl rfl ?_
        (refine o_call rfl _ (Ent.refl _) (rForget_l _ (by assumption)) rfl ?_; rintro _ _ ⟨rfl, rfl⟩)
        refine o_nil ?_
        refine c_blk ?_
        refine c_code ?_
        rw [(forg_list hw' (acts.getD k default).client).1]
        have hat : actT rn l' (acts.getD k default) = (forgT l' (acts.getD k default).client).2 := by unfold actT; rw [if_pos hf]
        rw [hat] at hnx hfold
        generalize hF : forgT l' (acts.getD k default).client = fr at *
        refine r_region (id := 19) ?_
        refine o_give (g_move (evv rfl)) rfl rfl ?_
        refine o_giveN (g_bin (evv rfl) (evv rfl) (by rfl)) (by simp only [inR]; omega) rfl ?_
        refine o_give (g_assign (evv rfl)) rfl rfl ?_
        refine o_nil ?_
        refine c_loop (k + 1, fr.2) ?_ ?_ (by repeat (first | exact trivial | refine ⟨rfl, ?_⟩ | refine envsub_v rfl (by first | rfl | (refine int_eq ?_; first | omega | (simp; omega) | (simp; done)) | (refine bool_eq ?_; first | (simp [*]; done) | (simp; done)) | (refine str_eq ?_; simp; done) | (refine ptr_eq ?_; omega) | fail) ?_)) ?_ <;> (try dsimp only)
        · exact ⟨by omega, by omega, hfold.symm, hnx.1, hnx.2⟩
        · omega
        · exact Lay.ent
      · repeat (first | refine r_seq ?_ | refine c_code ?_ | refine c_blk ?_ | refine r_block ?_ | refine r_skip ?_)
        refine r_held (id := 22) [base W] Mixed.h ?_
        refine h_give (i := 0) (by kernel_rfl) rfl (g_move (evv rfl)) rfl rfl ?_
        refine h_give (i := 1) (by kernel_rfl) rfl (g_move (evv rfl)) rfl rfl ?_
        refine h_give (i := 2) (by kernel_rfl) rfl (g_move (evv rfl)) rfl rfl ?_
        refine h_give (i := 3) (by kernel_rfl) rfl (g_idxFN (evv rfl) (evv rfl) (by rfl) (by rfl) (by first | omega | (have := of_decide_eq_true hg; omega) | (simp at hg; omega) | (simp only [List.length_set, List.length_append, List.length_cons, List.length_nil, List.length_map, List.length_take, List.length_drop, List.length_replicate]; omega))) rfl rfl ?_
        refine h_give (i := 4) (by kernel_rfl) rfl (g_fldE (evv rfl) (by first | (simp only [frow, mrow]; omega) | (simp only [frow, mrow, List.length_set, List.length_append, List.length_cons]; omega) | fail) (by first | exact Nat.succ_pos _ | decide)) rfl rfl ?_
        refine h_give (i := 5) (by kernel_rfl) rfl (g_loadFld (evv rfl) (by rfl) (by intro; rfl) (by first | omega | (have := of_decide_eq_true hg; omega) | (simp at hg; omega) | (simp only [List.length_set, List.length_append, List.length_cons, List.length_nil, List.length_map, List.length_take, List.length_drop, List.length_replicate]; omega)) (by rfl)) rfl rfl ?_
        refine h_give (i := 6) (by kernel_rfl) rfl (g_move (evv rfl)) rfl rfl ?_
        refine h_give (i := 7) (by kernel_rfl) rfl (g_move (evv rfl)) rfl rfl ?_
        refine h_give (i := 8) (by kernel_rfl) rfl (g_idxFN (evv rfl) (evv rfl) (by rfl) (by rfl) (by first | omega | (have := of_decide_eq_true hg; omega) | (simp at hg; omega) | (simp only [List.length_set, List.length_append, List.length_cons, List.length_nil, List.length_map, List.length_take, List.length_drop, List.length_replicate]; omega))) rfl rfl ?_
        refine h_give (i := 9) (by kernel_rfl) rfl (g_fldE (evv rfl) (by first | (simp only [frow, mrow]; omega) | (simp only [frow, mrow, List.length_set, List.length_append, List.length_cons]; omega) | fail) (by first | exact Nat.succ_pos _ | decide)) rfl rfl ?_
        refine h_give (i := 10) (by kernel_rfl) rfl (g_loadFld (evv rfl) (by rfl) (by intro; rfl) (by first | omega | (have := of_decide_eq_true hg; omega) | (simp at hg; omega) | (simp only [List.length_set, List.length_append, List.length_cons, List.length_nil, List.length_map, List.length_take, List.length_drop, List.length_replicate]; omega)) (by rfl)) rfl rfl ?_
        refine h_give (i := 11) (by kernel_rfl) rfl (g_move (evv rfl)) rfl rfl ?_
        refine h_give (i := 12) (by kernel_rfl) rfl (g_move (evv rfl)) rfl rfl ?_
        refine h_give (i := 13) (by kernel_rfl) rfl (g_idxFN (evv rfl) (evv rfl) (by rfl) (by rfl) (by first | omega | (have := of_decide_eq_true hg; omega) | (simp at hg; omega) | (simp only [List.length_set, List.length_append, List.length_cons, List.length_nil, List.length_map, List.length_take, List.length_drop, List.length_replicate]; omega))) rfl rfl ?_
        refine h_give (i := 14) (by kernel_rfl) rfl (g_fldE (evv rfl) (by first | (simp only [frow, mrow]; omega) | (simp only [frow, mrow, List.length_set, List.length_append, List.length_cons]; omega) | fail) (by first | exact Nat.succ_pos _ | decide)) rfl rfl ?_
        refine h_give (i := 15) (by kernel_rfl) rfl (g_loadFld (evv rfl) (by rfl) (by intro; rfl) (by first | omega | (have := of_decide_eq_true hg; omega) | (simp at hg; omega) | (simp only [List.length_set, List.length_append, List.length_cons, List.length_nil, List.length_map, List.length_take, List.length_drop, List.length_replicate]; omega)) (by rfl)) rfl rfl ?_
        refine h_give (i := 16) (by kernel_rfl) rfl (g_move (evv rfl)) rfl rfl ?_
        refine h_give (i := 17) (by kernel_rfl) rfl (g_move (evv rfl)) rfl rfl ?_
        refine h_give (i := 18) (by kernel_rfl) rfl (g_idxFN (evv rfl) (evv rfl) (by rfl) (by rfl) (by first | omega | (have := of_decide_eq_true hg; omega) | (simp at hg; omega) | (simp only [List.length_set, List.length_append, List.length_cons, List.length_nil, List.length_map, List.length_take, List.length_drop, List.length_replicate]; omega))) rfl rfl ?_
        refine h_give (i := 19) (by kernel_rfl) rfl (g_fldE (evv rfl) (by first | (simp only [frow, mrow]; omega) | (simp only [frow, mrow, List.length_set, List.length_append, List.length_cons]; omega) | fail) (by first | exact Nat.succ_pos _ | decide)) rfl rfl ?_
        refine h_give (i := 20) (by kernel_rfl) rfl (g_loadFld (evv rfl) (by rfl) (by intro; rfl) (by first | omega | (have := of_decide_eq_true hg; omega) | (simp at hg; omega) | (simp only [List.length_set, List.length_append, List.length_cons, List.length_nil, List.length_map, List.length_take, List.length_drop, List.length_replicate]; omega)) (by rfl)) rfl rfl ?_
        refine h_one (i := 21) (by kernel_rfl) rfl (Lay.ent) ?_
        (refine o_call rfl _ (Ent.refl _) (rRecord_l _ _ _ _ (by assumption) (by assumption) (by assumption) (by assumption)) rfl ?_; rintro _ _ ⟨rfl, rfl⟩)
        refine o_nil ?_
        refine h_done (by kernel_rfl) (Lay.ent) ?_
        rw [(rec_list hw' h0 (acts.getD k default).client (acts.getD k default).number (acts.getD k default).at_ (acts.getD k default).reply).1]
        have hat : actT rn l' (acts.getD k default) = (recT rn l' (acts.getD k default).client (acts.getD k default).number (acts.getD k default).at_ (acts.getD k default).reply).2 := by unfold actT; rw [if_neg (by rw [hf]; decide)]
        rw [hat] at hnx hfold
        generalize hF : recT rn l' (acts.getD k default).client (acts.getD k default).number (acts.getD k default).at_ (acts.getD k default).reply = fr at *
        refine c_blk ?_
        refine c_code ?_
        refine r_region (id := 19) ?_
        refine o_give (g_move (evv rfl)) rfl rfl ?_
        refine o_giveN (g_bin (evv rfl) (evv rfl) (by rfl)) (by simp only [inR]; omega) rfl ?_
        refine o_give (g_assign (evv rfl)) rfl rfl ?_
        refine o_nil ?_
        refine c_loop (k + 1, fr.2) ?_ ?_ (by repeat (first | exact trivial | refine ⟨rfl, ?_⟩ | refine envsub_v rfl (by first | rfl | (refine int_eq ?_; first | omega | (simp; omega) | (simp; done)) | (refine bool_eq ?_; first | (simp [*]; done) | (simp; done)) | (refine str_eq ?_; simp; done) | (refine ptr_eq ?_; omega) | fail) ?_)) ?_ <;> (try dsimp only)
        · exact ⟨by omega, by omega, hfold.symm, hnx.1, hnx.2⟩
        · omega
        · exact Lay.ent
    · have hp : l' = l1 := by
        rw [he, hpl]
        by_cases h200 : acts.length ≤ 200
        · rw [List.take_of_length_le (by omega), List.take_of_length_le h200]
        · congr 2; omega
      rw [hp]
      refine r_exA fun u => ?_
      simp only [List.cons_append, List.nil_append]
      refine r_exit rfl ?_
      refine c_code ?_
      refine r_seq ?_
      refine r_region (id := 23) ?_
      refine o_give (g_assign (evv rfl)) rfl rfl ?_
      refine o_nil ?_
      refine c_code ?_
      refine r_seq ?_
      refine r_region (id := 24) ?_
      refine o_give (g_move (evv rfl)) rfl rfl ?_
      (refine o_call rfl _ (Ent.refl _) (Look_nil _ _ _) rfl ?_; rintro _ _ ⟨rfl, hLz⟩; obtain rfl := hLz.symm; clear hLz)
      refine o_give (g_move (evv rfl)) rfl rfl ?_
      refine o_give (g_extract (evv rfl) (by rfl)) rfl rfl ?_
      refine o_give (g_extract (evv rfl) (by rfl)) rfl rfl ?_
      refine o_give (g_assign (evv rfl)) rfl rfl ?_
      refine o_give (g_assign (evv rfl)) rfl rfl ?_
      refine o_nil ?_
      refine c_code ?_
      refine r_seq ?_
      repeat (first | refine r_seq ?_ | refine c_code ?_ | refine c_blk ?_ | refine r_block ?_ | refine r_skip ?_)
      refine r_held (id := 25) [blk p ⟨[.int .i64 (rn : Int), u], 40⟩] Mixed.h ?_
      refine h_give (i := 0) (by kernel_rfl) rfl (g_move (evv rfl)) rfl rfl ?_
      refine h_give (i := 2) (by kernel_rfl) rfl (g_move (evv rfl)) rfl rfl ?_
      refine h_give (i := 3) (by kernel_rfl) rfl (g_nil (evv rfl)) rfl rfl ?_
      refine h_give (i := 4) (by kernel_rfl) rfl (g_fld (evv rfl)) rfl rfl ?_
      refine h_give (i := 5) (by kernel_rfl) rfl (g_load (evv rfl) (by rfl) (by rfl)) rfl rfl ?_
      refine h_one (i := 1) (by kernel_rfl) rfl (Lay.ent) ?_
      (refine o_call rfl _ (Ent.refl _) (Fn.atPick (List_g _ _ (by assumption))) rfl ?_; rintro _ _ ⟨-, rfl⟩)
      refine o_nil ?_
      refine h_one (i := 6) (by kernel_rfl) rfl (Lay.ent) ?_
      (refine o_call rfl _ (Ent.refl _) (Seats_c _ _ _ _ _ (by first | assumption | omega) (by first | assumption | omega)) rfl ?_; rintro _ _ ⟨rfl, rfl⟩)
      refine o_nil ?_
      refine h_give (i := 7) (by kernel_rfl) rfl (g_move (evv rfl)) rfl rfl ?_
      simp only [seatsEq, decide_true]
      refine h_sure (i := 8) (by kernel_rfl) rfl rfl (g_move (evv rfl)) rfl rfl ?_
      refine h_sure (i := 9) (by kernel_rfl) rfl rfl (g_bin (evv rfl) (evv rfl) (by rfl)) rfl rfl ?_
      refine h_give (i := 10) (by kernel_rfl) rfl (g_pick (b := true) (evv rfl) (fun _ => (evv rfl)) (fun h => by cases h)) rfl rfl ?_
      refine h_give (i := 11) (by kernel_rfl) rfl (g_move (evv rfl)) rfl rfl ?_
      refine h_sure (i := 12) (by kernel_rfl) rfl rfl (g_move (evv rfl)) rfl rfl ?_
      refine h_one (i := 13) (by kernel_rfl) rfl (Lay.ent) ?_
      refine o_gyes rfl ?_
      (refine o_call rfl _ (Ent.refl _) (Record_nil _ _ _ _ _) rfl ?_; rintro _ _ ⟨rfl, hLz⟩; obtain rfl := hLz.symm; clear hLz)
      refine o_nil ?_
      refine h_sure (i := 14) (by kernel_rfl) rfl rfl (g_bin (evv rfl) (evv rfl) (by rfl)) rfl rfl ?_
      refine h_give (i := 15) (by kernel_rfl) rfl (g_pick (b := true) (evv rfl) (fun _ => (evv rfl)) (fun h => by cases h)) rfl rfl ?_
      refine h_give (i := 16) (by kernel_rfl) rfl (g_move (evv rfl)) rfl rfl ?_
      refine h_sure (i := 17) (by kernel_rfl) rfl rfl (g_move (evv rfl)) rfl rfl ?_
      refine h_one (i := 18) (by kernel_rfl) rfl (Lay.ent) ?_
      refine o_gyes rfl ?_
      (refine o_call rfl _ (Ent.refl _) (Forget_nil _ _) rfl ?_; rintro _ _ ⟨rfl, hLz⟩; obtain rfl := hLz.symm; clear hLz)
      refine o_nil ?_
      refine h_sure (i := 19) (by kernel_rfl) rfl rfl (g_not (evv rfl)) rfl rfl ?_
      refine h_give (i := 20) (by kernel_rfl) rfl (g_pick (b := true) (evv rfl) (fun _ => (evv rfl)) (fun h => by cases h)) rfl rfl ?_
      refine h_give (i := 21) (by kernel_rfl) rfl (g_move (evv rfl)) rfl rfl ?_
      refine h_sure (i := 22) (by kernel_rfl) rfl rfl (g_move (evv rfl)) rfl rfl ?_
      refine h_one (i := 23) (by kernel_rfl) rfl (Lay.ent) ?_
      refine o_gyes rfl ?_
      (refine o_call rfl _ (Ent.refl _) (List_nil _) rfl ?_; rintro _ _ ⟨rfl, hLz⟩; obtain rfl := hLz.symm; clear hLz)
      refine o_nil ?_
      refine h_sure (i := 24) (by kernel_rfl) rfl rfl (g_len TyU.h (evv rfl)) rfl rfl ?_
      refine h_sure (i := 25) (by kernel_rfl) rfl rfl (g_bin (evv rfl) (evv rfl) (by rfl)) rfl rfl ?_
      refine h_give (i := 26) (by kernel_rfl) rfl (g_pick (b := true) (evv rfl) (fun _ => (evv rfl)) (fun h => by cases h)) rfl rfl ?_
      refine h_give (i := 27) (by kernel_rfl) rfl (g_move (evv rfl)) rfl rfl ?_
      refine h_sure (i := 28) (by kernel_rfl) rfl rfl (g_move (evv rfl)) rfl rfl ?_
      refine h_one (i := 29) (by kernel_rfl) rfl (Lay.ent) ?_
      refine o_gyes rfl ?_
      (refine o_call rfl _ (Ent.refl _) (Clone_nil _) rfl ?_; rintro _ _ ⟨rfl, hLz⟩; obtain rfl := hLz.symm; clear hLz)
      refine o_nil ?_
      refine h_sure (i := 30) (by kernel_rfl) rfl rfl (g_pnil TyU.h (evv rfl) (evv rfl) (by simp) (by rfl)) rfl rfl ?_
      refine h_give (i := 31) (by kernel_rfl) rfl (g_pick (b := true) (evv rfl) (fun _ => (evv rfl)) (fun h => by cases h)) rfl rfl ?_
      refine h_give (i := 32) (by kernel_rfl) rfl (g_move (evv rfl)) rfl rfl ?_
      refine h_sure (i := 33) (by kernel_rfl) rfl rfl (g_move (evv rfl)) rfl rfl ?_
      refine h_one (i := 34) (by kernel_rfl) rfl (Lay.ent) ?_
      refine o_gyes rfl ?_
      (refine o_call rfl _ (Ent.refl _) (Encode_nil _) rfl ?_; rintro _ _ ⟨rfl, hLz⟩; obtain rfl := hLz.symm; clear hLz)
      refine o_nil ?_
      refine h_sure (i := 35) (by kernel_rfl) rfl rfl (g_len TyU.h (evv rfl)) rfl rfl ?_
      refine h_sure (i := 36) (by kernel_rfl) rfl rfl (g_bin (evv rfl) (evv rfl) (by rfl)) rfl rfl ?_
      refine h_give (i := 37) (by kernel_rfl) rfl (g_pick (b := true) (evv rfl) (fun _ => (evv rfl)) (fun h => by cases h)) rfl rfl ?_
      refine h_give (i := 38) (by kernel_rfl) rfl (g_assign (evv rfl)) rfl rfl ?_
      refine h_done (by kernel_rfl) (Lay.ent) ?_
      refine c_code ?_
      first | refine r_ret (rs := [.tmp 6]) rfl rfl _ ((Lay.ent (L' := [base W]))) ?_ | refine c_end (rs := [.tmp 6]) rfl rfl _ ((Lay.ent (L' := [base W]))) ?_
      (refine ⟨?_, ?_⟩ <;> first | rfl | trivial | omega)
end VK
