/- The law NodeBack, walked: what is written is read, and nothing else is read as it. Conditions: texts of a machine's size. -/
import Derived.Test.YtpknikpkepcbcaaNode12
namespace VK
open Go Go.Proofs
set_option linter.unusedSimpArgs false
set_option linter.unusedVariables false
set_option maxRecDepth 100000
set_option maxHeartbeats 40000000
theorem NodeBack_c (W : World) (r : RawS) (pv nv kv sv vb : Value) (b : List UInt8) (hok : RawOk r) (h : RawR [base W] r pv nv kv sv) (hb : b.length ≤ 1048576) [rd : Rd [base W] vb (mrow by8 5 b)] : Fn Try.prog 4 [agg (rawV r pv nv kv sv), vb] [base W] fun w L' => w = .bool true ∧ L' = [base W] := by
  have ho := hok.ok
  refine fn_intro Try.func4 rfl Try.ntmps4 rfl (fun W0 => ?_)
  simp only [argE, rawV]
  refine r_seq ?_
  refine r_region (id := 0) ?_
  refine o_boxA (evv rfl) rfl (fun _ => ?_)
  refine o_give (g_assign (evv rfl)) rfl rfl ?_
  refine o_nil ?_
  refine c_code ?_
  refine r_seq ?_
  refine r_seq ?_
  refine r_region (id := 1) ?_
  (refine o_call rfl _ (Ent.refl _) (awake_c _) rfl ?_; rintro _ _ ⟨rfl, hLz⟩; obtain rfl := hLz.symm; clear hLz)
  refine o_give (g_not (evv rfl)) rfl rfl ?_
  refine o_nil ?_
  refine c_code ?_
  refine r_cond_false rfl ?_
  refine r_skip ?_
  refine c_code ?_
  refine r_seq ?_
  refine r_region (id := 3) ?_
  refine o_give (g_loadF (evv rfl) (by rfl) (by rfl)) rfl rfl ?_
  (refine o_call rfl _ (Ent.refl _) (mkNode_c _ _ _ _ _ _ (by repeat (first | assumption | refine RawR.tail ?_))) rfl ?_; rintro _ _ ⟨qv, iv, rfl, rfl⟩)
  refine o_alloc rfl rfl (fun _ => ?_)
  refine o_storeW (evv rfl) (evv rfl) (by first | rfl | assumption | exact LenC.h _ | (simp [bys, *]; done) | fail) (by first | (intro _ _ _; exact bys_one _) | exact AllOne.h | (intro _ _ _ u hu; simp at hu; rcases hu with rfl | rfl | rfl | rfl | rfl | rfl | rfl | rfl <;> rfl) | fail) (by first | rfl | exact (LenC.h _).trans rfl | exact (LenC.h _).trans (LenC.h _).symm | (simp [bys, *]; done) | (simp only [bys, List.length_map, *]; rfl) | fail) ?_
  refine o_nil ?_
  refine c_code ?_
  refine r_seq ?_
  refine r_region (id := 4) ?_
  refine o_give (g_loadF (evv rfl) (by rfl) (by rfl)) rfl rfl ?_
  (refine o_call rfl _ (Ent.refl _) (nodEnc_c _ _ _ _ (by assumption)) rfl ?_; rintro _ _ ⟨ev_, rfl, rfl⟩)
  refine o_give (g_move (evv rfl)) rfl rfl ?_
  refine o_give (g_extract (evv rfl) (by rfl)) rfl rfl ?_
  refine o_give (g_extract (evv rfl) (by rfl)) rfl rfl ?_
  refine o_give (g_assign (evv rfl)) rfl rfl ?_
  refine o_give (g_assign (evv rfl)) rfl rfl ?_
  refine o_nil ?_
  refine c_code ?_
  refine r_seq ?_
  refine r_seq ?_
  refine r_region (id := 5) ?_
  refine o_give (g_move (evv rfl)) rfl rfl ?_
  refine o_give (g_bin (evv rfl) (evv rfl) (by rfl)) rfl rfl ?_
  refine o_nil ?_
  refine c_code ?_
  rename_i q p
  revert ev_ iv
  intro iv0 ev0
  repeat (first | refine r_seq ?_ | refine c_code ?_ | refine c_blk ?_ | refine r_skip ?_)
  refine r_cutE (σ := Unit) (fun u => []) [1,5,6,7] (fun u => sl ev0 (mrow by8 5 (encT (rawN r))) :: blk p ⟨nodV (rawN r) qv iv0, 27⟩ :: sl qv (frow digC 32 52 (rawN r).parts) :: sl iv0 (frow itmC 34 54 (rawN r).items) :: [base W]) (by dsimp only [pickE, pick1, lk2, Nat.reduceBEq, Nat.reduceAdd, Nat.zero_add, cond_true, cond_false] <;> exact rfl) ?_ ?_
  · by_cases hn : nodeOk (rawN r)
    · have e1 : encE (rawN r) = 0 := if_pos hn
      have e2 : encT (rawN r) = encN (rawN r) := if_pos hn
      have hd := dec_encN hn
      have hM : decM (encN (rawN r)) = rawN r := by rw [decM, hd]; rfl
      obtain ⟨_, hl⟩ := encN_len hn
      have hbl : (encN (rawN r)).length ≤ 140737488355000 := by omega
      rw [e1, e2]
      refine r_cond_true rfl ?_
      refine r_seq ?_
      refine r_region (id := 6) ?_
      refine o_give (g_move (evv rfl)) rfl rfl ?_
      (refine o_call rfl _ (Ent.refl _) (nDec_c _ _ _ (by first | assumption | omega)) rfl ?_; rintro _ _ ⟨pv, iv, rfl, rfl⟩)
      refine o_give (g_move (evv rfl)) rfl rfl ?_
      refine o_give (g_extract (evv rfl) (by rfl)) rfl rfl ?_
      refine o_give (g_extract (evv rfl) (by rfl)) rfl rfl ?_
      refine o_alloc rfl rfl (fun _ => ?_)
      refine o_storeW (evv rfl) (evv rfl) (by first | rfl | assumption | exact LenC.h _ | (simp [bys, *]; done) | fail) (by first | (intro _ _ _; exact bys_one _) | exact AllOne.h | (intro _ _ _ u hu; simp at hu; rcases hu with rfl | rfl | rfl | rfl | rfl | rfl | rfl | rfl <;> rfl) | fail) (by first | rfl | exact (LenC.h _).trans rfl | exact (LenC.h _).trans (LenC.h _).symm | (simp [bys, *]; done) | (simp only [bys, List.length_map, *]; rfl) | fail) ?_
      refine o_give (g_assign (evv rfl)) rfl rfl ?_
      refine o_nil ?_
      refine c_code ?_
      refine r_seq ?_
      refine r_region (id := 7) ?_
      refine o_give (g_move (evv rfl)) rfl rfl ?_
      refine o_give (g_bin (evv rfl) (evv rfl) (by rfl)) rfl rfl ?_
      refine o_give (g_move (evv rfl)) rfl rfl ?_
      refine o_lazy rfl (fun hg => g_loadF (evv rfl) (by rfl) (by rfl)) rfl rfl ?_
      refine o_lazy rfl (fun hg => g_loadF (evv rfl) (by rfl) (by rfl)) rfl rfl ?_
      have g1 : decide ((if decN (encN (rawN r)) = none then 21 else 0) = (0 : Int)) = true := by rw [hd]; rfl
      simp only [g1, Bool.not_true, Bool.not_false]
      refine o_sure (t := 33) rfl rfl ?_
      refine o_sure (t := 34) rfl rfl ?_
      refine o_gyes rfl ?_
      (refine o_call rfl _ (Ent.refl _) (SameN_c _ _ _ _ _ _ _) rfl ?_; rintro _ _ ⟨rfl, hLz⟩; obtain rfl := hLz.symm; clear hLz)
      refine o_gyes rfl ?_
      refine o_give (g_not (evv rfl)) rfl rfl ?_
      refine o_give (g_pick (b := false) (evv rfl) (fun h => by cases h) (fun _ => (evv rfl))) rfl rfl ?_
      refine o_give (g_move (evv rfl)) rfl rfl ?_
      refine o_lazy rfl (fun hg => g_move (by first | exact evv rfl | exact evg rfl (by rw [hp]; rfl) | exact evg rfl hp | exact evg rfl hg | exact evg rfl (by first | (simp_all; done) | (simp [*]; done) | fail) | fail)) rfl rfl ?_
      refine o_lazy rfl (fun hg => g_lenM (by first | exact evv rfl | exact evg rfl (by rw [hp]; rfl) | exact evg rfl hp | exact evg rfl hg | exact evg rfl (by first | (simp_all; done) | (simp [*]; done) | fail) | fail)) rfl rfl ?_
      refine o_lazy rfl (fun hg => g_bin (by first | exact evv rfl | exact evg rfl (by rw [hp]; rfl) | exact evg rfl hp | exact evg rfl hg | exact evg rfl (by first | (simp_all; done) | (simp [*]; done) | fail) | fail) (by first | exact evv rfl | exact evg rfl (by rw [hp]; rfl) | exact evg rfl hp | exact evg rfl hg | exact evg rfl (by first | (simp_all; done) | (simp [*]; done) | fail) | fail) (by rfl)) rfl rfl ?_
      refine o_give (g_pick_or (evv rfl) (evv rfl) (fun hp => (by first | exact evv rfl | exact evg rfl (by rw [hp]; rfl) | exact evg rfl hp | exact evg rfl hg | exact evg rfl (by first | (simp_all; done) | (simp [*]; done) | fail) | fail))) rfl rfl ?_
      refine o_nil ?_
      refine c_code ?_
      rw [hM]
      have g2 : decide (4096 < ((encN (rawN r)).length : Int)) = false := decide_eq_false (by omega)
      simp only [decide_true, g2, Bool.not_true, Bool.or_false]
      refine r_cond_false rfl ?_
      refine r_skip ?_
      exact c_cut () (by repeat (first | exact trivial | refine ⟨rfl, ?_⟩ | refine envsub_v rfl (by first | rfl | (refine int_eq ?_; first | omega | (simp; omega) | (simp; done)) | (refine bool_eq ?_; first | (simp [*]; done) | (simp; done)) | (refine str_eq ?_; simp; done) | (refine ptr_eq ?_; omega) | fail) ?_)) (Lay.ent)
    · have e1 : encE (rawN r) = 21 := if_neg hn
      have e2 : encT (rawN r) = [] := if_neg hn
      rw [e1, e2]
      refine r_cond_false rfl ?_
      refine r_skip ?_
      exact c_cut () (by repeat (first | exact trivial | refine ⟨rfl, ?_⟩ | refine envsub_v rfl (by first | rfl | (refine int_eq ?_; first | omega | (simp; omega) | (simp; done)) | (refine bool_eq ?_; first | (simp [*]; done) | (simp; done)) | (refine str_eq ?_; simp; done) | (refine ptr_eq ?_; omega) | fail) ?_)) (Lay.ent)
  · rintro ⟨⟩
    dsimp only [List.cons_append, List.nil_append]
    refine c_code ?_
    refine r_seq ?_
    refine r_region (id := 9) ?_
    refine o_give (g_move (evv rfl)) rfl rfl ?_
    (refine o_call rfl _ (Ent.refl _) (nDec_c _ _ _ (by first | assumption | omega)) rfl ?_; rintro _ _ ⟨pv, iv, rfl, rfl⟩)
    refine o_give (g_move (evv rfl)) rfl rfl ?_
    refine o_give (g_extract (evv rfl) (by rfl)) rfl rfl ?_
    refine o_give (g_extract (evv rfl) (by rfl)) rfl rfl ?_
    refine o_alloc rfl rfl (fun _ => ?_)
    refine o_storeW (evv rfl) (evv rfl) (by first | rfl | assumption | exact LenC.h _ | (simp [bys, *]; done) | fail) (by first | (intro _ _ _; exact bys_one _) | exact AllOne.h | (intro _ _ _ u hu; simp at hu; rcases hu with rfl | rfl | rfl | rfl | rfl | rfl | rfl | rfl <;> rfl) | fail) (by first | rfl | exact (LenC.h _).trans rfl | exact (LenC.h _).trans (LenC.h _).symm | (simp [bys, *]; done) | (simp only [bys, List.length_map, *]; rfl) | fail) ?_
    refine o_give (g_assign (evv rfl)) rfl rfl ?_
    refine o_nil ?_
    refine c_code ?_
    refine r_seq ?_
    refine r_seq ?_
    refine r_region (id := 10) ?_
    refine o_give (g_move (evv rfl)) rfl rfl ?_
    refine o_give (g_bin (evv rfl) (evv rfl) (by rfl)) rfl rfl ?_
    refine o_nil ?_
    refine c_code ?_
    rename_i y
    cases hd : decN b with
    | none =>
      rw [if_pos rfl]
      refine r_cond_true rfl ?_
      refine r_seq ?_
      refine r_region (id := 11) ?_
      refine o_give (g_assign (evv rfl)) rfl rfl ?_
      refine o_nil ?_
      refine c_code ?_
      first | refine r_ret (rs := [.tmp 4]) rfl rfl _ ((Lay.ent (L' := [base W]))) ?_ | refine c_end (rs := [.tmp 4]) rfl rfl _ ((Lay.ent (L' := [base W]))) ?_
      exact ⟨rfl, rfl⟩
    | some m =>
      have hM : decM b = m := by rw [decM, hd]; rfl
      obtain ⟨hbm, hm⟩ := decN_canon hd
      have hmo := hm.ok
      have e3 : encE m = 0 := if_pos hm
      have e4 : encT m = b := by rw [encT, if_pos hm]; exact hbm.symm
      rw [hM, if_neg (by simp)]
      refine r_cond_false rfl ?_
      refine r_skip ?_
      refine c_code ?_
      refine r_seq ?_
      refine r_region (id := 12) ?_
      refine o_give (g_loadF (evv rfl) (by rfl) (by rfl)) rfl rfl ?_
      (refine o_call rfl _ (Ent.refl _) (nodEnc_c _ _ _ _ (by assumption)) rfl ?_; rintro _ _ ⟨ev_, rfl, rfl⟩)
      refine o_give (g_move (evv rfl)) rfl rfl ?_
      refine o_give (g_extract (evv rfl) (by rfl)) rfl rfl ?_
      refine o_give (g_extract (evv rfl) (by rfl)) rfl rfl ?_
      refine o_give (g_assign (evv rfl)) rfl rfl ?_
      refine o_give (g_assign (evv rfl)) rfl rfl ?_
      refine o_nil ?_
      refine c_code ?_
      refine r_seq ?_
      rw [e3, e4]
      by_cases hn : nodeOk (rawN r)
      · have e1 : encE (rawN r) = 0 := if_pos hn
        have e2 : encT (rawN r) = encN (rawN r) := if_pos hn
        have e5 : decide (rawN r = m) = decide (encN (rawN r) = b) := by
          rw [decide_eq_decide, hbm]
          exact ⟨fun h => by rw [h], fun h => encN_inj hn hm h⟩
        rw [e1, e2]
        repeat (first | refine r_seq ?_ | refine c_code ?_ | refine c_blk ?_ | refine r_block ?_ | refine r_skip ?_)
        refine r_held (id := 13) ([sl ev_ (mrow by8 5 b), blk y ⟨nodV m pv iv, 27⟩, sl pv (frow digC 32 52 m.parts), sl iv (frow itmC 34 54 m.items), sl ev0 (mrow by8 5 (encN (rawN r))), blk p ⟨nodV (rawN r) qv iv0, 27⟩, sl qv (frow digC 32 52 (rawN r).parts), sl iv0 (frow itmC 34 54 (rawN r).items), base W]) Mixed.h ?_
        refine h_give (i := 0) (by kernel_rfl) rfl (g_move (evv rfl)) rfl rfl ?_
        refine h_give (i := 1) (by kernel_rfl) rfl (g_bin (evv rfl) (evv rfl) (by rfl)) rfl rfl ?_
        refine h_give (i := 2) (by kernel_rfl) rfl (g_move (evv rfl)) rfl rfl ?_
        refine h_sure (i := 3) (by kernel_rfl) rfl rfl (g_move (evv rfl)) rfl rfl ?_
        refine h_sure (i := 4) (by kernel_rfl) rfl rfl (g_b2sM (evv rfl)) rfl rfl ?_
        refine h_sure (i := 5) (by kernel_rfl) rfl rfl (g_move (evv rfl)) rfl rfl ?_
        refine h_sure (i := 6) (by kernel_rfl) rfl rfl (g_b2sM (evv rfl)) rfl rfl ?_
        refine h_sure (i := 7) (by kernel_rfl) rfl rfl (g_binS (evv rfl) (evv rfl) (by rfl)) rfl rfl ?_
        simp only [decide_true]
        refine h_give (i := 8) (by kernel_rfl) rfl (g_pick (b := true) (evv rfl) (fun _ => (evv rfl)) (fun h => by cases h)) rfl rfl ?_
        refine h_give (i := 9) (by kernel_rfl) rfl (g_move (evv rfl)) rfl rfl ?_
        refine h_sure (i := 10) (by kernel_rfl) rfl rfl (g_move (evv rfl)) rfl rfl ?_
        refine h_sure (i := 11) (by kernel_rfl) rfl rfl (g_bin (evv rfl) (evv rfl) (by rfl)) rfl rfl ?_
        refine h_sure (i := 12) (by kernel_rfl) rfl rfl (g_move (evv rfl)) rfl rfl ?_
        refine h_sure (i := 13) (by kernel_rfl) rfl rfl (g_loadF (evv rfl) (by rfl) (by rfl)) rfl rfl ?_
        refine h_sure (i := 14) (by kernel_rfl) rfl rfl (g_loadF (evv rfl) (by rfl) (by rfl)) rfl rfl ?_
        refine h_sure (i := 16) (by kernel_rfl) rfl rfl (g_move (evv rfl)) rfl rfl ?_
        refine h_sure (i := 17) (by kernel_rfl) rfl rfl (g_b2sM (evv rfl)) rfl rfl ?_
        refine h_sure (i := 18) (by kernel_rfl) rfl rfl (g_move (evv rfl)) rfl rfl ?_
        refine h_sure (i := 19) (by kernel_rfl) rfl rfl (g_b2sM (evv rfl)) rfl rfl ?_
        refine h_sure (i := 20) (by kernel_rfl) rfl rfl (g_binS (evv rfl) (evv rfl) (by rfl)) rfl rfl ?_
        refine h_one (i := 15) (by kernel_rfl) rfl (Lay.ent) ?_
        refine o_gyes rfl ?_
        (refine o_call rfl _ (Ent.refl _) (SameN_c _ _ _ _ _ _ _) rfl ?_; rintro _ _ ⟨rfl, hLz⟩; obtain rfl := hLz.symm; clear hLz)
        refine o_nil ?_
        refine h_sure (i := 21) (by kernel_rfl) rfl rfl (g_binB TyU.h (evv rfl) (evv rfl) (by rfl)) rfl rfl ?_
        refine h_sure (i := 22) (by kernel_rfl) rfl rfl (g_pick (b := false) (evv rfl) (fun h => by cases h) (fun _ => (evv rfl))) rfl rfl ?_
        refine h_give (i := 23) (by kernel_rfl) rfl (g_pick (b := true) (evv rfl) (fun _ => (evv rfl)) (fun h => by cases h)) rfl rfl ?_
        refine h_give (i := 24) (by kernel_rfl) rfl (g_assign (evv rfl)) rfl rfl ?_
        refine h_done (by kernel_rfl) (Lay.ent) ?_
        refine c_code ?_
        first | refine r_ret (rs := [.tmp 4]) rfl rfl _ ((Lay.ent (L' := [base W]))) ?_ | refine c_end (rs := [.tmp 4]) rfl rfl _ ((Lay.ent (L' := [base W]))) ?_
        exact ⟨bool_eq (by simp [e5]), rfl⟩
      · have e1 : encE (rawN r) = 21 := if_neg hn
        have e2 : encT (rawN r) = [] := if_neg hn
        rw [e1, e2]
        repeat (first | refine r_seq ?_ | refine c_code ?_ | refine c_blk ?_ | refine r_block ?_ | refine r_skip ?_)
        refine r_held (id := 13) ([sl ev_ (mrow by8 5 b), blk y ⟨nodV m pv iv, 27⟩, sl pv (frow digC 32 52 m.parts), sl iv (frow itmC 34 54 m.items), sl ev0 (mrow by8 5 []), blk p ⟨nodV (rawN r) qv iv0, 27⟩, sl qv (frow digC 32 52 (rawN r).parts), sl iv0 (frow itmC 34 54 (rawN r).items), base W]) Mixed.h ?_
        refine h_give (i := 0) (by kernel_rfl) rfl (g_move (evv rfl)) rfl rfl ?_
        refine h_give (i := 1) (by kernel_rfl) rfl (g_bin (evv rfl) (evv rfl) (by rfl)) rfl rfl ?_
        refine h_give (i := 2) (by kernel_rfl) rfl (g_move (evv rfl)) rfl rfl ?_
        refine h_sure (i := 3) (by kernel_rfl) rfl rfl (g_move (evv rfl)) rfl rfl ?_
        refine h_sure (i := 4) (by kernel_rfl) rfl rfl (g_b2sM (evv rfl)) rfl rfl ?_
        refine h_sure (i := 5) (by kernel_rfl) rfl rfl (g_move (evv rfl)) rfl rfl ?_
        refine h_sure (i := 6) (by kernel_rfl) rfl rfl (g_b2sM (evv rfl)) rfl rfl ?_
        refine h_sure (i := 7) (by kernel_rfl) rfl rfl (g_binS (evv rfl) (evv rfl) (by rfl)) rfl rfl ?_
        simp only [decide_true]
        refine h_give (i := 8) (by kernel_rfl) rfl (g_pick (b := true) (evv rfl) (fun _ => (evv rfl)) (fun h => by cases h)) rfl rfl ?_
        refine h_give (i := 9) (by kernel_rfl) rfl (g_move (evv rfl)) rfl rfl ?_
        refine h_sure (i := 10) (by kernel_rfl) rfl rfl (g_move (evv rfl)) rfl rfl ?_
        refine h_sure (i := 11) (by kernel_rfl) rfl rfl (g_bin (evv rfl) (evv rfl) (by rfl)) rfl rfl ?_
        refine h_sure (i := 12) (by kernel_rfl) rfl rfl (g_move (evv rfl)) rfl rfl ?_
        refine h_lazy (i := 13) (by kernel_rfl) rfl rfl (fun hg => g_loadF (evv rfl) (by rfl) (by rfl)) rfl rfl ?_
        refine h_lazy (i := 14) (by kernel_rfl) rfl rfl (fun hg => g_loadF (evv rfl) (by rfl) (by rfl)) rfl rfl ?_
        refine h_lazy (i := 16) (by kernel_rfl) rfl rfl (fun hg => g_move (by first | exact evv rfl | exact evg rfl (by rw [hp]; rfl) | exact evg rfl hp | exact evg rfl hg | exact evg rfl (by first | (simp_all; done) | (simp [*]; done) | fail) | fail)) rfl rfl ?_
        refine h_lazy (i := 17) (by kernel_rfl) rfl rfl (fun hg => g_b2sM (by first | exact evv rfl | exact evg rfl (by rw [hp]; rfl) | exact evg rfl hp | exact evg rfl hg | exact evg rfl (by first | (simp_all; done) | (simp [*]; done) | fail) | fail)) rfl rfl ?_
        refine h_lazy (i := 18) (by kernel_rfl) rfl rfl (fun hg => g_move (by first | exact evv rfl | exact evg rfl (by rw [hp]; rfl) | exact evg rfl hp | exact evg rfl hg | exact evg rfl (by first | (simp_all; done) | (simp [*]; done) | fail) | fail)) rfl rfl ?_
        refine h_lazy (i := 19) (by kernel_rfl) rfl rfl (fun hg => g_b2sM (by first | exact evv rfl | exact evg rfl (by rw [hp]; rfl) | exact evg rfl hp | exact evg rfl hg | exact evg rfl (by first | (simp_all; done) | (simp [*]; done) | fail) | fail)) rfl rfl ?_
        refine h_lazy (i := 20) (by kernel_rfl) rfl rfl (fun hg => g_binS (by first | exact evv rfl | exact evg rfl (by rw [hp]; rfl) | exact evg rfl hp | exact evg rfl hg | exact evg rfl (by first | (simp_all; done) | (simp [*]; done) | fail) | fail) (by first | exact evv rfl | exact evg rfl (by rw [hp]; rfl) | exact evg rfl hp | exact evg rfl hg | exact evg rfl (by first | (simp_all; done) | (simp [*]; done) | fail) | fail) (by rfl)) rfl rfl ?_
        refine h_one (i := 15) (by kernel_rfl) rfl (Lay.ent) ?_
        refine o_lazy (v0 := undef) rfl (fun hg => absurd hg (by first | (simp; done) | fail)) rfl rfl ?_
        refine o_nil ?_
        refine h_lazy (i := 21) (by kernel_rfl) rfl (v0 := undef) rfl (fun hg => absurd hg (by first | (simp; done) | fail)) rfl rfl ?_
        refine h_sure (i := 22) (by kernel_rfl) rfl rfl (g_pick (b := true) (evv rfl) (fun _ => (evv rfl)) (fun h => by cases h)) rfl rfl ?_
        refine h_give (i := 23) (by kernel_rfl) rfl (g_pick (b := true) (evv rfl) (fun _ => (evv rfl)) (fun h => by cases h)) rfl rfl ?_
        refine h_give (i := 24) (by kernel_rfl) rfl (g_assign (evv rfl)) rfl rfl ?_
        refine h_done (by kernel_rfl) (Lay.ent) ?_
        refine c_code ?_
        first | refine r_ret (rs := [.tmp 4]) rfl rfl _ ((Lay.ent (L' := [base W]))) ?_ | refine c_end (rs := [.tmp 4]) rfl rfl _ ((Lay.ent (L' := [base W]))) ?_
        exact ⟨bool_eq (by simp), rfl⟩
end VK
