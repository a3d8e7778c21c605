/- A core that begins: vr.Restart and vr.New of nothing kept. Conditions: none. -/
import Derived.Test.YtmjmlmjcfekphaaCli4
namespace VK
open Go Go.Proofs
set_option linter.unusedSimpArgs false
set_option linter.unusedVariables false
set_option maxRecDepth 100000
set_option maxHeartbeats 40000000
/-- the zero core -/
abbrev coreE : List Value :=
  .int .i64 0 :: .int .i64 0 :: .int .i64 0 :: .int .i64 0 :: .int .i64 0 :: .int .i64 0 :: (bys (List.replicate 32 0) ++ .slice none 0 0 :: .int .i64 0 :: .int .i64 0 :: .slice none 0 0 :: .slice none 0 0 :: .slice none 0 0 :: .bool false :: .int .i64 0 :: [])
theorem RestartE_c (L : List Atom) (n : Int) (h : ¬ (n = 3 ∨ n = 5 ∨ n = 7)) : Fn Try.prog 28 [.int .i64 0, .int .i64 n, agg [.int .i64 0, .int .i64 0, .int .i64 0, str [], .slice none 0 0], agg (bys (List.replicate 32 0))] L fun w L' => w = .tuple #[agg coreE, .int .i64 1] ∧ L' = L := by
  refine fn_intro Try.func28 rfl Try.ntmps28 rfl (fun W0 => ?_)
  simp only [argE]
  refine r_seq ?_
  refine r_region (id := 0) ?_
  refine o_boxA (evv rfl) rfl (fun _ => ?_)
  refine o_boxA (evv rfl) rfl (fun _ => ?_)
  refine o_alloc (cs := ((Go.Value.int Go.IntKind.i64 0) :: (Go.Value.int Go.IntKind.i64 0) :: (Go.Value.int Go.IntKind.i64 0) :: (Go.Value.int Go.IntKind.i64 0) :: (Go.Value.int Go.IntKind.i64 0) :: (Go.Value.int Go.IntKind.i64 0) :: (bys (List.replicate 32 0) ++ (Go.Value.slice none 0 0) :: (Go.Value.int Go.IntKind.i64 0) :: (Go.Value.int Go.IntKind.i64 0) :: (Go.Value.slice none 0 0) :: (Go.Value.slice none 0 0) :: (Go.Value.slice none 0 0) :: (Go.Value.bool false) :: (Go.Value.int Go.IntKind.i64 0) :: []))) rfl rfl (fun _ => ?_)
  refine o_give (g_assign (evv rfl)) rfl rfl ?_
  refine o_nil ?_
  refine c_code ?_
  refine r_seq ?_
  refine r_seq ?_
  refine r_region (id := 1) ?_
  refine o_give (g_move (evv rfl)) rfl rfl ?_
  refine o_give (g_bin (evv rfl) (evv rfl) (by rfl)) rfl rfl ?_
  refine o_give (g_move (evv rfl)) rfl rfl ?_
  refine o_lazy rfl (fun hg => g_move (by first | exact evv rfl | exact evg rfl (by rw [hp]; rfl) | exact evg rfl hp | exact evg rfl hg | exact evg rfl (by first | (simp_all; done) | (simp [*]; done) | fail) | fail)) rfl rfl ?_
  refine o_lazy rfl (fun hg => g_bin (by first | exact evv rfl | exact evg rfl (by rw [hp]; rfl) | exact evg rfl hp | exact evg rfl hg | exact evg rfl (by first | (simp_all; done) | (simp [*]; done) | fail) | fail) (by first | exact evv rfl | exact evg rfl (by rw [hp]; rfl) | exact evg rfl hp | exact evg rfl hg | exact evg rfl (by first | (simp_all; done) | (simp [*]; done) | fail) | fail) (by rfl)) rfl rfl ?_
  refine o_give (g_pick_and (evv rfl) (evv rfl) (fun hp => (by first | exact evv rfl | exact evg rfl (by rw [hp]; rfl) | exact evg rfl hp | exact evg rfl hg | exact evg rfl (by first | (simp_all; done) | (simp [*]; done) | fail) | fail))) rfl rfl ?_
  refine o_give (g_move (evv rfl)) rfl rfl ?_
  refine o_lazy rfl (fun hg => g_move (by first | exact evv rfl | exact evg rfl (by rw [hp]; rfl) | exact evg rfl hp | exact evg rfl hg | exact evg rfl (by first | (simp_all; done) | (simp [*]; done) | fail) | fail)) rfl rfl ?_
  refine o_lazy rfl (fun hg => g_bin (by first | exact evv rfl | exact evg rfl (by rw [hp]; rfl) | exact evg rfl hp | exact evg rfl hg | exact evg rfl (by first | (simp_all; done) | (simp [*]; done) | fail) | fail) (by first | exact evv rfl | exact evg rfl (by rw [hp]; rfl) | exact evg rfl hp | exact evg rfl hg | exact evg rfl (by first | (simp_all; done) | (simp [*]; done) | fail) | fail) (by rfl)) rfl rfl ?_
  refine o_give (g_pick_and (evv rfl) (evv rfl) (fun hp => (by first | exact evv rfl | exact evg rfl (by rw [hp]; rfl) | exact evg rfl hp | exact evg rfl hg | exact evg rfl (by first | (simp_all; done) | (simp [*]; done) | fail) | fail))) rfl rfl ?_
  refine o_give (g_move (evv rfl)) rfl rfl ?_
  refine o_lazy rfl (fun hg => g_move (by first | exact evv rfl | exact evg rfl (by rw [hp]; rfl) | exact evg rfl hp | exact evg rfl hg | exact evg rfl (by first | (simp_all; done) | (simp [*]; done) | fail) | fail)) rfl rfl ?_
  refine o_lazy rfl (fun hg => g_bin (by first | exact evv rfl | exact evg rfl (by rw [hp]; rfl) | exact evg rfl hp | exact evg rfl hg | exact evg rfl (by first | (simp_all; done) | (simp [*]; done) | fail) | fail) (by first | exact evv rfl | exact evg rfl (by rw [hp]; rfl) | exact evg rfl hp | exact evg rfl hg | exact evg rfl (by first | (simp_all; done) | (simp [*]; done) | fail) | fail) (by rfl)) rfl rfl ?_
  refine o_give (g_pick_or (evv rfl) (evv rfl) (fun hp => (by first | exact evv rfl | exact evg rfl (by rw [hp]; rfl) | exact evg rfl hp | exact evg rfl hg | exact evg rfl (by first | (simp_all; done) | (simp [*]; done) | fail) | fail))) rfl rfl ?_
  refine o_give (g_move (evv rfl)) rfl rfl ?_
  refine o_lazy rfl (fun hg => g_move (by first | exact evv rfl | exact evg rfl (by rw [hp]; rfl) | exact evg rfl hp | exact evg rfl hg | exact evg rfl (by first | (simp_all; done) | (simp [*]; done) | fail) | fail)) rfl rfl ?_
  refine o_lazy rfl (fun hg => g_move (by first | exact evv rfl | exact evg rfl (by rw [hp]; rfl) | exact evg rfl hp | exact evg rfl hg | exact evg rfl (by first | (simp_all; done) | (simp [*]; done) | fail) | fail)) rfl rfl ?_
  refine o_lazy rfl (fun hg => g_bin (by first | exact evv rfl | exact evg rfl (by rw [hp]; rfl) | exact evg rfl hp | exact evg rfl hg | exact evg rfl (by first | (simp_all; done) | (simp [*]; done) | fail) | fail) (by first | exact evv rfl | exact evg rfl (by rw [hp]; rfl) | exact evg rfl hp | exact evg rfl hg | exact evg rfl (by first | (simp_all; done) | (simp [*]; done) | fail) | fail) (by rfl)) rfl rfl ?_
  refine o_give (g_pick_or (evv rfl) (evv rfl) (fun hp => (by first | exact evv rfl | exact evg rfl (by rw [hp]; rfl) | exact evg rfl hp | exact evg rfl hg | exact evg rfl (by first | (simp_all; done) | (simp [*]; done) | fail) | fail))) rfl rfl ?_
  refine o_give (g_move (evv rfl)) rfl rfl ?_
  refine o_lazy rfl (fun hg => g_loadF (evv rfl) (by rfl) (by rfl)) rfl rfl ?_
  simp only [show decide (n = 3) = false from decide_eq_false (by omega), show decide (n = 5) = false from decide_eq_false (by omega), show decide (n = 7) = false from decide_eq_false (by omega), Bool.not_false, Bool.and_self, Bool.true_or, Bool.not_true]
  refine o_lazy (v0 := undef) rfl (fun hg => absurd hg (by first | (simp; done) | fail)) rfl rfl ?_
  refine o_lazy (v0 := undef) rfl (fun hg => absurd hg (by first | (simp; done) | fail)) rfl rfl ?_
  refine o_give (g_pick (b := true) (evv rfl) (fun _ => (evv rfl)) (fun h => by cases h)) rfl rfl ?_
  refine o_nil ?_
  refine c_code ?_
  refine r_cond_true rfl ?_
  refine r_seq ?_
  refine r_region (id := 2) ?_
  refine o_give (v := agg ((Go.Value.int Go.IntKind.i64 0) :: (Go.Value.int Go.IntKind.i64 0) :: (Go.Value.int Go.IntKind.i64 0) :: (Go.Value.int Go.IntKind.i64 0) :: (Go.Value.int Go.IntKind.i64 0) :: (Go.Value.int Go.IntKind.i64 0) :: (bys (List.replicate 32 0) ++ (Go.Value.slice none 0 0) :: (Go.Value.int Go.IntKind.i64 0) :: (Go.Value.int Go.IntKind.i64 0) :: (Go.Value.slice none 0 0) :: (Go.Value.slice none 0 0) :: (Go.Value.slice none 0 0) :: (Go.Value.bool false) :: (Go.Value.int Go.IntKind.i64 0) :: []))) (g_buildC rfl (by rfl)) rfl rfl ?_
  refine o_storeW (evv rfl) (evv rfl) (by first | rfl | assumption | exact LenC.h _ | (simp [bys, *]; done) | fail) (by first | (intro _ _ _; exact bys_one _) | exact AllOne.h | (intro _ _ _ u hu; simp at hu; rcases hu with rfl | rfl | rfl | rfl | rfl | rfl | rfl | rfl <;> rfl) | fail) (by first | rfl | exact (LenC.h _).trans rfl | exact (LenC.h _).trans (LenC.h _).symm | (simp [bys, *]; done) | (simp only [bys, List.length_map, *]; rfl) | fail) ?_
  refine o_give (g_assign (evv rfl)) rfl rfl ?_
  refine o_nil ?_
  refine c_code ?_
  first | refine r_retC (rs := [.cell 8 64, .tmp 9]) rfl (by first | exact ro_agg rfl rfl (by first | rfl | exact LenC.h _ | (simp [bys, *]; done)) (ro_tmp rfl ro_nil) | exact ro_cell rfl rfl rfl (ro_tmp rfl ro_nil)) _ ((Lay.ent (L' := L))) ?_ | refine c_endC (rs := [.cell 8 64, .tmp 9]) rfl (by first | exact ro_agg rfl rfl (by first | rfl | exact LenC.h _ | (simp [bys, *]; done)) (ro_tmp rfl ro_nil) | exact ro_cell rfl rfl rfl (ro_tmp rfl ro_nil)) _ ((Lay.ent (L' := L))) ?_
  exact ⟨rfl, rfl⟩
theorem RestartN_c (L : List Atom) (n : Int) (h : n = 3 ∨ n = 5 ∨ n = 7) : Fn Try.prog 28 [.int .i64 0, .int .i64 n, agg [.int .i64 0, .int .i64 0, .int .i64 0, str [], .slice none 0 0], agg (bys (List.replicate 32 0))] L fun w L' => ∃ a xs, w = .tuple #[agg (coreZ n a 2), .int .i64 0] ∧ L' = sl a (mrow i64v 2 xs) :: L := by
  refine fn_intro Try.func28 rfl Try.ntmps28 rfl (fun W0 => ?_)
  simp only [argE]
  refine r_seq ?_
  refine r_region (id := 0) ?_
  refine o_boxA (evv rfl) rfl (fun _ => ?_)
  refine o_boxA (evv rfl) rfl (fun _ => ?_)
  refine o_alloc (cs := ((Go.Value.int Go.IntKind.i64 0) :: (Go.Value.int Go.IntKind.i64 0) :: (Go.Value.int Go.IntKind.i64 0) :: (Go.Value.int Go.IntKind.i64 0) :: (Go.Value.int Go.IntKind.i64 0) :: (Go.Value.int Go.IntKind.i64 0) :: (bys (List.replicate 32 0) ++ (Go.Value.slice none 0 0) :: (Go.Value.int Go.IntKind.i64 0) :: (Go.Value.int Go.IntKind.i64 0) :: (Go.Value.slice none 0 0) :: (Go.Value.slice none 0 0) :: (Go.Value.slice none 0 0) :: (Go.Value.bool false) :: (Go.Value.int Go.IntKind.i64 0) :: []))) rfl rfl (fun _ => ?_)
  refine o_give (g_assign (evv rfl)) rfl rfl ?_
  refine o_nil ?_
  refine c_code ?_
  refine r_seq ?_
  refine r_seq ?_
  refine r_region (id := 1) ?_
  refine o_give (g_move (evv rfl)) rfl rfl ?_
  refine o_give (g_bin (evv rfl) (evv rfl) (by rfl)) rfl rfl ?_
  refine o_give (g_move (evv rfl)) rfl rfl ?_
  refine o_lazy rfl (fun hg => g_move (by first | exact evv rfl | exact evg rfl (by rw [hp]; rfl) | exact evg rfl hp | exact evg rfl hg | exact evg rfl (by first | (simp_all; done) | (simp [*]; done) | fail) | fail)) rfl rfl ?_
  refine o_lazy rfl (fun hg => g_bin (by first | exact evv rfl | exact evg rfl (by rw [hp]; rfl) | exact evg rfl hp | exact evg rfl hg | exact evg rfl (by first | (simp_all; done) | (simp [*]; done) | fail) | fail) (by first | exact evv rfl | exact evg rfl (by rw [hp]; rfl) | exact evg rfl hp | exact evg rfl hg | exact evg rfl (by first | (simp_all; done) | (simp [*]; done) | fail) | fail) (by rfl)) rfl rfl ?_
  refine o_give (g_pick_and (evv rfl) (evv rfl) (fun hp => (by first | exact evv rfl | exact evg rfl (by rw [hp]; rfl) | exact evg rfl hp | exact evg rfl hg | exact evg rfl (by first | (simp_all; done) | (simp [*]; done) | fail) | fail))) rfl rfl ?_
  refine o_give (g_move (evv rfl)) rfl rfl ?_
  refine o_lazy rfl (fun hg => g_move (by first | exact evv rfl | exact evg rfl (by rw [hp]; rfl) | exact evg rfl hp | exact evg rfl hg | exact evg rfl (by first | (simp_all; done) | (simp [*]; done) | fail) | fail)) rfl rfl ?_
  refine o_lazy rfl (fun hg => g_bin (by first | exact evv rfl | exact evg rfl (by rw [hp]; rfl) | exact evg rfl hp | exact evg rfl hg | exact evg rfl (by first | (simp_all; done) | (simp [*]; done) | fail) | fail) (by first | exact evv rfl | exact evg rfl (by rw [hp]; rfl) | exact evg rfl hp | exact evg rfl hg | exact evg rfl (by first | (simp_all; done) | (simp [*]; done) | fail) | fail) (by rfl)) rfl rfl ?_
  refine o_give (g_pick_and (evv rfl) (evv rfl) (fun hp => (by first | exact evv rfl | exact evg rfl (by rw [hp]; rfl) | exact evg rfl hp | exact evg rfl hg | exact evg rfl (by first | (simp_all; done) | (simp [*]; done) | fail) | fail))) rfl rfl ?_
  refine o_give (g_move (evv rfl)) rfl rfl ?_
  refine o_lazy rfl (fun hg => g_move (by first | exact evv rfl | exact evg rfl (by rw [hp]; rfl) | exact evg rfl hp | exact evg rfl hg | exact evg rfl (by first | (simp_all; done) | (simp [*]; done) | fail) | fail)) rfl rfl ?_
  refine o_lazy rfl (fun hg => g_bin (by first | exact evv rfl | exact evg rfl (by rw [hp]; rfl) | exact evg rfl hp | exact evg rfl hg | exact evg rfl (by first | (simp_all; done) | (simp [*]; done) | fail) | fail) (by first | exact evv rfl | exact evg rfl (by rw [hp]; rfl) | exact evg rfl hp | exact evg rfl hg | exact evg rfl (by first | (simp_all; done) | (simp [*]; done) | fail) | fail) (by rfl)) rfl rfl ?_
  refine o_give (g_pick_or (evv rfl) (evv rfl) (fun hp => (by first | exact evv rfl | exact evg rfl (by rw [hp]; rfl) | exact evg rfl hp | exact evg rfl hg | exact evg rfl (by first | (simp_all; done) | (simp [*]; done) | fail) | fail))) rfl rfl ?_
  refine o_give (g_move (evv rfl)) rfl rfl ?_
  refine o_lazy rfl (fun hg => g_move (by first | exact evv rfl | exact evg rfl (by rw [hp]; rfl) | exact evg rfl hp | exact evg rfl hg | exact evg rfl (by first | (simp_all; done) | (simp [*]; done) | fail) | fail)) rfl rfl ?_
  refine o_lazy rfl (fun hg => g_move (by first | exact evv rfl | exact evg rfl (by rw [hp]; rfl) | exact evg rfl hp | exact evg rfl hg | exact evg rfl (by first | (simp_all; done) | (simp [*]; done) | fail) | fail)) rfl rfl ?_
  refine o_lazy rfl (fun hg => g_bin (by first | exact evv rfl | exact evg rfl (by rw [hp]; rfl) | exact evg rfl hp | exact evg rfl hg | exact evg rfl (by first | (simp_all; done) | (simp [*]; done) | fail) | fail) (by first | exact evv rfl | exact evg rfl (by rw [hp]; rfl) | exact evg rfl hp | exact evg rfl hg | exact evg rfl (by first | (simp_all; done) | (simp [*]; done) | fail) | fail) (by rfl)) rfl rfl ?_
  refine o_give (g_pick_or (evv rfl) (evv rfl) (fun hp => (by first | exact evv rfl | exact evg rfl (by rw [hp]; rfl) | exact evg rfl hp | exact evg rfl hg | exact evg rfl (by first | (simp_all; done) | (simp [*]; done) | fail) | fail))) rfl rfl ?_
  refine o_give (g_move (evv rfl)) rfl rfl ?_
  refine o_lazy rfl (fun hg => g_loadF (evv rfl) (by rfl) (by rfl)) rfl rfl ?_
  have e1 : (!decide (n = 3) && !decide (n = 5) && !decide (n = 7) || decide ((0 : Int) < 0) || decide (n ≤ 0)) = false := by
    rcases h with rfl | rfl | rfl <;> decide
  simp only [e1, Bool.not_false]
  refine o_sure (t := 31) rfl rfl ?_
  refine o_gyes rfl ?_
  (refine o_call rfl _ (Ent.refl _) (KCheck_c _) rfl ?_; rintro _ _ ⟨rfl, hLz⟩; obtain rfl := hLz.symm; clear hLz)
  refine o_gyes rfl ?_
  refine o_give (g_bin (evv rfl) (evv rfl) (by rfl)) rfl rfl ?_
  refine o_give (g_pick (b := false) (evv rfl) (fun h => by cases h) (fun _ => (evv rfl))) rfl rfl ?_
  refine o_nil ?_
  refine c_code ?_
  refine r_cond_false rfl ?_
  refine r_skip ?_
  refine c_code ?_
  refine r_seq ?_
  rename_i q6 q7 q8
  skip
  repeat (first | refine r_seq ?_ | refine c_code ?_ | refine c_blk ?_ | refine r_block ?_ | refine r_skip ?_)
  refine r_held (id := 3) ([blk q7 ⟨bys (List.replicate 32 0), 31⟩, blk q6 ⟨[.int .i64 0, .int .i64 0, .int .i64 0, str [], .slice none 0 0], 77⟩]) Mixed.h ?_
  refine h_give (i := 0) (by kernel_rfl) rfl (g_move (evv rfl)) rfl rfl ?_
  refine h_give (i := 1) (by kernel_rfl) rfl (g_move (evv rfl)) rfl rfl ?_
  refine h_give (i := 2) (by kernel_rfl) rfl (g_fld (evv rfl)) rfl rfl ?_
  refine h_give (i := 3) (by kernel_rfl) rfl (g_load (evv rfl) (by rfl) (by rfl)) rfl rfl ?_
  refine h_give (i := 4) (by kernel_rfl) rfl (g_fld (evv rfl)) rfl rfl ?_
  refine h_give (i := 5) (by kernel_rfl) rfl (g_load (evv rfl) (by rfl) (by rfl)) rfl rfl ?_
  refine h_give (i := 6) (by kernel_rfl) rfl (g_fld (evv rfl)) rfl rfl ?_
  refine h_give (i := 7) (by kernel_rfl) rfl (g_load (evv rfl) (by rfl) (by rfl)) rfl rfl ?_
  refine h_give (i := 8) (by kernel_rfl) rfl (g_loadF (evv rfl) (by rfl) (by rfl)) rfl rfl ?_
  refine h_give (i := 9) (by kernel_rfl) rfl (g_fld (evv rfl)) rfl rfl ?_
  refine h_give (i := 10) (by kernel_rfl) rfl (g_load (evv rfl) (by rfl) (by rfl)) rfl rfl ?_
  refine h_give (i := 11) (by kernel_rfl) rfl (g_fld (evv rfl)) rfl rfl ?_
  refine h_give (i := 12) (by kernel_rfl) rfl (g_load (evv rfl) (by rfl) (by rfl)) rfl rfl ?_
  refine h_give (i := 13) (by kernel_rfl) rfl (g_move (evv rfl)) rfl rfl ?_
  refine h_one (i := 14) (by kernel_rfl) rfl (Lay.ent) ?_
  (refine o_call rfl _ (Ent.refl _) (Wait_0 _) rfl ?_; rintro _ _ ⟨rfl, hLz⟩; obtain rfl := hLz.symm; clear hLz)
  refine o_nil ?_
  refine h_one (i := 15) (by kernel_rfl) rfl (Lay.ent) ?_
  refine o_give (g_buildC rfl (by rfl)) rfl rfl ?_
  refine o_nil ?_
  refine h_one (i := 16) (by kernel_rfl) rfl (Lay.ent) ?_
  (refine o_call rfl _ (Ent.refl _) (start_c _ _) rfl ?_; rintro _ _ ⟨cb, rfl, rfl⟩)
  refine o_nil ?_
  refine h_give (i := 17) (by kernel_rfl) rfl (g_assign (evv rfl)) rfl rfl ?_
  refine h_done (by kernel_rfl) (Lay.ent) ?_
  refine c_code ?_
  refine r_seq ?_
  refine r_block ?_
  refine r_seq ?_
  refine r_region (id := 4) ?_
  refine o_give (g_fld (evv rfl)) rfl rfl ?_
  refine o_give (g_load (evv rfl) (by rfl) (by rfl)) rfl rfl ?_
  refine o_give (g_fld (evv rfl)) rfl rfl ?_
  refine o_give (g_load (evv rfl) (by rfl) (by rfl)) rfl rfl ?_
  refine o_give (g_bin (evv rfl) (evv rfl) (by rfl)) rfl rfl ?_
  refine o_give (g_assign (evv rfl)) rfl rfl ?_
  refine o_nil ?_
  refine c_code ?_
  refine r_cond_false rfl ?_
  refine r_seq ?_
  refine r_region (id := 8) ?_
  refine o_give (g_move (evv rfl)) rfl rfl ?_
  refine o_give (g_move (evv rfl)) rfl rfl ?_
  (refine o_call rfl _ (Ent.refl _) (cprim_c _ _ _ (by omega) (by omega)) rfl ?_; rintro _ _ ⟨rfl, hLz⟩; obtain rfl := hLz.symm; clear hLz)
  refine o_give (g_bin (evv rfl) (evv rfl) (by rfl)) rfl rfl ?_
  refine o_give (g_assign (evv rfl)) rfl rfl ?_
  refine o_nil ?_
  refine c_code ?_
  refine r_cond_true rfl ?_
  refine r_region (id := 9) ?_
  refine o_give (g_move (evv rfl)) rfl rfl ?_
  (refine o_call rfl _ (Ent.refl _) (reset_c _ _ _ (by omega) (by omega)) rfl ?_; rintro _ _ ⟨ra, rxs, rfl⟩)
  refine o_nil ?_
  refine c_blk ?_
  refine c_code ?_
  refine r_seq ?_
  refine r_region (id := 10) ?_
  refine o_give (g_move (evv rfl)) rfl rfl ?_
  refine o_give (g_nil (evv rfl)) rfl rfl ?_
  refine o_give (g_fld (evv rfl)) rfl rfl ?_
  refine o_give (g_loadF (evv rfl) (by rfl) (by rfl)) rfl rfl ?_
  refine o_storeW (evv rfl) (evv rfl) (by first | rfl | assumption | exact LenC.h _ | (simp [bys, *]; done) | fail) (by first | (intro _ _ _; exact bys_one _) | exact AllOne.h | (intro _ _ _ u hu; simp at hu; rcases hu with rfl | rfl | rfl | rfl | rfl | rfl | rfl | rfl <;> rfl) | fail) (by first | rfl | exact (LenC.h _).trans rfl | exact (LenC.h _).trans (LenC.h _).symm | (simp [bys, *]; done) | (simp only [bys, List.length_map, *]; rfl) | fail) ?_
  refine o_give (g_assign (evv rfl)) rfl rfl ?_
  refine o_nil ?_
  refine c_code ?_
  first | refine r_retC (rs := [.cell 8 64, .tmp 9]) rfl (by first | exact ro_agg rfl rfl (by first | rfl | exact LenC.h _ | (simp [bys, *]; done)) (ro_tmp rfl ro_nil) | exact ro_cell rfl rfl rfl (ro_tmp rfl ro_nil)) _ ((Lay.ent (L' := sl ra (mrow i64v 2 rxs) :: L))) ?_ | refine c_endC (rs := [.cell 8 64, .tmp 9]) rfl (by first | exact ro_agg rfl rfl (by first | rfl | exact LenC.h _ | (simp [bys, *]; done)) (ro_tmp rfl ro_nil) | exact ro_cell rfl rfl rfl (ro_tmp rfl ro_nil)) _ ((Lay.ent (L' := sl ra (mrow i64v 2 rxs) :: L))) ?_
  exact ⟨ra, rxs, rfl, rfl⟩
theorem NewE_c (L : List Atom) (n : Int) (h : ¬ (n = 3 ∨ n = 5 ∨ n = 7)) : Fn Try.prog 20 [.int .i64 0, .int .i64 n] L fun w L' => w = .tuple #[agg coreE, .int .i64 1] ∧ L' = L := by
  refine fn_intro Try.func20 rfl Try.ntmps20 rfl (fun W0 => ?_)
  simp only [argE]
  refine r_seq ?_
  refine r_region (id := 0) ?_
  refine o_alloc (cs := ((Go.Value.int Go.IntKind.i64 0) :: (Go.Value.int Go.IntKind.i64 0) :: (Go.Value.int Go.IntKind.i64 0) :: (Go.Value.int Go.IntKind.i64 0) :: (Go.Value.int Go.IntKind.i64 0) :: (Go.Value.int Go.IntKind.i64 0) :: (bys (List.replicate 32 0) ++ (Go.Value.slice none 0 0) :: (Go.Value.int Go.IntKind.i64 0) :: (Go.Value.int Go.IntKind.i64 0) :: (Go.Value.slice none 0 0) :: (Go.Value.slice none 0 0) :: (Go.Value.slice none 0 0) :: (Go.Value.bool false) :: (Go.Value.int Go.IntKind.i64 0) :: []))) rfl rfl (fun _ => ?_)
  refine o_give (g_assign (evv rfl)) rfl rfl ?_
  refine o_nil ?_
  refine c_code ?_
  refine r_seq ?_
  refine r_region (id := 1) ?_
  refine o_give (g_move (evv rfl)) rfl rfl ?_
  refine o_give (g_move (evv rfl)) rfl rfl ?_
  refine o_give (v := agg [(Go.Value.int Go.IntKind.i64 0), (Go.Value.int Go.IntKind.i64 0), (Go.Value.int Go.IntKind.i64 0), (Go.Value.string { data := #[] }), (Go.Value.slice none 0 0)]) (g_buildC rfl (by rfl)) rfl rfl ?_
  refine o_give (v := agg (bys (List.replicate 32 0))) g_buildA0 rfl rfl ?_
  (refine o_call rfl _ (Ent.refl _) (RestartE_c _ _ (by assumption)) rfl ?_; rintro _ _ ⟨rfl, hLz⟩; obtain rfl := hLz.symm; clear hLz)
  refine o_give (g_extract (evv rfl) (by rfl)) rfl rfl ?_
  refine o_give (g_extract (evv rfl) (by rfl)) rfl rfl ?_
  refine o_storeW (evv rfl) (evv rfl) (by first | rfl | assumption | exact LenC.h _ | (simp [bys, *]; done) | fail) (by first | (intro _ _ _; exact bys_one _) | exact AllOne.h | (intro _ _ _ u hu; simp at hu; rcases hu with rfl | rfl | rfl | rfl | rfl | rfl | rfl | rfl <;> rfl) | fail) (by first | rfl | exact (LenC.h _).trans rfl | exact (LenC.h _).trans (LenC.h _).symm | (simp [bys, *]; done) | (simp only [bys, List.length_map, *]; rfl) | fail) ?_
  refine o_give (g_assign (evv rfl)) rfl rfl ?_
  refine o_nil ?_
  refine c_code ?_
  first | refine r_retC (rs := [.cell 4 64, .tmp 5]) rfl (by first | exact ro_agg rfl rfl (by first | rfl | exact LenC.h _ | (simp [bys, *]; done)) (ro_tmp rfl ro_nil) | exact ro_cell rfl rfl rfl (ro_tmp rfl ro_nil)) _ ((Lay.ent (L' := L))) ?_ | refine c_endC (rs := [.cell 4 64, .tmp 5]) rfl (by first | exact ro_agg rfl rfl (by first | rfl | exact LenC.h _ | (simp [bys, *]; done)) (ro_tmp rfl ro_nil) | exact ro_cell rfl rfl rfl (ro_tmp rfl ro_nil)) _ ((Lay.ent (L' := L))) ?_
  exact ⟨rfl, rfl⟩
theorem NewN_c (L : List Atom) (n : Int) (h : n = 3 ∨ n = 5 ∨ n = 7) : Fn Try.prog 20 [.int .i64 0, .int .i64 n] L fun w L' => ∃ a xs, w = .tuple #[agg (coreZ n a 2), .int .i64 0] ∧ L' = sl a (mrow i64v 2 xs) :: L := by
  refine fn_intro Try.func20 rfl Try.ntmps20 rfl (fun W0 => ?_)
  simp only [argE]
  refine r_seq ?_
  refine r_region (id := 0) ?_
  refine o_alloc (cs := ((Go.Value.int Go.IntKind.i64 0) :: (Go.Value.int Go.IntKind.i64 0) :: (Go.Value.int Go.IntKind.i64 0) :: (Go.Value.int Go.IntKind.i64 0) :: (Go.Value.int Go.IntKind.i64 0) :: (Go.Value.int Go.IntKind.i64 0) :: (bys (List.replicate 32 0) ++ (Go.Value.slice none 0 0) :: (Go.Value.int Go.IntKind.i64 0) :: (Go.Value.int Go.IntKind.i64 0) :: (Go.Value.slice none 0 0) :: (Go.Value.slice none 0 0) :: (Go.Value.slice none 0 0) :: (Go.Value.bool false) :: (Go.Value.int Go.IntKind.i64 0) :: []))) rfl rfl (fun _ => ?_)
  refine o_give (g_assign (evv rfl)) rfl rfl ?_
  refine o_nil ?_
  refine c_code ?_
  refine r_seq ?_
  refine r_region (id := 1) ?_
  refine o_give (g_move (evv rfl)) rfl rfl ?_
  refine o_give (g_move (evv rfl)) rfl rfl ?_
  refine o_give (v := agg [(Go.Value.int Go.IntKind.i64 0), (Go.Value.int Go.IntKind.i64 0), (Go.Value.int Go.IntKind.i64 0), (Go.Value.string { data := #[] }), (Go.Value.slice none 0 0)]) (g_buildC rfl (by rfl)) rfl rfl ?_
  refine o_give (v := agg (bys (List.replicate 32 0))) g_buildA0 rfl rfl ?_
  (refine o_call rfl _ (Ent.refl _) (RestartN_c _ _ (by assumption)) rfl ?_; rintro _ _ ⟨ra, rxs, rfl, rfl⟩)
  refine o_give (g_extract (evv rfl) (by rfl)) rfl rfl ?_
  refine o_give (g_extract (evv rfl) (by rfl)) rfl rfl ?_
  refine o_storeW (evv rfl) (evv rfl) (by first | rfl | assumption | exact LenC.h _ | (simp [bys, *]; done) | fail) (by first | (intro _ _ _; exact bys_one _) | exact AllOne.h | (intro _ _ _ u hu; simp at hu; rcases hu with rfl | rfl | rfl | rfl | rfl | rfl | rfl | rfl <;> rfl) | fail) (by first | rfl | exact (LenC.h _).trans rfl | exact (LenC.h _).trans (LenC.h _).symm | (simp [bys, *]; done) | (simp only [bys, List.length_map, *]; rfl) | fail) ?_
  refine o_give (g_assign (evv rfl)) rfl rfl ?_
  refine o_nil ?_
  refine c_code ?_
  first | refine r_retC (rs := [.cell 4 64, .tmp 5]) rfl (by first | exact ro_agg rfl rfl (by first | rfl | exact LenC.h _ | (simp [bys, *]; done)) (ro_tmp rfl ro_nil) | exact ro_cell rfl rfl rfl (ro_tmp rfl ro_nil)) _ ((Lay.ent (L' := sl ra (mrow i64v 2 rxs) :: L))) ?_ | refine c_endC (rs := [.cell 4 64, .tmp 5]) rfl (by first | exact ro_agg rfl rfl (by first | rfl | exact LenC.h _ | (simp [bys, *]; done)) (ro_tmp rfl ro_nil) | exact ro_cell rfl rfl rfl (ro_tmp rfl ro_nil)) _ ((Lay.ent (L' := sl ra (mrow i64v 2 rxs) :: L))) ?_
  exact ⟨ra, rxs, rfl, rfl⟩
end VK
