/- A node read out of bytes: the code's. Conditions: none. -/
import Derived.Test.YtpknikpkepcbcaaNode3
namespace VK
open Go Go.Proofs
set_option linter.unusedSimpArgs false
set_option linter.unusedVariables false
set_option maxRecDepth 100000
set_option maxHeartbeats 40000000
def partsT (acc : List Dig) (k : Nat) (s : InS) : List Dig × InS := (acc ++ (partsGo k s).1, (partsGo k s).2)
theorem partsT_step (acc : List Dig) (k : Nat) (s : InS) : partsT acc (k + 1) s = partsT (acc ++ [digG s]) k (digestR s).2 := by simp [partsT, partsGo]
def itmsT (acc : List Itm) (k : Nat) (s : InS) : List Itm × InS := (acc ++ (itmsGo k s).1, (itmsGo k s).2)
theorem itmsT_step (acc : List Itm) (k : Nat) (s : InS) : itmsT acc (k + 1) s = itmsT (acc ++ [(itmG s).1]) k (itmG s).2 := by simp [itmsT, itmsGo]
theorem nread_c (F : List Atom) (i : Nat) (s : InS) : Fn Try.prog 23 [.pointer (some ⟨i, 0, none⟩)] (inA i s :: F) fun w L' => ∃ pv iv, w = agg (nodV (readN s).1 pv iv) ∧ L' = sl pv (frow digC 32 52 (readN s).1.parts) :: sl iv (frow itmC 34 54 (readN s).1.items) :: inA i (readN s).2 :: F := by
  have hN := numR_le s
  by_cases h1 : min (numR s).1 9 = 1
  · have hr : readN s = (⟨1, (textR 64 (numR s).2).1, 0, [], []⟩, (textR 64 (numR s).2).2) := by unfold readN; dsimp only; rw [if_pos h1]
    have e1 : min ((numR s).1 : Int) 9 = 1 := by omega
    rw [hr]
    refine fn_intro Try.func23 rfl Try.ntmps23 rfl (fun W0 => ?_)
    simp only [argE]
    refine r_seq ?_
    refine r_region (id := 0) ?_
    refine o_alloc rfl rfl (fun _ => ?_)
    refine o_nil ?_
    refine c_code ?_
    refine r_seq ?_
    refine r_region (id := 1) ?_
    refine o_give (g_move (evv rfl)) rfl rfl ?_
    (refine o_call rfl _ (Ent.refl _) inNum_l rfl ?_; rintro _ _ ⟨rfl, rfl⟩)
    refine o_give (g_min2 (evv rfl) (evv rfl)) rfl rfl ?_
    refine o_giveN (g_conv TyU.h TyU.h (evv rfl)) (by simp only [inR]; omega) rfl ?_
    refine o_give (g_buildC rfl (by rfl)) rfl rfl ?_
    refine o_alloc rfl rfl (fun _ => ?_)
    refine o_storeW (evv rfl) (evv rfl) (by first | rfl | assumption | exact LenC.h _ | (simp [bys, *]; done) | fail) (by first | (intro _ _ _; exact bys_one _) | exact AllOne.h | (intro _ _ _ u hu; simp at hu; rcases hu with rfl | rfl | rfl | rfl | rfl | rfl | rfl | rfl <;> rfl) | fail) (by first | rfl | exact (LenC.h _).trans rfl | (simp [bys, *]; done) | (simp only [bys, List.length_map, *]; rfl) | fail) ?_
    refine o_nil ?_
    refine c_code ?_
    refine r_seq ?_
    refine r_seq ?_
    rw [e1]
    refine r_region (id := 2) ?_
    refine o_give (g_fld (evv rfl)) rfl rfl ?_
    refine o_give (g_load (evv rfl) (by rfl) (by rfl)) rfl rfl ?_
    refine o_nil ?_
    refine c_code ?_
    refine r_block ?_
    refine r_seq ?_
    refine r_region (id := 3) ?_
    refine o_give (g_bin (evv rfl) (evv rfl) (by rfl)) rfl rfl ?_
    refine o_give (g_assign (evv rfl)) rfl rfl ?_
    refine o_nil ?_
    refine c_code ?_
    refine r_cond_true rfl ?_
    refine r_region (id := 4) ?_
    refine o_give (g_move (evv rfl)) rfl rfl ?_
    (refine o_call rfl _ (Ent.refl _) (inText_l _ (by omega)) rfl ?_; rintro _ _ ⟨rfl, rfl⟩)
    refine o_give (g_fld (evv rfl)) rfl rfl ?_
    refine o_store1 (evv rfl) (evv rfl) (by rfl) (by rfl) (by rfl) ?_
    refine o_nil ?_
    refine c_blk ?_
    refine c_code ?_
    refine r_seq ?_
    refine r_region (id := 16) ?_
    refine o_give (g_loadF (evv rfl) (by rfl) (by rfl)) rfl rfl ?_
    refine o_storeW (evv rfl) (evv rfl) (by first | rfl | assumption | exact LenC.h _ | (simp [bys, *]; done) | fail) (by first | (intro _ _ _; exact bys_one _) | exact AllOne.h | (intro _ _ _ u hu; simp at hu; rcases hu with rfl | rfl | rfl | rfl | rfl | rfl | rfl | rfl <;> rfl) | fail) (by first | rfl | exact (LenC.h _).trans rfl | (simp [bys, *]; done) | (simp only [bys, List.length_map, *]; rfl) | fail) ?_
    refine o_nil ?_
    refine c_code ?_
    first | refine r_retC (rs := [.cell 2 27]) rfl (by first | exact ro_agg rfl rfl (by first | rfl | exact LenC.h _ | (simp [bys, *]; done)) ro_nil | exact ro_cell rfl rfl rfl ro_nil) _ (((Lay.ent (L' := inA i (textR 64 (numR s).2).2 :: F)).trans ((Ent.nilsl 54 34).trans (Ent.nilsl 52 32)))) ?_ | refine c_endC (rs := [.cell 2 27]) rfl (by first | exact ro_agg rfl rfl (by first | rfl | exact LenC.h _ | (simp [bys, *]; done)) ro_nil | exact ro_cell rfl rfl rfl ro_nil) _ (((Lay.ent (L' := inA i (textR 64 (numR s).2).2 :: F)).trans ((Ent.nilsl 54 34).trans (Ent.nilsl 52 32)))) ?_
    exact ⟨_, _, rfl, rfl⟩
  · by_cases h2 : min (numR s).1 9 = 2
    · have hr : readN s = (⟨2, [], ((min (numR (numR s).2).1 1025 : Nat) : Int), (partsGo (cnt ((min (numR (numR s).2).1 1025 : Nat) : Int)) (numR (numR s).2).2).1, []⟩, (partsGo (cnt ((min (numR (numR s).2).1 1025 : Nat) : Int)) (numR (numR s).2).2).2) := by
        unfold readN; dsimp only; rw [if_neg h1, if_pos h2]
      have e1 : min ((numR s).1 : Int) 9 = 2 := by omega
      have hM := numR_le (numR s).2
      rw [hr]
      refine fn_intro Try.func23 rfl Try.ntmps23 rfl (fun W0 => ?_)
      simp only [argE]
      refine r_seq ?_
      refine r_region (id := 0) ?_
      refine o_alloc rfl rfl (fun _ => ?_)
      refine o_nil ?_
      refine c_code ?_
      refine r_seq ?_
      refine r_region (id := 1) ?_
      refine o_give (g_move (evv rfl)) rfl rfl ?_
      (refine o_call rfl _ (Ent.refl _) inNum_l rfl ?_; rintro _ _ ⟨rfl, rfl⟩)
      refine o_give (g_min2 (evv rfl) (evv rfl)) rfl rfl ?_
      refine o_giveN (g_conv TyU.h TyU.h (evv rfl)) (by simp only [inR]; omega) rfl ?_
      refine o_give (g_buildC rfl (by rfl)) rfl rfl ?_
      refine o_alloc rfl rfl (fun _ => ?_)
      refine o_storeW (evv rfl) (evv rfl) (by first | rfl | assumption | exact LenC.h _ | (simp [bys, *]; done) | fail) (by first | (intro _ _ _; exact bys_one _) | exact AllOne.h | (intro _ _ _ u hu; simp at hu; rcases hu with rfl | rfl | rfl | rfl | rfl | rfl | rfl | rfl <;> rfl) | fail) (by first | rfl | exact (LenC.h _).trans rfl | (simp [bys, *]; done) | (simp only [bys, List.length_map, *]; rfl) | fail) ?_
      refine o_nil ?_
      refine c_code ?_
      refine r_seq ?_
      refine r_seq ?_
      rw [e1]
      refine r_region (id := 2) ?_
      refine o_give (g_fld (evv rfl)) rfl rfl ?_
      refine o_give (g_load (evv rfl) (by rfl) (by rfl)) rfl rfl ?_
      refine o_nil ?_
      refine c_code ?_
      refine r_block ?_
      refine r_seq ?_
      refine r_region (id := 3) ?_
      refine o_give (g_bin (evv rfl) (evv rfl) (by rfl)) rfl rfl ?_
      refine o_give (g_assign (evv rfl)) rfl rfl ?_
      refine o_nil ?_
      refine c_code ?_
      refine r_cond_false rfl ?_
      refine r_seq ?_
      refine r_region (id := 5) ?_
      refine o_give (g_bin (evv rfl) (evv rfl) (by rfl)) rfl rfl ?_
      refine o_give (g_assign (evv rfl)) rfl rfl ?_
      refine o_nil ?_
      refine c_code ?_
      refine r_cond_true rfl ?_
      refine r_seq ?_
      refine r_region (id := 6) ?_
      refine o_give (g_move (evv rfl)) rfl rfl ?_
      (refine o_call rfl _ (Ent.refl _) inNum_l rfl ?_; rintro _ _ ⟨rfl, rfl⟩)
      refine o_give (g_min2 (evv rfl) (evv rfl)) rfl rfl ?_
      refine o_giveN (g_conv TyU.h TyU.h (evv rfl)) (by simp only [inR]; omega) rfl ?_
      refine o_give (g_fld (evv rfl)) rfl rfl ?_
      refine o_store1 (evv rfl) (evv rfl) (by rfl) (by rfl) (by rfl) ?_
      refine o_nil ?_
      refine c_code ?_
      refine r_seq ?_
      refine r_region (id := 7) ?_
      refine o_give (g_fld (evv rfl)) rfl rfl ?_
      refine o_give (g_load (evv rfl) (by rfl) (by rfl)) rfl rfl ?_
      (refine o_call rfl _ (Ent.refl _) (nparts_c _ _ (by omega)) rfl ?_; rintro _ _ ⟨rfl, hLz⟩; obtain rfl := hLz.symm; clear hLz)
      refine o_give (g_move (evv rfl)) rfl rfl ?_
      refine o_nil ?_
      refine c_code ?_
      refine r_block ?_
      rename_i z q
      generalize hZ : cellsL _ = Z
      have hZl : Z.length = 5 := by rw [← hZ]; rfl
      rw [show min ((numR (numR s).2).1 : Int) 1025 = ((min (numR (numR s).2).1 1025 : Nat) : Int) by omega]
      have hM2 : min (numR (numR s).2).1 1025 ≤ 1025 := by omega
      generalize min (numR (numR s).2).1 1025 = M at *
      have hC2 : cnt (M : Int) ≤ 20 := by unfold cnt; omega
      generalize (numR (numR s).2).2 = s0 at *
      generalize hC : cnt (M : Int) = C at *
      refine r_loopE (σ := (Nat × List Dig) × InS × Value) (fun ⟨⟨k, acc⟩, s', nv⟩ => k ≤ C ∧ acc.length = k ∧ partsGo C s0 = partsT acc (C - k) s') (fun ⟨⟨k, acc⟩, s', nv⟩ => C - k) (fun ⟨⟨k, acc⟩, s', nv⟩ => [(26, .v (.int .i64 k))]) [0, 2, 3, 10, 25] (fun ⟨⟨k, acc⟩, s', nv⟩ => blk q ⟨[.int .i64 2, str [], .int .i64 M, nv, .slice none 0 0], 27⟩ :: sl nv (frow digC 32 52 acc) :: inA i s' :: blk z ⟨Z, 27⟩ :: F) ((0, []), s0, .slice none 0 0) (by dsimp only [pickE, pick1, lk2, Nat.reduceBEq, Nat.reduceAdd, Nat.zero_add, cond_true, cond_false] <;> exact rfl) ?_ (by repeat (first | exact trivial | refine ⟨rfl, ?_⟩ | refine envsub_v rfl (by first | rfl | (refine int_eq ?_; first | omega | (simp; omega) | (simp; done)) | (refine bool_eq ?_; first | (simp [*]; done) | (simp; done)) | (refine str_eq ?_; simp; done) | (refine ptr_eq ?_; omega) | fail) ?_)) ?_ ?_
      · exact ⟨Nat.zero_le _, rfl, by simp [partsT]⟩
      · refine (Ent.nilsl 52 32).trans ?_
        dsimp only
        exact Lay.ent (L := sl (.slice none 0 0) (frow digC 32 52 []) :: blk q ⟨[.int .i64 2, str [], .int .i64 M, .slice none 0 0, .slice none 0 0], 27⟩ :: blk z ⟨Z, 27⟩ :: inA i s0 :: F)
      rintro ⟨⟨k, acc⟩, s', nv⟩ ⟨hk, hal, hT⟩; dsimp only [List.cons_append, List.nil_append]
      refine r_seq ?_
      refine r_region (id := 8) ?_
      refine o_give (g_bin (evv rfl) (evv rfl) (by rfl)) rfl rfl ?_
      refine o_nil ?_
      refine c_code ?_
      refine r_seq ?_
      refine r_cond rfl (fun hc => ?_) (fun hc => ?_) <;> (try simp only [decide_eq_true_eq, decide_eq_false_iff_not, Bool.and_eq_true, Bool.or_eq_true, Bool.not_eq_true', Bool.and_eq_false_iff, Bool.or_eq_false_iff, Bool.not_eq_false', Bool.not_eq_true, Bool.not_eq_false, Bool.true_eq_false, Bool.false_eq_true, Int.not_lt, Int.not_le, not_and, not_or, ne_eq] at hc)
      · obtain ⟨m, hm⟩ : ∃ m, C - k = m + 1 := ⟨C - k - 1, by omega⟩
        have hm2 : C - (k + 1) = m := by omega
        rw [hm, partsT_step] at hT
        repeat (first | refine r_seq ?_ | refine c_code ?_ | refine c_blk ?_ | refine r_block ?_ | refine r_skip ?_)
        refine r_cutE (σ := Value) (fun nv' => []) [0, 2, 3, 10, 25, 26, 27] (fun nv' => blk q ⟨[.int .i64 2, str [], .int .i64 M, nv', .slice none 0 0], 27⟩ :: sl nv' (frow digC 32 52 (acc ++ [digG s'])) :: inA i (digestR s').2 :: blk z ⟨Z, 27⟩ :: F) (by dsimp only [pickE, pick1, lk2, Nat.reduceBEq, Nat.reduceAdd, Nat.zero_add, cond_true, cond_false] <;> exact rfl) ?_ ?_
        · refine r_held (id := 9) [] Mixed.h ?_
          (refine h_give (i := 0) (by kernel_rfl) rfl (g_fld (evv rfl)) rfl rfl ?_)
          (refine h_give (i := 2) (by kernel_rfl) rfl (g_move (evv rfl)) rfl rfl ?_)
          refine h_two (i := 1) (j := 3) (by kernel_rfl) rfl rfl (Ent.nil _) ?_ ?_
          · (refine o_give (g_load (evv rfl) (by rfl) (by rfl)) rfl rfl ?_); refine o_nil ?_
            refine h_one (i := 3) (by kernel_rfl) rfl (Ent.nil _) ?_
            ((refine o_call rfl _ (Ent.refl _) inDigest_l rfl ?_; rintro _ _ ⟨rfl, rfl⟩)); refine o_nil ?_
            refine h_one (i := 4) (by kernel_rfl) rfl (Ent.nil _) ?_
            (refine o_litS rfl (by rfl) inferInstance (by rfl) rfl (fun _ => ?_)); refine o_nil ?_
            refine h_one (i := 5) (by kernel_rfl) rfl (Ent.nil _) ?_
            (refine o_appF (evv rfl) (evv rfl) (by rfl) (by rfl) (by rfl) (by (try simp only [bsOf, List.length_append, List.length_cons, List.length_nil, List.length_take, List.length_drop]); omega) rfl (fun _ => ?_)); refine o_nil ?_
            (refine h_give (i := 6) (by kernel_rfl) rfl (g_fld (evv rfl)) rfl rfl ?_)
            refine h_one (i := 7) (by kernel_rfl) rfl (Ent.nil _) ?_
            (refine o_store1 (evv rfl) (evv rfl) (by rfl) (by rfl) (by rfl) ?_); refine o_nil ?_
            refine h_done (by kernel_rfl) (Ent.nil _) ?_
            exact c_cut (by assumption) (by repeat (first | exact trivial | refine ⟨rfl, ?_⟩ | refine envsub_v rfl (by first | rfl | (refine int_eq ?_; first | omega | (simp; omega) | (simp; done)) | (refine bool_eq ?_; first | (simp [*]; done) | (simp; done)) | (refine str_eq ?_; simp; done) | (refine ptr_eq ?_; omega) | fail) ?_)) (Lay.ent)
          · ((refine o_call rfl _ (Ent.refl _) inDigest_l rfl ?_; rintro _ _ ⟨rfl, rfl⟩)); refine o_nil ?_
            refine h_two (i := 1) (j := 4) (by kernel_rfl) rfl rfl (Ent.nil _) ?_ ?_
            · (refine o_give (g_load (evv rfl) (by rfl) (by rfl)) rfl rfl ?_); refine o_nil ?_
              refine h_one (i := 4) (by kernel_rfl) rfl (Ent.nil _) ?_
              (refine o_litS rfl (by rfl) inferInstance (by rfl) rfl (fun _ => ?_)); refine o_nil ?_
              refine h_one (i := 5) (by kernel_rfl) rfl (Ent.nil _) ?_
              (refine o_appF (evv rfl) (evv rfl) (by rfl) (by rfl) (by rfl) (by (try simp only [bsOf, List.length_append, List.length_cons, List.length_nil, List.length_take, List.length_drop]); omega) rfl (fun _ => ?_)); refine o_nil ?_
              (refine h_give (i := 6) (by kernel_rfl) rfl (g_fld (evv rfl)) rfl rfl ?_)
              refine h_one (i := 7) (by kernel_rfl) rfl (Ent.nil _) ?_
              (refine o_store1 (evv rfl) (evv rfl) (by rfl) (by rfl) (by rfl) ?_); refine o_nil ?_
              refine h_done (by kernel_rfl) (Ent.nil _) ?_
              exact c_cut (by assumption) (by repeat (first | exact trivial | refine ⟨rfl, ?_⟩ | refine envsub_v rfl (by first | rfl | (refine int_eq ?_; first | omega | (simp; omega) | (simp; done)) | (refine bool_eq ?_; first | (simp [*]; done) | (simp; done)) | (refine str_eq ?_; simp; done) | (refine ptr_eq ?_; omega) | fail) ?_)) (Lay.ent)
            · (refine o_litS rfl (by rfl) inferInstance (by rfl) rfl (fun _ => ?_)); refine o_nil ?_
              refine h_one (i := 1) (by kernel_rfl) rfl (Ent.nil _) ?_
              (refine o_give (g_load (evv rfl) (by rfl) (by rfl)) rfl rfl ?_); refine o_nil ?_
              refine h_one (i := 5) (by kernel_rfl) rfl (Ent.nil _) ?_
              (refine o_appF (evv rfl) (evv rfl) (by rfl) (by rfl) (by rfl) (by (try simp only [bsOf, List.length_append, List.length_cons, List.length_nil, List.length_take, List.length_drop]); omega) rfl (fun _ => ?_)); refine o_nil ?_
              (refine h_give (i := 6) (by kernel_rfl) rfl (g_fld (evv rfl)) rfl rfl ?_)
              refine h_one (i := 7) (by kernel_rfl) rfl (Ent.nil _) ?_
              (refine o_store1 (evv rfl) (evv rfl) (by rfl) (by rfl) (by rfl) ?_); refine o_nil ?_
              refine h_done (by kernel_rfl) (Ent.nil _) ?_
              exact c_cut (by assumption) (by repeat (first | exact trivial | refine ⟨rfl, ?_⟩ | refine envsub_v rfl (by first | rfl | (refine int_eq ?_; first | omega | (simp; omega) | (simp; done)) | (refine bool_eq ?_; first | (simp [*]; done) | (simp; done)) | (refine str_eq ?_; simp; done) | (refine ptr_eq ?_; omega) | fail) ?_)) (Lay.ent)
        intro nv'
        dsimp only [List.cons_append, List.nil_append]
        refine c_blk ?_
        refine c_code ?_
        refine r_region (id := 10) ?_
        refine o_giveN (g_bin (evv rfl) (evv rfl) (by rfl)) (by simp only [inR]; omega) rfl ?_
        refine o_give (g_move (evv rfl)) rfl rfl ?_
        refine o_nil ?_
        refine c_loop ((k + 1, acc ++ [digG s']), (digestR s').2, nv') ?_ ?_ (by repeat (first | exact trivial | refine ⟨rfl, ?_⟩ | refine envsub_v rfl (by first | rfl | (refine int_eq ?_; first | omega | (simp; omega) | (simp; done)) | (refine bool_eq ?_; first | (simp [*]; done) | (simp; done)) | (refine str_eq ?_; simp; done) | (refine ptr_eq ?_; omega) | fail) ?_)) ?_ <;> (try dsimp only)
        · exact ⟨by omega, by simp [hal], by rw [hm2]; exact hT⟩
        · omega
        · exact Lay.ent
      · have hkN : C - k = 0 := by omega
        rw [hkN, show partsT acc 0 s' = (acc, s') by simp [partsT, partsGo]] at hT
        rw [hT]
        refine r_exit rfl ?_
        refine c_blk ?_
        refine c_code ?_
        refine r_seq ?_
        refine r_region (id := 16) ?_
        refine o_give (g_loadF (evv rfl) (by rfl) (by rfl)) rfl rfl ?_
        refine o_storeW (evv rfl) (evv rfl) (by first | rfl | assumption | exact LenC.h _ | (simp [bys, *]; done) | fail) (by first | (intro _ _ _; exact bys_one _) | exact AllOne.h | (intro _ _ _ u hu; simp at hu; rcases hu with rfl | rfl | rfl | rfl | rfl | rfl | rfl | rfl <;> rfl) | fail) (by first | rfl | exact (LenC.h _).trans rfl | (simp [bys, *]; done) | (simp only [bys, List.length_map, *]; rfl) | fail) ?_
        refine o_nil ?_
        refine c_code ?_
        first | refine r_retC (rs := [.cell 2 27]) rfl (by first | exact ro_agg rfl rfl (by first | rfl | exact LenC.h _ | (simp [bys, *]; done)) ro_nil | exact ro_cell rfl rfl rfl ro_nil) _ (((Lay.ent (L' := sl nv (frow digC 32 52 acc) :: inA i s' :: F)).trans ((Ent.cons (Ent.nilsl 54 34))))) ?_ | refine c_endC (rs := [.cell 2 27]) rfl (by first | exact ro_agg rfl rfl (by first | rfl | exact LenC.h _ | (simp [bys, *]; done)) ro_nil | exact ro_cell rfl rfl rfl ro_nil) _ (((Lay.ent (L' := sl nv (frow digC 32 52 acc) :: inA i s' :: F)).trans ((Ent.cons (Ent.nilsl 54 34))))) ?_
        exact ⟨nv, _, rfl, rfl⟩
    · by_cases h3 : min (numR s).1 9 = 3
      · have hr : readN s = (⟨3, [], 0, [], (itmsGo (min (numR (numR s).2).1 65) (numR (numR s).2).2).1⟩, (itmsGo (min (numR (numR s).2).1 65) (numR (numR s).2).2).2) := by
          unfold readN; dsimp only; rw [if_neg h1, if_neg h2, if_pos h3]
        have e1 : min ((numR s).1 : Int) 9 = 3 := by omega
        have hM := numR_le (numR s).2
        rw [hr]
        refine fn_intro Try.func23 rfl Try.ntmps23 rfl (fun W0 => ?_)
        simp only [argE]
        refine r_seq ?_
        refine r_region (id := 0) ?_
        refine o_alloc rfl rfl (fun _ => ?_)
        refine o_nil ?_
        refine c_code ?_
        refine r_seq ?_
        refine r_region (id := 1) ?_
        refine o_give (g_move (evv rfl)) rfl rfl ?_
        (refine o_call rfl _ (Ent.refl _) inNum_l rfl ?_; rintro _ _ ⟨rfl, rfl⟩)
        refine o_give (g_min2 (evv rfl) (evv rfl)) rfl rfl ?_
        refine o_giveN (g_conv TyU.h TyU.h (evv rfl)) (by simp only [inR]; omega) rfl ?_
        refine o_give (g_buildC rfl (by rfl)) rfl rfl ?_
        refine o_alloc rfl rfl (fun _ => ?_)
        refine o_storeW (evv rfl) (evv rfl) (by first | rfl | assumption | exact LenC.h _ | (simp [bys, *]; done) | fail) (by first | (intro _ _ _; exact bys_one _) | exact AllOne.h | (intro _ _ _ u hu; simp at hu; rcases hu with rfl | rfl | rfl | rfl | rfl | rfl | rfl | rfl <;> rfl) | fail) (by first | rfl | exact (LenC.h _).trans rfl | (simp [bys, *]; done) | (simp only [bys, List.length_map, *]; rfl) | fail) ?_
        refine o_nil ?_
        refine c_code ?_
        refine r_seq ?_
        refine r_seq ?_
        rw [e1]
        refine r_region (id := 2) ?_
        refine o_give (g_fld (evv rfl)) rfl rfl ?_
        refine o_give (g_load (evv rfl) (by rfl) (by rfl)) rfl rfl ?_
        refine o_nil ?_
        refine c_code ?_
        refine r_block ?_
        refine r_seq ?_
        refine r_region (id := 3) ?_
        refine o_give (g_bin (evv rfl) (evv rfl) (by rfl)) rfl rfl ?_
        refine o_give (g_assign (evv rfl)) rfl rfl ?_
        refine o_nil ?_
        refine c_code ?_
        refine r_cond_false rfl ?_
        refine r_seq ?_
        refine r_region (id := 5) ?_
        refine o_give (g_bin (evv rfl) (evv rfl) (by rfl)) rfl rfl ?_
        refine o_give (g_assign (evv rfl)) rfl rfl ?_
        refine o_nil ?_
        refine c_code ?_
        refine r_cond_false rfl ?_
        refine r_seq ?_
        refine r_region (id := 11) ?_
        refine o_give (g_bin (evv rfl) (evv rfl) (by rfl)) rfl rfl ?_
        refine o_give (g_assign (evv rfl)) rfl rfl ?_
        refine o_nil ?_
        refine c_code ?_
        refine r_cond_true rfl ?_
        refine r_seq ?_
        refine r_region (id := 12) ?_
        refine o_give (g_move (evv rfl)) rfl rfl ?_
        (refine o_call rfl _ (Ent.refl _) inNum_l rfl ?_; rintro _ _ ⟨rfl, rfl⟩)
        refine o_give (g_min2 (evv rfl) (evv rfl)) rfl rfl ?_
        refine o_give (g_move (evv rfl)) rfl rfl ?_
        refine o_nil ?_
        refine c_code ?_
        refine r_block ?_
        rename_i z q
        generalize hZ : cellsL _ = Z
        have hZl : Z.length = 5 := by rw [← hZ]; rfl
        rw [show min ((numR (numR s).2).1 : Int) 65 = ((min (numR (numR s).2).1 65 : Nat) : Int) by omega]
        have hC2 : min (numR (numR s).2).1 65 ≤ 65 := by omega
        generalize min (numR (numR s).2).1 65 = C at *
        generalize (numR (numR s).2).2 = s0 at *
        refine r_loopE (σ := (Nat × List Itm) × InS × Value) (fun ⟨⟨k, acc⟩, s', nv⟩ => k ≤ C ∧ acc.length = k ∧ itmsGo C s0 = itmsT acc (C - k) s') (fun ⟨⟨k, acc⟩, s', nv⟩ => C - k) (fun ⟨⟨k, acc⟩, s', nv⟩ => [(41, .v (.int .u64 k))]) [0, 2, 3, 40] (fun ⟨⟨k, acc⟩, s', nv⟩ => blk q ⟨[.int .i64 3, str [], .int .i64 0, .slice none 0 0, nv], 27⟩ :: sl nv (frow itmC 34 54 acc) :: inA i s' :: blk z ⟨Z, 27⟩ :: F) ((0, []), s0, .slice none 0 0) (by dsimp only [pickE, pick1, lk2, Nat.reduceBEq, Nat.reduceAdd, Nat.zero_add, cond_true, cond_false] <;> exact rfl) ?_ (by repeat (first | exact trivial | refine ⟨rfl, ?_⟩ | refine envsub_v rfl (by first | rfl | (refine int_eq ?_; first | omega | (simp; omega) | (simp; done)) | (refine bool_eq ?_; first | (simp [*]; done) | (simp; done)) | (refine str_eq ?_; simp; done) | (refine ptr_eq ?_; omega) | fail) ?_)) ?_ ?_
        · exact ⟨Nat.zero_le _, rfl, by simp [itmsT]⟩
        · refine (Ent.nilsl 54 34).trans ?_
          dsimp only
          exact Lay.ent (L := sl (.slice none 0 0) (frow itmC 34 54 []) :: blk q ⟨[.int .i64 3, str [], .int .i64 0, .slice none 0 0, .slice none 0 0], 27⟩ :: blk z ⟨Z, 27⟩ :: inA i s0 :: F)
        rintro ⟨⟨k, acc⟩, s', nv⟩ ⟨hk, hal, hT⟩; dsimp only [List.cons_append, List.nil_append]
        refine r_seq ?_
        refine r_region (id := 13) ?_
        refine o_give (g_bin (evv rfl) (evv rfl) (by rfl)) rfl rfl ?_
        refine o_nil ?_
        refine c_code ?_
        refine r_seq ?_
        refine r_cond rfl (fun hc => ?_) (fun hc => ?_) <;> (try simp only [decide_eq_true_eq, decide_eq_false_iff_not, Bool.and_eq_true, Bool.or_eq_true, Bool.not_eq_true', Bool.and_eq_false_iff, Bool.or_eq_false_iff, Bool.not_eq_false', Bool.not_eq_true, Bool.not_eq_false, Bool.true_eq_false, Bool.false_eq_true, Int.not_lt, Int.not_le, not_and, not_or, ne_eq] at hc)
        · obtain ⟨m, hm⟩ : ∃ m, C - k = m + 1 := ⟨C - k - 1, by omega⟩
          have hm2 : C - (k + 1) = m := by omega
          have hQ := numR_le (textR 16 s').2
          have hk9 : min ((numR (textR 16 s').2).1 : Int) 9 = ((min (numR (textR 16 s').2).1 9 : Nat) : Int) := by omega
          rw [hm, itmsT_step] at hT
          repeat (first | refine r_seq ?_ | refine c_code ?_ | refine c_blk ?_ | refine r_block ?_ | refine r_skip ?_)
          refine r_cutE (σ := Value) (fun nv' => []) [0, 2, 3, 40, 41, 42] (fun nv' => blk q ⟨[.int .i64 3, str [], .int .i64 0, .slice none 0 0, nv'], 27⟩ :: sl nv' (frow itmC 34 54 (acc ++ [(itmG s').1])) :: inA i (itmG s').2 :: blk z ⟨Z, 27⟩ :: F) (by dsimp only [pickE, pick1, lk2, Nat.reduceBEq, Nat.reduceAdd, Nat.zero_add, cond_true, cond_false] <;> exact rfl) ?_ ?_
          · refine r_held (id := 14) [] Mixed.h ?_
            (refine h_give (i := 0) (by kernel_rfl) rfl (g_fld (evv rfl)) rfl rfl ?_)
            (refine h_give (i := 2) (by kernel_rfl) rfl (g_move (evv rfl)) rfl rfl ?_)
            (refine h_give (i := 4) (by kernel_rfl) rfl (g_move (evv rfl)) rfl rfl ?_)
            (refine h_give (i := 8) (by kernel_rfl) rfl (g_move (evv rfl)) rfl rfl ?_)
            refine h_two (i := 1) (j := 3) (by kernel_rfl) rfl rfl (Ent.nil _) ?_ ?_
            · (refine o_give (g_load (evv rfl) (by rfl) (by rfl)) rfl rfl ?_); refine o_nil ?_
              refine h_one (i := 3) (by kernel_rfl) rfl (Ent.nil _) ?_
              ((refine o_call rfl _ (Ent.refl _) (inText_l _ (by omega)) rfl ?_; rintro _ _ ⟨rfl, rfl⟩)); refine o_nil ?_
              refine h_one (i := 5) (by kernel_rfl) rfl (Ent.nil _) ?_
              ((refine o_call rfl _ (Ent.refl _) inNum_l rfl ?_; rintro _ _ ⟨rfl, rfl⟩)); refine o_nil ?_
              (refine h_give (i := 6) (by kernel_rfl) rfl (g_min2 (evv rfl) (evv rfl)) rfl rfl ?_)
              (refine h_giveN (i := 7) (by kernel_rfl) rfl (g_conv TyU.h TyU.h (evv rfl)) (by simp only [inR]; omega) rfl ?_)
              refine h_one (i := 9) (by kernel_rfl) rfl (Ent.nil _) ?_
              ((refine o_call rfl _ (Ent.refl _) inDigest_l rfl ?_; rintro _ _ ⟨rfl, rfl⟩)); refine o_nil ?_
              refine h_one (i := 10) (by kernel_rfl) rfl (Ent.nil _) ?_
              (refine o_give (g_buildX (is := [0, 1, 2]) rfl rfl (show cellsL _ = ((Go.Value.string { data := #[] }) :: (Go.Value.int Go.IntKind.i64 0) :: bys (List.replicate 32 0)) from rfl)) rfl rfl ?_); refine o_nil ?_
              refine h_one (i := 11) (by kernel_rfl) rfl (Ent.nil _) ?_
              (refine o_litS rfl (by rfl) inferInstance (by rfl) rfl (fun _ => ?_)); refine o_nil ?_
              refine h_one (i := 12) (by kernel_rfl) rfl (Ent.nil _) ?_
              (refine o_appF (evv rfl) (evv rfl) (by rfl) (by rfl) (by rfl) (by (try simp only [bsOf, List.length_append, List.length_cons, List.length_nil, List.length_take, List.length_drop]); omega) rfl (fun _ => ?_)); refine o_nil ?_
              (refine h_give (i := 13) (by kernel_rfl) rfl (g_fld (evv rfl)) rfl rfl ?_)
              refine h_one (i := 14) (by kernel_rfl) rfl (Ent.nil _) ?_
              (refine o_store1 (evv rfl) (evv rfl) (by rfl) (by rfl) (by rfl) ?_); refine o_nil ?_
              refine h_done (by kernel_rfl) (Ent.nil _) ?_
              exact c_cut (by assumption) (by repeat (first | exact trivial | refine ⟨rfl, ?_⟩ | refine envsub_v rfl (by first | rfl | (refine int_eq ?_; first | omega | (simp; omega) | (simp; done)) | (refine bool_eq ?_; first | (simp [*]; done) | (simp; done)) | (refine str_eq ?_; simp; done) | (refine ptr_eq ?_; omega) | fail) ?_)) ((by rw [hk9]; exact Lay.ent))
            · ((refine o_call rfl _ (Ent.refl _) (inText_l _ (by omega)) rfl ?_; rintro _ _ ⟨rfl, rfl⟩)); refine o_nil ?_
              refine h_two (i := 1) (j := 5) (by kernel_rfl) rfl rfl (Ent.nil _) ?_ ?_
              · (refine o_give (g_load (evv rfl) (by rfl) (by rfl)) rfl rfl ?_); refine o_nil ?_
                refine h_one (i := 5) (by kernel_rfl) rfl (Ent.nil _) ?_
                ((refine o_call rfl _ (Ent.refl _) inNum_l rfl ?_; rintro _ _ ⟨rfl, rfl⟩)); refine o_nil ?_
                (refine h_give (i := 6) (by kernel_rfl) rfl (g_min2 (evv rfl) (evv rfl)) rfl rfl ?_)
                (refine h_giveN (i := 7) (by kernel_rfl) rfl (g_conv TyU.h TyU.h (evv rfl)) (by simp only [inR]; omega) rfl ?_)
                refine h_one (i := 9) (by kernel_rfl) rfl (Ent.nil _) ?_
                ((refine o_call rfl _ (Ent.refl _) inDigest_l rfl ?_; rintro _ _ ⟨rfl, rfl⟩)); refine o_nil ?_
                refine h_one (i := 10) (by kernel_rfl) rfl (Ent.nil _) ?_
                (refine o_give (g_buildX (is := [0, 1, 2]) rfl rfl (show cellsL _ = ((Go.Value.string { data := #[] }) :: (Go.Value.int Go.IntKind.i64 0) :: bys (List.replicate 32 0)) from rfl)) rfl rfl ?_); refine o_nil ?_
                refine h_one (i := 11) (by kernel_rfl) rfl (Ent.nil _) ?_
                (refine o_litS rfl (by rfl) inferInstance (by rfl) rfl (fun _ => ?_)); refine o_nil ?_
                refine h_one (i := 12) (by kernel_rfl) rfl (Ent.nil _) ?_
                (refine o_appF (evv rfl) (evv rfl) (by rfl) (by rfl) (by rfl) (by (try simp only [bsOf, List.length_append, List.length_cons, List.length_nil, List.length_take, List.length_drop]); omega) rfl (fun _ => ?_)); refine o_nil ?_
                (refine h_give (i := 13) (by kernel_rfl) rfl (g_fld (evv rfl)) rfl rfl ?_)
                refine h_one (i := 14) (by kernel_rfl) rfl (Ent.nil _) ?_
                (refine o_store1 (evv rfl) (evv rfl) (by rfl) (by rfl) (by rfl) ?_); refine o_nil ?_
                refine h_done (by kernel_rfl) (Ent.nil _) ?_
                exact c_cut (by assumption) (by repeat (first | exact trivial | refine ⟨rfl, ?_⟩ | refine envsub_v rfl (by first | rfl | (refine int_eq ?_; first | omega | (simp; omega) | (simp; done)) | (refine bool_eq ?_; first | (simp [*]; done) | (simp; done)) | (refine str_eq ?_; simp; done) | (refine ptr_eq ?_; omega) | fail) ?_)) ((by rw [hk9]; exact Lay.ent))
              · ((refine o_call rfl _ (Ent.refl _) inNum_l rfl ?_; rintro _ _ ⟨rfl, rfl⟩)); refine o_nil ?_
                (refine h_give (i := 6) (by kernel_rfl) rfl (g_min2 (evv rfl) (evv rfl)) rfl rfl ?_)
                (refine h_giveN (i := 7) (by kernel_rfl) rfl (g_conv TyU.h TyU.h (evv rfl)) (by simp only [inR]; omega) rfl ?_)
                refine h_two (i := 1) (j := 9) (by kernel_rfl) rfl rfl (Ent.nil _) ?_ ?_
                · (refine o_give (g_load (evv rfl) (by rfl) (by rfl)) rfl rfl ?_); refine o_nil ?_
                  refine h_one (i := 9) (by kernel_rfl) rfl (Ent.nil _) ?_
                  ((refine o_call rfl _ (Ent.refl _) inDigest_l rfl ?_; rintro _ _ ⟨rfl, rfl⟩)); refine o_nil ?_
                  refine h_one (i := 10) (by kernel_rfl) rfl (Ent.nil _) ?_
                  (refine o_give (g_buildX (is := [0, 1, 2]) rfl rfl (show cellsL _ = ((Go.Value.string { data := #[] }) :: (Go.Value.int Go.IntKind.i64 0) :: bys (List.replicate 32 0)) from rfl)) rfl rfl ?_); refine o_nil ?_
                  refine h_one (i := 11) (by kernel_rfl) rfl (Ent.nil _) ?_
                  (refine o_litS rfl (by rfl) inferInstance (by rfl) rfl (fun _ => ?_)); refine o_nil ?_
                  refine h_one (i := 12) (by kernel_rfl) rfl (Ent.nil _) ?_
                  (refine o_appF (evv rfl) (evv rfl) (by rfl) (by rfl) (by rfl) (by (try simp only [bsOf, List.length_append, List.length_cons, List.length_nil, List.length_take, List.length_drop]); omega) rfl (fun _ => ?_)); refine o_nil ?_
                  (refine h_give (i := 13) (by kernel_rfl) rfl (g_fld (evv rfl)) rfl rfl ?_)
                  refine h_one (i := 14) (by kernel_rfl) rfl (Ent.nil _) ?_
                  (refine o_store1 (evv rfl) (evv rfl) (by rfl) (by rfl) (by rfl) ?_); refine o_nil ?_
                  refine h_done (by kernel_rfl) (Ent.nil _) ?_
                  exact c_cut (by assumption) (by repeat (first | exact trivial | refine ⟨rfl, ?_⟩ | refine envsub_v rfl (by first | rfl | (refine int_eq ?_; first | omega | (simp; omega) | (simp; done)) | (refine bool_eq ?_; first | (simp [*]; done) | (simp; done)) | (refine str_eq ?_; simp; done) | (refine ptr_eq ?_; omega) | fail) ?_)) ((by rw [hk9]; exact Lay.ent))
                · ((refine o_call rfl _ (Ent.refl _) inDigest_l rfl ?_; rintro _ _ ⟨rfl, rfl⟩)); refine o_nil ?_
                  refine h_two (i := 1) (j := 10) (by kernel_rfl) rfl rfl (Ent.nil _) ?_ ?_
                  · (refine o_give (g_load (evv rfl) (by rfl) (by rfl)) rfl rfl ?_); refine o_nil ?_
                    refine h_one (i := 10) (by kernel_rfl) rfl (Ent.nil _) ?_
                    (refine o_give (g_buildX (is := [0, 1, 2]) rfl rfl (show cellsL _ = ((Go.Value.string { data := #[] }) :: (Go.Value.int Go.IntKind.i64 0) :: bys (List.replicate 32 0)) from rfl)) rfl rfl ?_); refine o_nil ?_
                    refine h_one (i := 11) (by kernel_rfl) rfl (Ent.nil _) ?_
                    (refine o_litS rfl (by rfl) inferInstance (by rfl) rfl (fun _ => ?_)); refine o_nil ?_
                    refine h_one (i := 12) (by kernel_rfl) rfl (Ent.nil _) ?_
                    (refine o_appF (evv rfl) (evv rfl) (by rfl) (by rfl) (by rfl) (by (try simp only [bsOf, List.length_append, List.length_cons, List.length_nil, List.length_take, List.length_drop]); omega) rfl (fun _ => ?_)); refine o_nil ?_
                    (refine h_give (i := 13) (by kernel_rfl) rfl (g_fld (evv rfl)) rfl rfl ?_)
                    refine h_one (i := 14) (by kernel_rfl) rfl (Ent.nil _) ?_
                    (refine o_store1 (evv rfl) (evv rfl) (by rfl) (by rfl) (by rfl) ?_); refine o_nil ?_
                    refine h_done (by kernel_rfl) (Ent.nil _) ?_
                    exact c_cut (by assumption) (by repeat (first | exact trivial | refine ⟨rfl, ?_⟩ | refine envsub_v rfl (by first | rfl | (refine int_eq ?_; first | omega | (simp; omega) | (simp; done)) | (refine bool_eq ?_; first | (simp [*]; done) | (simp; done)) | (refine str_eq ?_; simp; done) | (refine ptr_eq ?_; omega) | fail) ?_)) ((by rw [hk9]; exact Lay.ent))
                  · (refine o_give (g_buildX (is := [0, 1, 2]) rfl rfl (show cellsL _ = ((Go.Value.string { data := #[] }) :: (Go.Value.int Go.IntKind.i64 0) :: bys (List.replicate 32 0)) from rfl)) rfl rfl ?_); refine o_nil ?_
                    refine h_two (i := 1) (j := 11) (by kernel_rfl) rfl rfl (Ent.nil _) ?_ ?_
                    · (refine o_give (g_load (evv rfl) (by rfl) (by rfl)) rfl rfl ?_); refine o_nil ?_
                      refine h_one (i := 11) (by kernel_rfl) rfl (Ent.nil _) ?_
                      (refine o_litS rfl (by rfl) inferInstance (by rfl) rfl (fun _ => ?_)); refine o_nil ?_
                      refine h_one (i := 12) (by kernel_rfl) rfl (Ent.nil _) ?_
                      (refine o_appF (evv rfl) (evv rfl) (by rfl) (by rfl) (by rfl) (by (try simp only [bsOf, List.length_append, List.length_cons, List.length_nil, List.length_take, List.length_drop]); omega) rfl (fun _ => ?_)); refine o_nil ?_
                      (refine h_give (i := 13) (by kernel_rfl) rfl (g_fld (evv rfl)) rfl rfl ?_)
                      refine h_one (i := 14) (by kernel_rfl) rfl (Ent.nil _) ?_
                      (refine o_store1 (evv rfl) (evv rfl) (by rfl) (by rfl) (by rfl) ?_); refine o_nil ?_
                      refine h_done (by kernel_rfl) (Ent.nil _) ?_
                      exact c_cut (by assumption) (by repeat (first | exact trivial | refine ⟨rfl, ?_⟩ | refine envsub_v rfl (by first | rfl | (refine int_eq ?_; first | omega | (simp; omega) | (simp; done)) | (refine bool_eq ?_; first | (simp [*]; done) | (simp; done)) | (refine str_eq ?_; simp; done) | (refine ptr_eq ?_; omega) | fail) ?_)) ((by rw [hk9]; exact Lay.ent))
                    · (refine o_litS rfl (by rfl) inferInstance (by rfl) rfl (fun _ => ?_)); refine o_nil ?_
                      refine h_one (i := 1) (by kernel_rfl) rfl (Ent.nil _) ?_
                      (refine o_give (g_load (evv rfl) (by rfl) (by rfl)) rfl rfl ?_); refine o_nil ?_
                      refine h_one (i := 12) (by kernel_rfl) rfl (Ent.nil _) ?_
                      (refine o_appF (evv rfl) (evv rfl) (by rfl) (by rfl) (by rfl) (by (try simp only [bsOf, List.length_append, List.length_cons, List.length_nil, List.length_take, List.length_drop]); omega) rfl (fun _ => ?_)); refine o_nil ?_
                      (refine h_give (i := 13) (by kernel_rfl) rfl (g_fld (evv rfl)) rfl rfl ?_)
                      refine h_one (i := 14) (by kernel_rfl) rfl (Ent.nil _) ?_
                      (refine o_store1 (evv rfl) (evv rfl) (by rfl) (by rfl) (by rfl) ?_); refine o_nil ?_
                      refine h_done (by kernel_rfl) (Ent.nil _) ?_
                      exact c_cut (by assumption) (by repeat (first | exact trivial | refine ⟨rfl, ?_⟩ | refine envsub_v rfl (by first | rfl | (refine int_eq ?_; first | omega | (simp; omega) | (simp; done)) | (refine bool_eq ?_; first | (simp [*]; done) | (simp; done)) | (refine str_eq ?_; simp; done) | (refine ptr_eq ?_; omega) | fail) ?_)) ((by rw [hk9]; exact Lay.ent))
          intro nv'
          dsimp only [List.cons_append, List.nil_append]
          refine c_blk ?_
          refine c_code ?_
          refine r_region (id := 15) ?_
          refine o_giveN (g_bin (evv rfl) (evv rfl) (by rfl)) (by simp only [inR]; omega) rfl ?_
          refine o_give (g_move (evv rfl)) rfl rfl ?_
          refine o_nil ?_
          refine c_loop ((k + 1, acc ++ [(itmG s').1]), (itmG s').2, nv') ?_ ?_ (by repeat (first | exact trivial | refine ⟨rfl, ?_⟩ | refine envsub_v rfl (by first | rfl | (refine int_eq ?_; first | omega | (simp; omega) | (simp; done)) | (refine bool_eq ?_; first | (simp [*]; done) | (simp; done)) | (refine str_eq ?_; simp; done) | (refine ptr_eq ?_; omega) | fail) ?_)) ?_ <;> (try dsimp only)
          · exact ⟨by omega, by simp [hal], by rw [hm2]; exact hT⟩
          · omega
          · exact Lay.ent
        · have hkN : C - k = 0 := by omega
          rw [hkN, show itmsT acc 0 s' = (acc, s') by simp [itmsT, itmsGo]] at hT
          rw [hT]
          refine r_exit rfl ?_
          refine c_blk ?_
          refine c_code ?_
          refine r_seq ?_
          refine r_region (id := 16) ?_
          refine o_give (g_loadF (evv rfl) (by rfl) (by rfl)) rfl rfl ?_
          refine o_storeW (evv rfl) (evv rfl) (by first | rfl | assumption | exact LenC.h _ | (simp [bys, *]; done) | fail) (by first | (intro _ _ _; exact bys_one _) | exact AllOne.h | (intro _ _ _ u hu; simp at hu; rcases hu with rfl | rfl | rfl | rfl | rfl | rfl | rfl | rfl <;> rfl) | fail) (by first | rfl | exact (LenC.h _).trans rfl | (simp [bys, *]; done) | (simp only [bys, List.length_map, *]; rfl) | fail) ?_
          refine o_nil ?_
          refine c_code ?_
          first | refine r_retC (rs := [.cell 2 27]) rfl (by first | exact ro_agg rfl rfl (by first | rfl | exact LenC.h _ | (simp [bys, *]; done)) ro_nil | exact ro_cell rfl rfl rfl ro_nil) _ (((Lay.ent (L' := sl nv (frow itmC 34 54 acc) :: inA i s' :: F)).trans (Ent.nilsl 52 32))) ?_ | refine c_endC (rs := [.cell 2 27]) rfl (by first | exact ro_agg rfl rfl (by first | rfl | exact LenC.h _ | (simp [bys, *]; done)) ro_nil | exact ro_cell rfl rfl rfl ro_nil) _ (((Lay.ent (L' := sl nv (frow itmC 34 54 acc) :: inA i s' :: F)).trans (Ent.nilsl 52 32))) ?_
          exact ⟨_, nv, rfl, rfl⟩
      · have hr : readN s = (⟨((min (numR s).1 9 : Nat) : Int), [], 0, [], []⟩, (numR s).2) := by
          unfold readN; dsimp only; rw [if_neg h1, if_neg h2, if_neg h3]
        have e1 : min ((numR s).1 : Int) 9 = ((min (numR s).1 9 : Nat) : Int) := by omega
        rw [hr]
        refine fn_intro Try.func23 rfl Try.ntmps23 rfl (fun W0 => ?_)
        simp only [argE]
        refine r_seq ?_
        refine r_region (id := 0) ?_
        refine o_alloc rfl rfl (fun _ => ?_)
        refine o_nil ?_
        refine c_code ?_
        refine r_seq ?_
        refine r_region (id := 1) ?_
        refine o_give (g_move (evv rfl)) rfl rfl ?_
        (refine o_call rfl _ (Ent.refl _) inNum_l rfl ?_; rintro _ _ ⟨rfl, rfl⟩)
        refine o_give (g_min2 (evv rfl) (evv rfl)) rfl rfl ?_
        refine o_giveN (g_conv TyU.h TyU.h (evv rfl)) (by simp only [inR]; omega) rfl ?_
        refine o_give (g_buildC rfl (by rfl)) rfl rfl ?_
        refine o_alloc rfl rfl (fun _ => ?_)
        refine o_storeW (evv rfl) (evv rfl) (by first | rfl | assumption | exact LenC.h _ | (simp [bys, *]; done) | fail) (by first | (intro _ _ _; exact bys_one _) | exact AllOne.h | (intro _ _ _ u hu; simp at hu; rcases hu with rfl | rfl | rfl | rfl | rfl | rfl | rfl | rfl <;> rfl) | fail) (by first | rfl | exact (LenC.h _).trans rfl | (simp [bys, *]; done) | (simp only [bys, List.length_map, *]; rfl) | fail) ?_
        refine o_nil ?_
        refine c_code ?_
        refine r_seq ?_
        refine r_seq ?_
        rw [e1]
        generalize min (numR s).1 9 = K at *
        refine r_region (id := 2) ?_
        refine o_give (g_fld (evv rfl)) rfl rfl ?_
        refine o_give (g_load (evv rfl) (by rfl) (by rfl)) rfl rfl ?_
        refine o_nil ?_
        refine c_code ?_
        refine r_block ?_
        refine r_seq ?_
        refine r_region (id := 3) ?_
        refine o_give (g_bin (evv rfl) (evv rfl) (by rfl)) rfl rfl ?_
        refine o_give (g_assign (evv rfl)) rfl rfl ?_
        refine o_nil ?_
        refine c_code ?_
        rw [decide_eq_false (show ¬ (K : Int) = 1 by omega)]
        refine r_cond_false rfl ?_
        refine r_seq ?_
        refine r_region (id := 5) ?_
        refine o_give (g_bin (evv rfl) (evv rfl) (by rfl)) rfl rfl ?_
        refine o_give (g_assign (evv rfl)) rfl rfl ?_
        refine o_nil ?_
        refine c_code ?_
        rw [decide_eq_false (show ¬ (K : Int) = 2 by omega)]
        refine r_cond_false rfl ?_
        refine r_seq ?_
        refine r_region (id := 11) ?_
        refine o_give (g_bin (evv rfl) (evv rfl) (by rfl)) rfl rfl ?_
        refine o_give (g_assign (evv rfl)) rfl rfl ?_
        refine o_nil ?_
        refine c_code ?_
        rw [decide_eq_false (show ¬ (K : Int) = 3 by omega)]
        refine r_cond_false rfl ?_
        refine r_skip ?_
        refine c_blk ?_
        refine c_code ?_
        refine r_seq ?_
        refine r_region (id := 16) ?_
        refine o_give (g_loadF (evv rfl) (by rfl) (by rfl)) rfl rfl ?_
        refine o_storeW (evv rfl) (evv rfl) (by first | rfl | assumption | exact LenC.h _ | (simp [bys, *]; done) | fail) (by first | (intro _ _ _; exact bys_one _) | exact AllOne.h | (intro _ _ _ u hu; simp at hu; rcases hu with rfl | rfl | rfl | rfl | rfl | rfl | rfl | rfl <;> rfl) | fail) (by first | rfl | exact (LenC.h _).trans rfl | (simp [bys, *]; done) | (simp only [bys, List.length_map, *]; rfl) | fail) ?_
        refine o_nil ?_
        refine c_code ?_
        first | refine r_retC (rs := [.cell 2 27]) rfl (by first | exact ro_agg rfl rfl (by first | rfl | exact LenC.h _ | (simp [bys, *]; done)) ro_nil | exact ro_cell rfl rfl rfl ro_nil) _ (((Lay.ent (L' := inA i (numR s).2 :: F)).trans ((Ent.nilsl 54 34).trans (Ent.nilsl 52 32)))) ?_ | refine c_endC (rs := [.cell 2 27]) rfl (by first | exact ro_agg rfl rfl (by first | rfl | exact LenC.h _ | (simp [bys, *]; done)) ro_nil | exact ro_cell rfl rfl rfl ro_nil) _ (((Lay.ent (L' := inA i (numR s).2 :: F)).trans ((Ent.nilsl 54 34).trans (Ent.nilsl 52 32)))) ?_
        exact ⟨_, _, rfl, rfl⟩
end VK
