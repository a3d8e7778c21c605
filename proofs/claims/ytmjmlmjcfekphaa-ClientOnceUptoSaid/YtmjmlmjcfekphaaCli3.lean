/- A core is begun. Conditions: none. -/
import Derived.Test.YtmjmlmjcfekphaaCli2
import Derived.Test.YtmjmlmjcfekphaaVDig
namespace VK
open Go Go.Proofs
set_option linter.unusedSimpArgs false
set_option linter.unusedVariables false
set_option maxRecDepth 100000
set_option maxHeartbeats 40000000
/-- the first replica's core ahead of any deed -/
abbrev coreZ (n : Int) (ac : Value) (left : Int) : List Value :=
  .int .i64 0 :: .int .i64 n :: .int .i64 0 :: .int .i64 0 :: .int .i64 0 :: .int .i64 0 :: (bys (List.replicate 32 0) ++ .slice none 0 0 :: .int .i64 0 :: .int .i64 left :: ac :: .slice none 0 0 :: .slice none 0 0 :: .bool false :: .int .i64 (-1) :: [])
/-- the same with what it says -/
abbrev coreC (n : Int) (ac : Value) (left : Int) : List Value :=
  .int .i64 0 :: .int .i64 n :: .int .i64 0 :: .int .i64 0 :: .int .i64 0 :: .int .i64 0 :: (bys (List.replicate 32 0) ++ .slice none 0 0 :: .int .i64 0 :: .int .i64 left :: ac :: .slice none 0 0 :: .slice none 0 0 :: .bool false :: .int .i64 (-1) :: .slice none 0 0 :: .int .i64 0 :: .int .i64 0 :: [])
theorem start_c (L : List Atom) (n : Int) : Fn Try.prog 37 [agg (coreZ n (.slice none 0 0) 8)] L fun w L' => ∃ b, w = .pointer (some ⟨b, 0, none⟩) ∧ L' = blk b ⟨coreC n (.slice none 0 0) 8, 94⟩ :: L := by
  refine fn_intro Try.func37 rfl Try.ntmps37 rfl (fun W0 => ?_)
  simp only [argE]
  refine r_seq ?_
  refine r_region (id := 0) ?_
  refine o_boxA (evv rfl) rfl (fun _ => ?_)
  refine o_give (g_assign (evv rfl)) rfl rfl ?_
  refine o_nil ?_
  refine c_code ?_
  refine r_seq ?_
  refine r_region (id := 1) ?_
  refine o_give (g_fld (evv rfl)) rfl rfl ?_
  refine o_give (g_load (evv rfl) (by rfl) (by rfl)) rfl rfl ?_
  (refine o_call rfl _ (Ent.refl _) (ClE_nil _) rfl ?_; rintro _ _ ⟨rfl, hLz⟩; obtain rfl := hLz.symm; clear hLz)
  refine o_give (g_fld (evv rfl)) rfl rfl ?_
  refine o_store1 (evv rfl) (evv rfl) (by rfl) (by rfl) (by rfl) ?_
  refine o_nil ?_
  refine c_code ?_
  refine r_seq ?_
  refine r_region (id := 2) ?_
  refine o_give (g_fld (evv rfl)) rfl rfl ?_
  refine o_give (g_load (evv rfl) (by rfl) (by rfl)) rfl rfl ?_
  (refine o_call rfl _ (Ent.refl _) (ClI_nil _) rfl ?_; rintro _ _ ⟨rfl, hLz⟩; obtain rfl := hLz.symm; clear hLz)
  refine o_give (g_fld (evv rfl)) rfl rfl ?_
  refine o_store1 (evv rfl) (evv rfl) (by rfl) (by rfl) (by rfl) ?_
  refine o_nil ?_
  refine c_code ?_
  refine r_seq ?_
  refine r_region (id := 3) ?_
  refine o_give (g_fld (evv rfl)) rfl rfl ?_
  refine o_give (g_load (evv rfl) (by rfl) (by rfl)) rfl rfl ?_
  (refine o_call rfl _ (Ent.refl _) (ClB_nil _) rfl ?_; rintro _ _ ⟨rfl, hLz⟩; obtain rfl := hLz.symm; clear hLz)
  refine o_give (g_fld (evv rfl)) rfl rfl ?_
  refine o_store1 (evv rfl) (evv rfl) (by rfl) (by rfl) (by rfl) ?_
  refine o_nil ?_
  refine c_code ?_
  refine r_seq ?_
  refine r_region (id := 4) ?_
  refine o_give (g_fld (evv rfl)) rfl rfl ?_
  refine o_give (g_load (evv rfl) (by rfl) (by rfl)) rfl rfl ?_
  (refine o_call rfl _ (Ent.refl _) (ClV_nil _) rfl ?_; rintro _ _ ⟨rfl, hLz⟩; obtain rfl := hLz.symm; clear hLz)
  refine o_give (g_fld (evv rfl)) rfl rfl ?_
  refine o_store1 (evv rfl) (evv rfl) (by rfl) (by rfl) (by rfl) ?_
  refine o_nil ?_
  refine c_code ?_
  refine r_seq ?_
  refine r_region (id := 5) ?_
  refine o_give (g_loadF (evv rfl) (by rfl) (by rfl)) rfl rfl ?_
  refine o_give (g_buildC rfl (by rfl)) rfl rfl ?_
  refine o_boxA (evv rfl) rfl (fun _ => ?_)
  refine o_give (g_assign (evv rfl)) rfl rfl ?_
  refine o_nil ?_
  refine c_code ?_
  rename_i q b
  first | refine r_ret (rs := [.tmp 2]) rfl rfl _ ((Ent.cons (Lay.ent (L' := L)))) ?_ | refine c_end (rs := [.tmp 2]) rfl rfl _ ((Ent.cons (Lay.ent (L' := L)))) ?_
  exact ⟨b, rfl, rfl⟩
theorem clast_c (L : List Atom) (n : Int) (b : Nat) (ac : Value) (left : Int) : Fn Try.prog 49 [.pointer (some ⟨b, 0, none⟩)] (blk b ⟨coreC n ac left, 94⟩ :: L) fun w L' => w = .int .i64 0 ∧ L' = blk b ⟨coreC n ac left, 94⟩ :: L := by
  refine fn_intro Try.func49 rfl Try.ntmps49 rfl (fun W0 => ?_)
  simp only [argE]
  refine r_seq ?_
  refine r_region (id := 0) ?_
  refine o_give (g_assign (evv rfl)) rfl rfl ?_
  refine o_nil ?_
  refine c_code ?_
  refine r_seq ?_
  repeat (first | refine r_seq ?_ | refine c_code ?_ | refine c_blk ?_ | refine r_block ?_ | refine r_skip ?_)
  refine r_held (id := 1) (blk b ⟨coreC n ac left, 94⟩ :: L) Mixed.h ?_
  refine h_give (i := 0) (by kernel_rfl) rfl (g_move (evv rfl)) rfl rfl ?_
  refine h_give (i := 1) (by kernel_rfl) rfl (g_nil (evv rfl)) rfl rfl ?_
  refine h_give (i := 2) (by kernel_rfl) rfl (g_fld (evv rfl)) rfl rfl ?_
  refine h_give (i := 3) (by kernel_rfl) rfl (g_fld (evv rfl)) rfl rfl ?_
  refine h_give (i := 4) (by kernel_rfl) rfl (g_load (evv rfl) (by rfl) (by rfl)) rfl rfl ?_
  refine h_give (i := 5) (by kernel_rfl) rfl (g_move (evv rfl)) rfl rfl ?_
  refine h_give (i := 6) (by kernel_rfl) rfl (g_nil (evv rfl)) rfl rfl ?_
  refine h_give (i := 7) (by kernel_rfl) rfl (g_fld (evv rfl)) rfl rfl ?_
  refine h_give (i := 8) (by kernel_rfl) rfl (g_fld (evv rfl)) rfl rfl ?_
  refine h_give (i := 9) (by kernel_rfl) rfl (g_load (evv rfl) (by rfl) (by rfl)) rfl rfl ?_
  refine h_give (i := 10) (by kernel_rfl) rfl (g_len TyU.h (evv rfl)) rfl rfl ?_
  refine h_giveN (i := 11) (by kernel_rfl) rfl (g_bin (evv rfl) (evv rfl) (by rfl)) (by simp only [inR]; omega) rfl ?_
  refine h_give (i := 12) (by kernel_rfl) rfl (g_assign (evv rfl)) rfl rfl ?_
  refine h_done (by kernel_rfl) (Lay.ent) ?_
  refine c_code ?_
  first | refine r_ret (rs := [.tmp 2]) rfl rfl _ (Ent.refl _) ?_ | refine c_end (rs := [.tmp 2]) rfl rfl _ (Ent.refl _) ?_
  exact ⟨rfl, rfl⟩
theorem cprim_c (L : List Atom) (n : Int) (b : Nat) (h0 : 1 ≤ n) (h1 : n ≤ 100) : Fn Try.prog 39 [.pointer (some ⟨b, 0, none⟩)] (blk b ⟨coreC n (.slice none 0 0) 8, 94⟩ :: L) fun w L' => w = .int .i64 0 ∧ L' = blk b ⟨coreC n (.slice none 0 0) 8, 94⟩ :: L := by
  refine fn_intro Try.func39 rfl Try.ntmps39 rfl (fun W0 => ?_)
  simp only [argE]
  refine r_seq ?_
  refine r_region (id := 0) ?_
  refine o_give (g_assign (evv rfl)) rfl rfl ?_
  refine o_nil ?_
  refine c_code ?_
  refine r_seq ?_
  repeat (first | refine r_seq ?_ | refine c_code ?_ | refine c_blk ?_ | refine r_block ?_ | refine r_skip ?_)
  refine r_held (id := 1) (blk b ⟨coreC n (.slice none 0 0) 8, 94⟩ :: L) Mixed.h ?_
  refine h_give (i := 0) (by kernel_rfl) rfl (g_move (evv rfl)) rfl rfl ?_
  refine h_give (i := 1) (by kernel_rfl) rfl (g_nil (evv rfl)) rfl rfl ?_
  refine h_give (i := 2) (by kernel_rfl) rfl (g_fld (evv rfl)) rfl rfl ?_
  refine h_give (i := 3) (by kernel_rfl) rfl (g_fld (evv rfl)) rfl rfl ?_
  refine h_give (i := 4) (by kernel_rfl) rfl (g_load (evv rfl) (by rfl) (by rfl)) rfl rfl ?_
  refine h_give (i := 5) (by kernel_rfl) rfl (g_move (evv rfl)) rfl rfl ?_
  refine h_give (i := 6) (by kernel_rfl) rfl (g_nil (evv rfl)) rfl rfl ?_
  refine h_give (i := 7) (by kernel_rfl) rfl (g_fld (evv rfl)) rfl rfl ?_
  refine h_give (i := 8) (by kernel_rfl) rfl (g_fld (evv rfl)) rfl rfl ?_
  refine h_give (i := 9) (by kernel_rfl) rfl (g_load (evv rfl) (by rfl) (by rfl)) rfl rfl ?_
  refine h_one (i := 10) (by kernel_rfl) rfl (Lay.ent) ?_
  (refine o_call rfl _ (Ent.refl _) (Primary_0 _ _ (by omega) (by omega)) rfl ?_; rintro _ _ ⟨rfl, hLz⟩; obtain rfl := hLz.symm; clear hLz)
  refine o_nil ?_
  refine h_give (i := 11) (by kernel_rfl) rfl (g_assign (evv rfl)) rfl rfl ?_
  refine h_done (by kernel_rfl) (Lay.ent) ?_
  refine c_code ?_
  first | refine r_ret (rs := [.tmp 2]) rfl rfl _ (Ent.refl _) ?_ | refine c_end (rs := [.tmp 2]) rfl rfl _ (Ent.refl _) ?_
  exact ⟨rfl, rfl⟩
end VK
