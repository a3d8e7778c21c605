/- The acks of a first primary. Conditions: few replicas. -/
import Derived.Test.YtmjmlmjcfekphaaCli3
import Derived.Test.YtmjmlmjcfekphaaMake
namespace VK
open Go Go.Proofs
set_option linter.unusedSimpArgs false
set_option linter.unusedVariables false
set_option maxRecDepth 100000
set_option maxHeartbeats 40000000
theorem reset_c (L : List Atom) (n : Int) (b : Nat) (h0 : 1 ≤ n) (h1 : n ≤ 100) : Fn Try.prog 40 [.pointer (some ⟨b, 0, none⟩)] (blk b ⟨coreC n (.slice none 0 0) 8, 94⟩ :: L) fun w L' => ∃ a xs, L' = blk b ⟨coreC n a 2, 94⟩ :: sl a (mrow i64v 2 xs) :: L := by
  refine fn_intro Try.func40 rfl Try.ntmps40 rfl (fun W0 => ?_)
  simp only [argE]
  refine r_seq ?_
  refine r_region (id := 0) ?_
  refine o_give (g_move (evv rfl)) rfl rfl ?_
  refine o_give (g_move (evv rfl)) rfl rfl ?_
  refine o_give (g_nil (evv rfl)) rfl rfl ?_
  refine o_give (g_fld (evv rfl)) rfl rfl ?_
  refine o_give (g_fld (evv rfl)) rfl rfl ?_
  refine o_give (g_load (evv rfl) (by rfl) (by rfl)) rfl rfl ?_
  refine o_makeI (evv rfl) (evv rfl) (by omega) (by omega) rfl rfl (by decide) rfl fun a => ?_
  refine o_give (g_nil (evv rfl)) rfl rfl ?_
  refine o_give (g_fld (evv rfl)) rfl rfl ?_
  refine o_give (g_fld (evv rfl)) rfl rfl ?_
  refine o_store1 (evv rfl) (evv rfl) (by rfl) (by rfl) (by rfl) ?_
  refine o_nil ?_
  refine c_code ?_
  refine r_seq ?_
  have hpos : 0 < (List.replicate n.toNat (0 : Int)).length := by simp; omega
  first | refine r_ent (sl a (mrow i64v 2 (List.replicate n.toNat 0)) :: blk b ⟨coreC n a 8, 94⟩ :: L) (Ent.refl _) ?_ | refine c_ent (sl a (mrow i64v 2 (List.replicate n.toNat 0)) :: blk b ⟨coreC n a 8, 94⟩ :: L) (Ent.refl _) ?_
  repeat (first | refine r_seq ?_ | refine c_code ?_ | refine c_blk ?_ | refine r_block ?_ | refine r_skip ?_)
  refine r_held (id := 1) ([blk b ⟨coreC n a 8, 94⟩]) Mixed.h ?_
  refine h_give (i := 0) (by kernel_rfl) rfl (g_move (evv rfl)) rfl rfl ?_
  refine h_give (i := 1) (by kernel_rfl) rfl (g_nil (evv rfl)) rfl rfl ?_
  refine h_give (i := 2) (by kernel_rfl) rfl (g_fld (evv rfl)) rfl rfl ?_
  refine h_give (i := 3) (by kernel_rfl) rfl (g_fld (evv rfl)) rfl rfl ?_
  refine h_give (i := 4) (by kernel_rfl) rfl (g_load (evv rfl) (by rfl) (by rfl)) rfl rfl ?_
  refine h_give (i := 5) (by kernel_rfl) rfl (g_move (evv rfl)) rfl rfl ?_
  refine h_give (i := 6) (by kernel_rfl) rfl (g_nil (evv rfl)) rfl rfl ?_
  refine h_give (i := 7) (by kernel_rfl) rfl (g_fld (evv rfl)) rfl rfl ?_
  refine h_give (i := 8) (by kernel_rfl) rfl (g_fld (evv rfl)) rfl rfl ?_
  refine h_give (i := 9) (by kernel_rfl) rfl (g_load (evv rfl) (by rfl) (by rfl)) rfl rfl ?_
  refine h_give (i := 10) (by kernel_rfl) rfl (g_move (evv rfl)) rfl rfl ?_
  refine h_one (i := 11) (by kernel_rfl) rfl ((Lay.ent)) ?_
  (refine o_call rfl _ Ent.swap (clast_c _ n b a 8) rfl ?_; rintro _ _ ⟨rfl, hLz⟩; obtain rfl := hLz.symm; clear hLz)
  refine o_nil ?_
  refine h_one (i := 12) (by kernel_rfl) rfl ((Lay.ent)) ?_
  refine o_give (g_idxMN (evv rfl) (evv rfl) (by rfl) (by first | omega | (have := of_decide_eq_true hg; omega) | (simp at hg; omega) | (simp only [List.length_set, List.length_append, List.length_cons, List.length_nil, List.length_map, List.length_take, List.length_drop, List.length_replicate]; omega))) rfl rfl ?_
  refine o_nil ?_
  refine h_one (i := 13) (by kernel_rfl) rfl ((Lay.ent)) ?_
  refine o_storeM _ (evv rfl) (evv rfl) rfl (by rfl) (by first | omega | (simp; omega) | fail) ?_
  refine o_nil ?_
  refine h_done (by kernel_rfl) ((Lay.ent)) ?_
  refine c_code ?_
  refine r_region (id := 2) ?_
  refine o_give (g_move (evv rfl)) rfl rfl ?_
  refine o_give (g_nil (evv rfl)) rfl rfl ?_
  refine o_give (g_fld (evv rfl)) rfl rfl ?_
  refine o_give (g_fld (evv rfl)) rfl rfl ?_
  refine o_store1 (evv rfl) (evv rfl) (by rfl) (by rfl) (by rfl) ?_
  refine o_nil ?_
  first | refine r_ret (rs := []) rfl rfl _ ((Ent.refl _)) ?_ | refine c_end (rs := []) rfl rfl _ ((Ent.refl _)) ?_
  exact ⟨a, _, rfl⟩
end VK
