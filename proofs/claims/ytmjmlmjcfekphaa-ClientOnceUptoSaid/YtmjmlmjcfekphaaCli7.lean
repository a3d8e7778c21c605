/- What a client of the program sends. Conditions: few replicas. -/
import Derived.Test.YtmjmlmjcfekphaaCli6
namespace VK
open Go Go.Proofs
set_option linter.unusedSimpArgs false
set_option linter.unusedVariables false
set_option maxRecDepth 100000
set_option maxHeartbeats 40000000
def reqM (id : Int) (i : Nat) (ve : Value) : MsgF := ⟨12, 100 + id, i, 0, 0, 0, 0, 0, default, ve, [], 0, false, 0, [], .slice none 0 0⟩
abbrev reqC (id : Int) (i : Nat) (ve : Value) : List Value := .int .i64 12 :: .int .i64 (100 + id) :: .int .i64 (i : Int) :: .int .i64 0 :: .int .i64 0 :: .int .i64 0 :: .int .i64 0 :: .int .i64 0 :: (bys (List.replicate 32 0) ++ ve :: .string ⟨#[]⟩ :: .int .i64 0 :: .bool false :: .int .i64 0 :: .string ⟨#[]⟩ :: .slice none 0 0 :: [])
theorem reqC_eq (id : Int) (i : Nat) (ve : Value) : reqC id i ve = msgC (reqM id i ve) := rfl
def reqL (id : Int) (vs : List Value) : List MsgF := vs.zipIdx.map fun p => reqM id p.2 p.1
theorem reqL_app (id : Int) (vs : List Value) (v : Value) : reqL id (vs ++ [v]) = reqL id vs ++ [reqM id vs.length v] := by
  simp [reqL, List.zipIdx_append]
def reqRom (e : EntS) (vs : List Value) : List (Value × Row) := vs.reverse.map fun v => (v, entR [e])
theorem caddr_c (L : List Atom) (c : Nat) (id n num left : Int) (w : Bool) (o : OpS) (h : 1 ≤ id ∧ id ≤ 8) : Fn Try.prog 23 [.pointer (some ⟨c, 0, none⟩)] (blk c ⟨cliC id n num left w o, 68⟩ :: L) fun v L' => v = .int .i64 (100 + id) ∧ L' = blk c ⟨cliC id n num left w o, 68⟩ :: L := by
  refine fn_intro Try.func23 rfl Try.ntmps23 rfl (fun W0 => ?_)
  simp only [argE]
  refine r_seq ?_
  refine r_region (id := 0) ?_
  refine o_give (g_assign (evv rfl)) rfl rfl ?_
  refine o_nil ?_
  refine c_code ?_
  refine r_seq ?_
  refine r_region (id := 1) ?_
  refine o_give (g_move (evv rfl)) rfl rfl ?_
  refine o_give (g_nil (evv rfl)) rfl rfl ?_
  refine o_give (g_fld (evv rfl)) rfl rfl ?_
  refine o_give (g_load (evv rfl) (by rfl) (by rfl)) rfl rfl ?_
  refine o_giveN (g_bin (evv rfl) (evv rfl) (by rfl)) (by simp only [inR]; omega) rfl ?_
  refine o_give (g_assign (evv rfl)) rfl rfl ?_
  refine o_nil ?_
  refine c_code ?_
  first | refine r_ret (rs := [.tmp 2]) rfl rfl _ (Ent.refl _) ?_ | refine c_end (rs := [.tmp 2]) rfl rfl _ (Ent.refl _) ?_
  exact ⟨rfl, rfl⟩
theorem caddr_l {L : List Atom} {c : Nat} {id n num left : Int} {w : Bool} {o : OpS} {g : Atom → List Atom} [pk : Pick (blk c) L ⟨cliC id n num left w o, 68⟩ g] (h : 1 ≤ id ∧ id ≤ 8) : Fn Try.prog 23 [.pointer (some ⟨c, 0, none⟩)] L fun v L' => v = .int .i64 (100 + id) ∧ L' = g (blk c ⟨cliC id n num left w o, 68⟩) := Fn.lift1 (fun F => caddr_c F c id n num left w o h) pk
theorem req1_c (L : List Atom) (p c : Nat) (node : Nat) (id n num left : Int) (w : Bool) (o : OpS) (h : 1 ≤ id ∧ id ≤ 8) : Fn Try.prog 32 [.int .i64 (node : Int), .pointer (some ⟨p, 0, none⟩)] (blk p ⟨[.pointer (some ⟨c, 0, none⟩)], 24⟩ :: blk c ⟨cliC id n num left w o, 68⟩ :: L) fun v L' => ∃ ve, v = agg (msgC (reqM id node ve)) ∧ L' = sl ve (entR [⟨id, num, o⟩]) :: blk p ⟨[.pointer (some ⟨c, 0, none⟩)], 24⟩ :: blk c ⟨cliC id n num left w o, 68⟩ :: L := by
  refine fn_intro Try.func32 rfl Try.ntmps32 rfl (fun W0 => ?_)
  simp only [argE]
  refine r_seq ?_
  refine r_region (id := 0) ?_
  refine o_alloc (cs := ((Go.Value.int Go.IntKind.i64 0) :: (Go.Value.int Go.IntKind.i64 0) :: (Go.Value.int Go.IntKind.i64 0) :: (Go.Value.int Go.IntKind.i64 0) :: (Go.Value.int Go.IntKind.i64 0) :: (Go.Value.int Go.IntKind.i64 0) :: (Go.Value.int Go.IntKind.i64 0) :: (Go.Value.int Go.IntKind.i64 0) :: (bys (List.replicate 32 0) ++ (Go.Value.slice none 0 0) :: (Go.Value.string { data := #[] }) :: (Go.Value.int Go.IntKind.i64 0) :: (Go.Value.bool false) :: (Go.Value.int Go.IntKind.i64 0) :: (Go.Value.string { data := #[] }) :: (Go.Value.slice none 0 0) :: []))) rfl rfl (fun _ => ?_)
  refine o_nil ?_
  refine c_code ?_
  refine r_seq ?_
  rename_i q
  repeat (first | refine r_seq ?_ | refine c_code ?_ | refine c_blk ?_ | refine r_block ?_ | refine r_skip ?_)
  refine r_cutE (σ := Value) (fun ve => []) [3] (fun ve => blk q ⟨reqC id node ve, 37⟩ :: sl ve (entR [⟨id, num, o⟩]) :: blk p ⟨[.pointer (some ⟨c, 0, none⟩)], 24⟩ :: blk c ⟨cliC id n num left w o, 68⟩ :: L) (by dsimp only [pickE, pick1, lk2, Nat.reduceBEq, Nat.reduceAdd, Nat.zero_add, cond_true, cond_false] <;> exact rfl) ?_ ?_
  · refine r_held (id := 1) ([blk p ⟨[.pointer (some ⟨c, 0, none⟩)], 24⟩, blk c ⟨cliC id n num left w o, 68⟩]) Mixed.h ?_
    (refine h_give (i := 0) (by kernel_rfl) rfl (g_load (evv rfl) (by rfl) (by rfl)) rfl rfl ?_)
    (refine h_give (i := 2) (by kernel_rfl) rfl (g_move (evv rfl)) rfl rfl ?_)
    (refine h_give (i := 3) (by kernel_rfl) rfl (g_load (evv rfl) (by rfl) (by rfl)) rfl rfl ?_)
    (refine h_give (i := 4) (by kernel_rfl) rfl (g_nil (evv rfl)) rfl rfl ?_)
    (refine h_give (i := 5) (by kernel_rfl) rfl (g_fld (evv rfl)) rfl rfl ?_)
    (refine h_give (i := 6) (by kernel_rfl) rfl (g_load (evv rfl) (by rfl) (by rfl)) rfl rfl ?_)
    (refine h_give (i := 7) (by kernel_rfl) rfl (g_load (evv rfl) (by rfl) (by rfl)) rfl rfl ?_)
    (refine h_give (i := 8) (by kernel_rfl) rfl (g_nil (evv rfl)) rfl rfl ?_)
    (refine h_give (i := 9) (by kernel_rfl) rfl (g_fld (evv rfl)) rfl rfl ?_)
    (refine h_give (i := 10) (by kernel_rfl) rfl (g_load (evv rfl) (by rfl) (by rfl)) rfl rfl ?_)
    (refine h_give (i := 11) (by kernel_rfl) rfl (g_load (evv rfl) (by rfl) (by rfl)) rfl rfl ?_)
    (refine h_give (i := 12) (by kernel_rfl) rfl (g_nil (evv rfl)) rfl rfl ?_)
    (refine h_give (i := 13) (by kernel_rfl) rfl (g_fld (evv rfl)) rfl rfl ?_)
    (refine h_give (i := 14) (by kernel_rfl) rfl (g_loadF (evv rfl) (by rfl) (by rfl)) rfl rfl ?_)
    (refine h_give (i := 15) (by kernel_rfl) rfl (g_buildC rfl (by rfl)) rfl rfl ?_)
    refine h_two (i := 1) (j := 16) (by kernel_rfl) rfl rfl (Lay.ent) ?_ ?_
    · ((refine o_call rfl _ (Ent.refl _) (caddr_l (by assumption)) rfl ?_; rintro _ _ ⟨rfl, rfl⟩)); refine o_nil ?_
      refine h_one (i := 16) (by kernel_rfl) rfl (Lay.ent) ?_
      (refine o_litS rfl (by rfl) inferInstance (by rfl) rfl (fun _ => ?_)); refine o_nil ?_
      refine h_one (i := 17) (by kernel_rfl) rfl (Lay.ent) ?_
      (refine o_give (g_buildX (is := [0, 1, 2, 9]) rfl rfl (show cellsL _ = ((Go.Value.int Go.IntKind.i64 0) :: (Go.Value.int Go.IntKind.i64 0) :: (Go.Value.int Go.IntKind.i64 0) :: (Go.Value.int Go.IntKind.i64 0) :: (Go.Value.int Go.IntKind.i64 0) :: (Go.Value.int Go.IntKind.i64 0) :: (Go.Value.int Go.IntKind.i64 0) :: (Go.Value.int Go.IntKind.i64 0) :: (bys (List.replicate 32 0) ++ (Go.Value.slice none 0 0) :: (Go.Value.string { data := #[] }) :: (Go.Value.int Go.IntKind.i64 0) :: (Go.Value.bool false) :: (Go.Value.int Go.IntKind.i64 0) :: (Go.Value.string { data := #[] }) :: (Go.Value.slice none 0 0) :: [])) from rfl)) rfl rfl ?_); refine o_nil ?_
      refine h_one (i := 18) (by kernel_rfl) rfl (Lay.ent) ?_
      (refine o_storeW (evv rfl) (evv rfl) (by first | rfl | assumption | exact LenC.h _ | (simp [bys, *]; done) | fail) (by first | (intro _ _ _; exact bys_one _) | exact AllOne.h | (intro _ _ _ u hu; simp at hu; rcases hu with rfl | rfl | rfl | rfl | rfl | rfl | rfl | rfl <;> rfl) | fail) (by first | rfl | exact (LenC.h _).trans rfl | exact (LenC.h _).trans (LenC.h _).symm | (simp [bys, *]; done) | (simp only [bys, List.length_map, *]; rfl) | fail) ?_); refine o_nil ?_
      refine h_done (by kernel_rfl) (Lay.ent) ?_
      exact c_cut (by assumption) (by repeat (first | exact trivial | refine ⟨rfl, ?_⟩ | refine envsub_v rfl (by first | rfl | (refine int_eq ?_; first | omega | (simp; omega) | (simp; done)) | (refine bool_eq ?_; first | (simp [*]; done) | (simp; done)) | (refine str_eq ?_; simp; done) | (refine ptr_eq ?_; omega) | fail) ?_)) (Lay.ent)
    · (refine o_litS rfl (by rfl) inferInstance (by rfl) rfl (fun _ => ?_)); refine o_nil ?_
      refine h_one (i := 1) (by kernel_rfl) rfl (Lay.ent) ?_
      ((refine o_call rfl _ (Ent.refl _) (caddr_l (by assumption)) rfl ?_; rintro _ _ ⟨rfl, rfl⟩)); refine o_nil ?_
      refine h_one (i := 17) (by kernel_rfl) rfl (Lay.ent) ?_
      (refine o_give (g_buildX (is := [0, 1, 2, 9]) rfl rfl (show cellsL _ = ((Go.Value.int Go.IntKind.i64 0) :: (Go.Value.int Go.IntKind.i64 0) :: (Go.Value.int Go.IntKind.i64 0) :: (Go.Value.int Go.IntKind.i64 0) :: (Go.Value.int Go.IntKind.i64 0) :: (Go.Value.int Go.IntKind.i64 0) :: (Go.Value.int Go.IntKind.i64 0) :: (Go.Value.int Go.IntKind.i64 0) :: (bys (List.replicate 32 0) ++ (Go.Value.slice none 0 0) :: (Go.Value.string { data := #[] }) :: (Go.Value.int Go.IntKind.i64 0) :: (Go.Value.bool false) :: (Go.Value.int Go.IntKind.i64 0) :: (Go.Value.string { data := #[] }) :: (Go.Value.slice none 0 0) :: [])) from rfl)) rfl rfl ?_); refine o_nil ?_
      refine h_one (i := 18) (by kernel_rfl) rfl (Lay.ent) ?_
      (refine o_storeW (evv rfl) (evv rfl) (by first | rfl | assumption | exact LenC.h _ | (simp [bys, *]; done) | fail) (by first | (intro _ _ _; exact bys_one _) | exact AllOne.h | (intro _ _ _ u hu; simp at hu; rcases hu with rfl | rfl | rfl | rfl | rfl | rfl | rfl | rfl <;> rfl) | fail) (by first | rfl | exact (LenC.h _).trans rfl | exact (LenC.h _).trans (LenC.h _).symm | (simp [bys, *]; done) | (simp only [bys, List.length_map, *]; rfl) | fail) ?_); refine o_nil ?_
      refine h_done (by kernel_rfl) (Lay.ent) ?_
      exact c_cut (by assumption) (by repeat (first | exact trivial | refine ⟨rfl, ?_⟩ | refine envsub_v rfl (by first | rfl | (refine int_eq ?_; first | omega | (simp; omega) | (simp; done)) | (refine bool_eq ?_; first | (simp [*]; done) | (simp; done)) | (refine str_eq ?_; simp; done) | (refine ptr_eq ?_; omega) | fail) ?_)) (Lay.ent)
  intro ve
  dsimp only [List.cons_append, List.nil_append]
  refine c_code ?_
  first | refine r_retC (rs := [.cell 3 37]) rfl (by first | exact ro_agg rfl rfl (by first | rfl | exact LenC.h _ | (simp [bys, *]; done)) ro_nil | exact ro_cell rfl rfl rfl ro_nil) _ ((Ent.drop)) ?_ | refine c_endC (rs := [.cell 3 37]) rfl (by first | exact ro_agg rfl rfl (by first | rfl | exact LenC.h _ | (simp [bys, *]; done)) ro_nil | exact ro_cell rfl rfl rfl ro_nil) _ ((Ent.drop)) ?_
  exact ⟨ve, rfl, rfl⟩
end VK
