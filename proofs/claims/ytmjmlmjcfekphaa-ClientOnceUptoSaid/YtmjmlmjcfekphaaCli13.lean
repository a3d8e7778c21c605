/- What is done to a client; the message of a deed; awake. Conditions: none. -/
import Derived.Test.YtmjmlmjcfekphaaCli12
--%norm
namespace VK
open Go Go.Proofs
set_option linter.unusedSimpArgs false
set_option linter.unusedVariables false
set_option maxRecDepth 100000
set_option maxHeartbeats 40000000
/-- something that is done -/
structure DoF where
  kind : Int
  op : OpS
  m : MsgF
instance : Inhabited DoF := ⟨⟨0, default, default⟩⟩
def doC (d : DoF) : List Value := .int .i64 d.kind :: (opSC d.op ++ msgC d.m)
instance : LenC doC 54 := ⟨fun d => by simp only [doC, List.length_cons, List.length_append, opSC_len, msgC_len]⟩
instance : TyC Try.prog 39 doC := ⟨trivial⟩
instance (d : DoF) : GetC (doC d) 0 (.int .i64 d.kind) := ⟨rfl⟩
instance (d : DoF) : PartC (doC d) 1 6 (opSC d.op) := ⟨by rfl, rfl⟩
instance (d : DoF) : PartC (doC d) 7 47 (msgC d.m) := ⟨by rw [show (doC d).drop 7 = msgC d.m from rfl]; exact List.take_of_length_le (by rw [msgC_len]; decide), msgC_len _⟩
instance (L : List Atom) (d : DoF) [h : OneC L d.m.ents] [h' : OneC L d.m.names] : AllOne L (doC d) := by unfold doC; infer_instance
def rem4 (k : Int) : Int := k % 18446744073709551616 % 4
/-- the message of a deed -/
def msgD (d : DoF) (id number : Int) : MsgF := if rem4 d.kind = 3 then { d.m with kind := 13, to_ := 100 + id, last := number } else d.m
theorem msgD_ents (d : DoF) (id number : Int) : (msgD d id number).ents = d.m.ents := by unfold msgD; split <;> rfl
theorem msgD_names (d : DoF) (id number : Int) : (msgD d id number).names = d.m.names := by unfold msgD; split <;> rfl
theorem msgD_c (L : List Atom) (d : DoF) (id number : Int) (hi : 1 ≤ id ∧ id ≤ 8) (es : List EntS) (ns : List (List UInt8)) [r1 : Rd L d.m.ents (entR es)] [r2 : Rd L d.m.names (mrow str 9 ns)] : Fn Try.prog 9 [agg (doC d), .int .i64 id, .int .i64 number] L fun v L' => v = agg (msgC (msgD d id number)) ∧ L' = L := by
  refine fn_intro Try.func9 rfl Try.ntmps9 rfl (fun W0 => ?_)
  simp only [argE]
  refine r_seq ?_
  refine r_region (id := 0) ?_
  refine o_boxA (evv rfl) rfl (fun _ => ?_)
  refine o_alloc (cs := ((Go.Value.int Go.IntKind.i64 0) :: (Go.Value.int Go.IntKind.i64 0) :: (Go.Value.int Go.IntKind.i64 0) :: (Go.Value.int Go.IntKind.i64 0) :: (Go.Value.int Go.IntKind.i64 0) :: (Go.Value.int Go.IntKind.i64 0) :: (Go.Value.int Go.IntKind.i64 0) :: (Go.Value.int Go.IntKind.i64 0) :: (bys (List.replicate 32 0) ++ (Go.Value.slice none 0 0) :: (Go.Value.string { data := #[] }) :: (Go.Value.int Go.IntKind.i64 0) :: (Go.Value.bool false) :: (Go.Value.int Go.IntKind.i64 0) :: (Go.Value.string { data := #[] }) :: (Go.Value.slice none 0 0) :: []))) rfl rfl (fun _ => ?_)
  refine o_nil ?_
  refine c_code ?_
  refine r_seq ?_
  refine r_region (id := 1) ?_
  refine o_give (g_fld (evv rfl)) (by first | (simp only [Nat.zero_add, Nat.reduceAdd]; rfl) | rfl) rfl ?_
  refine o_give (g_loadPt (evv rfl) (by rfl)) rfl rfl ?_
  refine o_alloc (cs := ((Go.Value.int Go.IntKind.i64 0) :: (Go.Value.int Go.IntKind.i64 0) :: (Go.Value.int Go.IntKind.i64 0) :: (Go.Value.int Go.IntKind.i64 0) :: (Go.Value.int Go.IntKind.i64 0) :: (Go.Value.int Go.IntKind.i64 0) :: (Go.Value.int Go.IntKind.i64 0) :: (Go.Value.int Go.IntKind.i64 0) :: (bys (List.replicate 32 0) ++ (Go.Value.slice none 0 0) :: (Go.Value.string { data := #[] }) :: (Go.Value.int Go.IntKind.i64 0) :: (Go.Value.bool false) :: (Go.Value.int Go.IntKind.i64 0) :: (Go.Value.string { data := #[] }) :: (Go.Value.slice none 0 0) :: []))) rfl rfl (fun _ => ?_)
  refine o_storeW (evv rfl) (evv rfl) (by first | rfl | assumption | exact LenC.h _ | (simp [bys, *]; done) | fail) (by first | (intro _ _ _; exact bys_one _) | exact AllOne.h | (intro _ _ _ u hu; simp at hu; rcases hu with rfl | rfl | rfl | rfl | rfl | rfl | rfl | rfl <;> rfl) | fail) (by first | rfl | exact (LenC.h _).trans rfl | exact (LenC.h _).trans (LenC.h _).symm | (simp [bys, *]; done) | (simp only [bys, List.length_map, *]; rfl) | fail) ?_
  refine o_nil ?_
  refine c_code ?_
  refine r_seq ?_
  refine r_seq ?_
  refine r_region (id := 2) ?_
  refine o_give (g_fld (evv rfl)) (by first | (simp only [Nat.zero_add, Nat.reduceAdd]; rfl) | rfl) rfl ?_
  refine o_give (g_loadGt (evv rfl) (by rfl)) rfl rfl ?_
  refine o_giveU (g_conv TyU.h TyU.h (evv rfl)) (by rfl) rfl ?_
  refine o_give (g_remP (evv rfl) (evv rfl) (by omega) (by omega)) rfl rfl ?_
  refine o_give (g_bin (evv rfl) (evv rfl) (by rfl)) rfl rfl ?_
  refine o_nil ?_
  refine c_code ?_
  refine r_cond rfl (fun h => ?_) (fun h => ?_) <;> (try simp only [decide_eq_true_eq, decide_eq_false_iff_not, Bool.and_eq_true, Bool.or_eq_true, Bool.not_eq_true', Bool.and_eq_false_iff, Bool.or_eq_false_iff, Bool.not_eq_false', Bool.not_eq_true, Bool.not_eq_false, Bool.true_eq_false, Bool.false_eq_true, Int.not_lt, Int.not_le, not_and, not_or, ne_eq] at h)
  · rw [show msgD d id number = { d.m with kind := 13, to_ := 100 + id, last := number } from if_pos h]
    refine r_seq ?_
    refine r_region (id := 3) ?_
    refine o_give (g_fld (evv rfl)) (by first | (simp only [Nat.zero_add, Nat.reduceAdd]; rfl) | rfl) rfl ?_
    refine o_storeGt (evv rfl) (evv rfl) (by rfl) ?_
    refine o_nil ?_
    refine c_code ?_
    refine r_seq ?_
    refine r_region (id := 4) ?_
    refine o_give (g_move (evv rfl)) rfl rfl ?_
    refine o_giveN (g_bin (evv rfl) (evv rfl) (by rfl)) (by simp only [inR]; omega) rfl ?_
    refine o_give (g_fld (evv rfl)) (by first | (simp only [Nat.zero_add, Nat.reduceAdd]; rfl) | rfl) rfl ?_
    refine o_storeGt (evv rfl) (evv rfl) (by rfl) ?_
    refine o_nil ?_
    refine c_code ?_
    refine r_region (id := 5) ?_
    refine o_give (g_move (evv rfl)) rfl rfl ?_
    refine o_give (g_fld (evv rfl)) (by first | (simp only [Nat.zero_add, Nat.reduceAdd]; rfl) | rfl) rfl ?_
    refine o_storeGt (evv rfl) (evv rfl) (by rfl) ?_
    refine o_nil ?_
    refine c_code ?_
    refine r_seq ?_
    refine r_region (id := 6) ?_
    refine o_give (g_loadW (evv rfl) (by rfl) (LenC.h _)) rfl rfl ?_
    refine o_storeW (evv rfl) (evv rfl) (by first | rfl | assumption | exact LenC.h _ | (simp [bys, *]; done) | fail) (by first | (intro _ _ _; exact bys_one _) | exact AllOne.h | (intro _ _ _ u hu; simp at hu; rcases hu with rfl | rfl | rfl | rfl | rfl | rfl | rfl | rfl <;> rfl) | fail) (by first | rfl | exact (LenC.h _).trans rfl | exact (LenC.h _).trans (LenC.h _).symm | (simp [bys, *]; done) | (simp only [bys, List.length_map, *]; rfl) | fail) ?_
    refine o_nil ?_
    refine c_code ?_
    first | refine r_retC (rs := [.cell 6 37]) rfl (by first | exact ro_agg rfl rfl (by first | rfl | exact LenC.h _ | (simp [bys, *]; done)) ro_nil | exact ro_cell rfl rfl rfl ro_nil) _ ((Lay.ent (L' := L))) ?_ | refine c_endC (rs := [.cell 6 37]) rfl (by first | exact ro_agg rfl rfl (by first | rfl | exact LenC.h _ | (simp [bys, *]; done)) ro_nil | exact ro_cell rfl rfl rfl ro_nil) _ ((Lay.ent (L' := L))) ?_
    exact ⟨rfl, rfl⟩
  · rw [show msgD d id number = d.m from if_neg h]
    refine r_skip ?_
    refine c_code ?_
    refine r_seq ?_
    refine r_region (id := 6) ?_
    refine o_give (g_loadW (evv rfl) (by rfl) (LenC.h _)) rfl rfl ?_
    refine o_storeW (evv rfl) (evv rfl) (by first | rfl | assumption | exact LenC.h _ | (simp [bys, *]; done) | fail) (by first | (intro _ _ _; exact bys_one _) | exact AllOne.h | (intro _ _ _ u hu; simp at hu; rcases hu with rfl | rfl | rfl | rfl | rfl | rfl | rfl | rfl <;> rfl) | fail) (by first | rfl | exact (LenC.h _).trans rfl | exact (LenC.h _).trans (LenC.h _).symm | (simp [bys, *]; done) | (simp only [bys, List.length_map, *]; rfl) | fail) ?_
    refine o_nil ?_
    refine c_code ?_
    first | refine r_retC (rs := [.cell 6 37]) rfl (by first | exact ro_agg rfl rfl (by first | rfl | exact LenC.h _ | (simp [bys, *]; done)) ro_nil | exact ro_cell rfl rfl rfl ro_nil) _ ((Lay.ent (L' := L))) ?_ | refine c_endC (rs := [.cell 6 37]) rfl (by first | exact ro_agg rfl rfl (by first | rfl | exact LenC.h _ | (simp [bys, *]; done)) ro_nil | exact ro_cell rfl rfl rfl ro_nil) _ ((Lay.ent (L' := L))) ?_
    exact ⟨rfl, rfl⟩
end VK
