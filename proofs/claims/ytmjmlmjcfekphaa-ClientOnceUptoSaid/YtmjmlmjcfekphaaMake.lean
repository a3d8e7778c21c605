/- A slice made of zeros. Conditions: few elements. -/
import Derived.Test.YtmjmlmjcfekphaaT
import Derived.Test.YtmjmlmjcfekphaaV2
namespace VK
open Go Go.Proofs
set_option linter.unusedSimpArgs false
set_option linter.unusedVariables false
set_option maxRecDepth 100000
set_option maxHeartbeats 40000000
theorem o_make {c : Cx} {k : List KI} {E : Env} {L : List Atom} {all rest : List Oper} {d : Nat} {ty : TypeId} {pos : String} {aft : Array Edge} {t e : TypeId} {i : TI} {x y : Operand} {n : Int} [tu : TyU c.P t (.slice e)] [ti : TyI c.P e i]
    (hx : Evs c E x (.int .i64 n)) (hy : Evs c E y (.int .i64 n)) (h0 : 0 ≤ n) (h1 : n ≤ 65536) {z : Value} (hz : i.zero.cells = #[z]) (hz1 : z.oneCell' = true) (hsz : i.size = 1) (hb : i.bytes ≤ 1024) (hd : Nat.blt d c.n = true)
    (hk : ∀ v, Ops c all rest k ((d, .v v) :: E) (sl v ⟨e, 1, n.toNat, List.replicate n.toNat z⟩ :: L)) : Ops c all (⟨some d, .makeSlice t x y, ty, pos, aft, none⟩ :: rest) k E L := by
  refine o_run (fun a w he hs => ⟨.slice (some ⟨w.heap.size, 0, none⟩) n.toNat n.toNat, w.alloc (.cells (List.replicate n.toNat z).toArray e), sl (.slice (some ⟨w.heap.size, 0, none⟩) n.toNat n.toNat) ⟨e, 1, n.toNat, List.replicate n.toNat z⟩ :: L, ?_, ?_, hk _⟩) hd
  · obtain ⟨info, hi, hi1, hi2, hi3⟩ := ti.h
    have hx' := hx
    unfold Evs at hx hy
    have hw : IntKind.i64.wrap n = n := wrap_in (by simp only [inR]; omega)
    have hbn : (i.bytes : Int) * n ≤ 1024 * 65536 := Int.mul_le_mul (by omega) h1 h0 (by omega)
    have hlt : ¬ ((i.bytes : Int) * n > 2 ^ 48) := by omega
    have hn0 : ¬ n < 0 := by omega
    have hnn : ¬ n < n := by omega
    have h48 : ¬ (281474976710656 < (i.bytes : Int) * n) := by omega
    simp [execOp, Instr.makeSlice, run_underlying tu.h, hx a he, hy a he, asInt, typeInfo, hi, hi2, hw, hn0, hnn, h48, asIntOf, run_sizeOfI ti, run_zeroI ti, hsz, hz, newRow]
    have ha : Array.map (fun x => [z][x % 1]?.getD default) (Array.range n.toNat) = Array.replicate n.toNat z := by
      apply Array.ext (by simp)
      intro j h1 h2
      simp [Nat.mod_one]
    split
    · rename_i hz0
      have : n.toNat = 0 := by omega
      rw [this, show Array.map (fun _ => (default : Value)) (Array.range 0) = Array.replicate 0 z from Array.ext (by simp) (by intro j _ h2; simp at h2)]
    · rw [ha]
  · exact hs.alloc _ (sl_new (by simp) (by intro u hu; rw [List.mem_replicate] at hu; rw [hu.2]; exact hz1) (by simp only [maxLen]; omega))
/-- a slice of whole numbers made -/
theorem o_makeI {c : Cx} {k : List KI} {E : Env} {L : List Atom} {all rest : List Oper} {d : Nat} {ty : TypeId} {pos : String} {aft : Array Edge} {t e : TypeId} {i : TI} {x y : Operand} {n : Int} [tu : TyU c.P t (.slice e)] [ti : TyI c.P e i]
    (hx : Evs c E x (.int .i64 n)) (hy : Evs c E y (.int .i64 n)) (h0 : 0 ≤ n) (h1 : n ≤ 65536) (hz : i.zero.cells = #[i64v 0]) (hsz : i.size = 1) (hb : i.bytes ≤ 1024) (hd : Nat.blt d c.n = true)
    (hk : ∀ v, Ops c all rest k ((d, .v v) :: E) (sl v (mrow i64v e (List.replicate n.toNat 0)) :: L)) : Ops c all (⟨some d, .makeSlice t x y, ty, pos, aft, none⟩ :: rest) k E L := by
  refine o_make hx hy h0 h1 hz rfl hsz hb hd fun v => ?_
  have : (⟨e, 1, n.toNat, List.replicate n.toNat (i64v 0)⟩ : Row) = mrow i64v e (List.replicate n.toNat 0) := by simp [mrow]
  rw [this]
  exact hk v
/-- a slice of truths made -/
theorem o_makeB {c : Cx} {k : List KI} {E : Env} {L : List Atom} {all rest : List Oper} {d : Nat} {ty : TypeId} {pos : String} {aft : Array Edge} {t e : TypeId} {i : TI} {x y : Operand} {n : Int} [tu : TyU c.P t (.slice e)] [ti : TyI c.P e i]
    (hx : Evs c E x (.int .i64 n)) (hy : Evs c E y (.int .i64 n)) (h0 : 0 ≤ n) (h1 : n ≤ 65536) (hz : i.zero.cells = #[boolv false]) (hsz : i.size = 1) (hb : i.bytes ≤ 1024) (hd : Nat.blt d c.n = true)
    (hk : ∀ v, Ops c all rest k ((d, .v v) :: E) (sl v (mrow boolv e (List.replicate n.toNat false)) :: L)) : Ops c all (⟨some d, .makeSlice t x y, ty, pos, aft, none⟩ :: rest) k E L := by
  refine o_make hx hy h0 h1 hz rfl hsz hb hd fun v => ?_
  have : (⟨e, 1, n.toNat, List.replicate n.toNat (boolv false)⟩ : Row) = mrow boolv e (List.replicate n.toNat false) := by simp [mrow]
  rw [this]
  exact hk v
/-- an array of zeros -/
theorem g_buildA0 {c : Cx} {E : Env} {L : List Atom} {do_ : Option Nat} {ty : TypeId} {pos : String} {aft : Array Edge} {gd : Option (Nat × Bool)} {t e : TypeId} {i ie : TI} {n : Nat} [tu : TyU c.P t (.array n e)] [ti : TyI c.P t i] [te : TyI c.P e ie] :
    Gives c E L ⟨do_, .build t #[], ty, pos, aft, gd⟩ (agg (cellsL i.zero)) := by
  unfold Gives
  intro a w he hs
  simp only [execOp, Instr.build, Sem.run_bind, run_zeroI ti, Result.andThen_ok, run_underlying tu.h, run_sizeOfI te]
  simp [agg, Instr.fill, cellsL]
end VK
