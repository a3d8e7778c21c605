/- An operation whose guard is an operation that was itself passed over. Conditions: none. -/
import Derived.Test.YtcbhnagihkcafaaT
namespace VK
open Go
set_option linter.unusedSimpArgs false
set_option linter.unusedVariables false
set_option maxRecDepth 100000
set_option maxHeartbeats 40000000
section
variable {c : Cx} {k : List KI} {E : Env} {L : List Atom} {all rest : List Oper} {ty : TypeId} {pos : String} {aft : Array Edge}
theorem h_off {f i d j : Nat} {want : Bool} {listed : Array Bool} {LS : List Atom} {op : Op} {x : EV} (hc : (Region.noSelect all.toArray && Region.free .any all.toArray listed i && (Region.ready .any all.toArray listed).contains i) = true)
    (ho : all[i]? = some ⟨some d, op, ty, pos, aft, some (j, want)⟩) (hx : gsel all E j = some x) (hu : (match x.val with | .bool b => b == want | _ => false) = false) (hd : Nat.blt d c.n = true)
    (h : Cont c (.held all f (listed.setIfInBounds i true) (fun w => St c.W0 LS w) :: k) ((d, .gv false undef) :: E) L) : Cont c (.held all (f + 1) listed (fun w => St c.W0 LS w) :: k) E L := by
  refine h_take (x := .gv false undef) hc ho rfl hd (fun a hE => ?_) h
  exact .inr ⟨(wanted_of (o := ⟨some d, op, ty, pos, aft, some (j, want)⟩) rfl hx hE).trans hu, rfl⟩
theorem o_off {d j : Nat} {want : Bool} {op : Op} {x : EV} (hx : gsel all E j = some x) (hu : (match x.val with | .bool b => b == want | _ => false) = false) (hd : Nat.blt d c.n = true)
    (hk : Ops c all rest k ((d, .gv false undef) :: E) L) : Ops c all (⟨some d, op, ty, pos, aft, some (j, want)⟩ :: rest) k E L := by
  unfold Ops at *
  intro a w hE hs
  have hw := (wanted_of (o := ⟨some d, op, ty, pos, aft, some (j, want)⟩) rfl hx hE).trans hu
  unfold wpList
  rw [hw]
  simp only [Bool.false_eq_true, if_false]
  exact hk _ w (hE.put d (.gv false undef) hd) hs
end
/-! ### atoms taken to the front -/
class PickR {α : Type} (K : α → Atom) (L : List Atom) (x : outParam α) (R : outParam (List Atom)) : Prop where
  perm : L.Perm (K x :: R)
instance (priority := high) PickR.head {α : Type} (K : α → Atom) (L : List Atom) (x : α) : PickR K (K x :: L) x L := ⟨.refl _⟩
instance (priority := low) PickR.tail {α : Type} (K : α → Atom) (A : Atom) (L R : List Atom) (x : α) [h : PickR K L x R] : PickR K (A :: L) x (A :: R) := ⟨(h.perm.cons A).trans (.swap _ _ _)⟩
theorem PickR.ent {α : Type} {K : α → Atom} {L R : List Atom} {x : α} [h : PickR K L x R] : Ent L (K x :: R) := Ent.perm h.perm
theorem pick3 {α β γ : Type} {K1 : α → Atom} {K2 : β → Atom} {K3 : γ → Atom} {L R1 R2 R3 : List Atom} {x : α} {y : β} {z : γ} [h1 : PickR K1 L x R1] [h2 : PickR K2 R1 y R2] [h3 : PickR K3 R2 z R3] : Ent L (K1 x :: K2 y :: K3 z :: R3) :=
  (Ent.perm h1.perm).trans (Ent.cons ((Ent.perm h2.perm).trans (Ent.cons (Ent.perm h3.perm))))
end VK
