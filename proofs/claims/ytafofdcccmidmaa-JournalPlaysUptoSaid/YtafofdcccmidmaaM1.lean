/- What the proof rests on, part 1 of 6: the walker's lemmas, the walks of the functions and the plain laws. Conditions: none. -/
import Derived.WalkKit
import Derived.OrdersHeld
import Derived.RangeFuncRecord
import Derived.TacticsIn
import Derived.RangeFuncCalls
import Derived.Lib.ConvBytes
import Derived.Lib.AppendStr
import Derived.Lib.FrozenHead
import Derived.ChangeKeysEq
import Derived.Laws.StructEq
import Derived.Recover
namespace VK
open Go
abbrev Heap := Nat → Option Obj
abbrev Atom := Heap → Prop
structure Blk where
  cs : List Value
  t : TypeId
def FrOk (n : Nat) (fr : Nat × Nat) : Prop := fr.1 = fr.2 ∨ n ≤ fr.1
def blk (b : Nat) (c : Blk) : Atom := fun h => ∃ fr, FrOk c.cs.length fr ∧ h b = some (.cells c.cs.toArray c.t fr)
def Sep (h h1 h2 : Heap) : Prop :=
  (∀ b, h1 b = none ∨ h2 b = none) ∧ (∀ b o, h1 b = some o → h b = some o) ∧ (∀ b o, h2 b = some o → h b = some o)
def star : List Atom → Heap → Prop
  | [], _ => True
  | A :: L, h => ∃ h1 h2, Sep h h1 h2 ∧ A h1 ∧ star L h2
def HLe (h h' : Heap) : Prop := ∀ b o, h b = some o → h' b = some o
theorem star_mono {L : List Atom} {h h' : Heap} (hl : HLe h h') (hs : star L h) : star L h' := by
  cases L with
  | nil => trivial
  | cons A L =>
    obtain ⟨h1, h2, ⟨d, i1, i2⟩, ha, hr⟩ := hs
    exact ⟨h1, h2, ⟨d, fun b o e => hl b o (i1 b o e), fun b o e => hl b o (i2 b o e)⟩, ha, hr⟩
theorem star_tail {A : Atom} {L : List Atom} {h : Heap} (hs : star (A :: L) h) : star L h := by
  obtain ⟨h1, h2, ⟨_, _, i2⟩, _, hr⟩ := hs
  exact star_mono i2 hr
theorem star_swap {A B : Atom} {L : List Atom} {h : Heap} (hs : star (A :: B :: L) h) : star (B :: A :: L) h := by
  obtain ⟨h1, h2, ⟨d, i1, i2⟩, ha, g1, g2, ⟨d', j1, j2⟩, hb, hr⟩ := hs
  refine ⟨g1, fun b => (h1 b).or (g2 b), ⟨fun b => ?_, fun b o e => i2 b o (j1 b o e), fun b o e => ?_⟩, hb, h1, g2, ⟨fun b => ?_, fun b o e => ?_, fun b o e => ?_⟩, ha, hr⟩
  · rcases d b with e | e
    · rcases d' b with e' | e'
      · exact .inl e'
      · exact .inr (by simp [e, e'])
    · refine .inl ?_
      cases hg : g1 b with
      | none => rfl
      | some o => rw [j1 b o hg] at e; cases e
  · cases hh : h1 b with
    | none => simp [hh] at e; exact i2 b o (j2 b o e)
    | some o' => simp [hh] at e; subst e; exact i1 b _ hh
  · cases hh : h1 b with
    | none => exact .inl rfl
    | some o =>
      refine .inr ?_
      cases hg : g2 b with
      | none => rfl
      | some o' =>
        have := j2 b o' hg
        rcases d b with e | e
        · rw [hh] at e; cases e
        · rw [this] at e; cases e
  · simp [e]
  · cases hh : h1 b with
    | none => simpa [hh] using e
    | some o' =>
      have := j2 b o e
      rcases d b with e' | e'
      · rw [hh] at e'; cases e'
      · rw [this] at e'; cases e'
theorem star_cons_mono {A : Atom} {L L' : List Atom} (hl : ∀ h, star L h → star L' h) {h : Heap} (hs : star (A :: L) h) : star (A :: L') h := by
  obtain ⟨h1, h2, s, ha, hr⟩ := hs
  exact ⟨h1, h2, s, ha, hl _ hr⟩
theorem star_perm {L L' : List Atom} (hp : L.Perm L') : ∀ {h : Heap}, star L h → star L' h := by
  induction hp with
  | nil => exact fun h => h
  | cons _ _ ih => exact fun hs => star_cons_mono (fun _ => ih) hs
  | swap _ _ _ => exact fun hs => star_swap hs
  | trans _ _ ih1 ih2 => exact fun hs => ih2 (ih1 hs)
structure St (W0 : World) (L : List Atom) (w : World) : Prop where
  os : w.os = W0.os
  tape : w.tape = W0.tape
  output : w.output = W0.output
  heap : star L (fun b => w.heap[b]?)
def Ent (L L' : List Atom) : Prop := ∀ h, star L h → star L' h
theorem Ent.refl (L : List Atom) : Ent L L := fun _ h => h
theorem Ent.trans {A B C : List Atom} (h : Ent A B) (k : Ent B C) : Ent A C := fun x hx => k x (h x hx)
theorem Ent.perm {L L' : List Atom} (hp : L.Perm L') : Ent L L' := fun _ h => star_perm hp h
theorem Ent.cons {A : Atom} {L L' : List Atom} (h : Ent L L') : Ent (A :: L) (A :: L') := fun _ hs => star_cons_mono h hs
theorem Ent.drop {A : Atom} {L : List Atom} : Ent (A :: L) L := fun _ hs => star_tail hs
theorem Ent.nil (L : List Atom) : Ent L [] := fun _ _ => trivial
theorem Ent.swap {A B : Atom} {L : List Atom} : Ent (A :: B :: L) (B :: A :: L) := fun _ hs => star_swap hs
theorem Ent.atom {A B : Atom} {L : List Atom} (h : ∀ x, A x → B x) : Ent (A :: L) (B :: L) := fun _ hs => by
  obtain ⟨h1, h2, s, ha, hr⟩ := hs
  exact ⟨h1, h2, s, h _ ha, hr⟩
theorem St.ent {W0 w : World} {L L' : List Atom} (h : St W0 L w) (e : Ent L L') : St W0 L' w := ⟨h.os, h.tape, h.output, e _ h.heap⟩
class Pick {α : Type} (K : α → Atom) (L : List Atom) (x : outParam α) (f : outParam (Atom → List Atom)) : Prop where
  eq : L = f (K x)
  ctx : ∃ R, ∀ X, (f X).Perm (X :: R)
instance (priority := high) Pick.head {α : Type} (K : α → Atom) (L : List Atom) (x : α) : Pick K (K x :: L) x (fun X => X :: L) := ⟨rfl, L, fun _ => .refl _⟩
instance (priority := low) Pick.tail {α : Type} (K : α → Atom) (A : Atom) (L : List Atom) (x : α) (f : Atom → List Atom) [h : Pick K L x f] : Pick K (A :: L) x (fun X => A :: f X) :=
  ⟨by rw [h.eq], by obtain ⟨R, hR⟩ := h.ctx; exact ⟨A :: R, fun X => ((hR X).cons A).trans (.swap _ _ _)⟩⟩
class PickA (L : List Atom) (A : Atom) (R : outParam (List Atom)) : Prop where
  perm : L.Perm (A :: R)
instance (priority := high) PickA.head (L : List Atom) (A : Atom) : PickA (A :: L) A L := ⟨.refl _⟩
instance (priority := low) PickA.tail (B A : Atom) (L R : List Atom) [h : PickA L A R] : PickA (B :: L) A (B :: R) := ⟨((h.perm).cons B).trans (.swap _ _ _)⟩
class Lay (L L' : List Atom) : Prop where
  ent : Ent L L'
instance (priority := high) Lay.same (L : List Atom) : Lay L L := ⟨Ent.refl L⟩
instance (priority := low) Lay.nil (L : List Atom) : Lay L [] := ⟨Ent.nil L⟩
instance Lay.cons (A : Atom) (L L' R : List Atom) [h : PickA L A R] [k : Lay R L'] : Lay L (A :: L') := ⟨(Ent.perm h.perm).trans (Ent.cons k.ent)⟩
instance (priority := low) Lay.drop (A : Atom) (L F : List Atom) [k : Lay L F] : Lay (A :: L) F := ⟨Ent.drop.trans k.ent⟩
theorem star_pick {α : Type} {K : α → Atom} {L : List Atom} {x : α} {f : Atom → List Atom} (p : Pick K L x f) : ∃ R, Ent L (K x :: R) ∧ ∀ X, Ent (X :: R) (f X) := by
  obtain ⟨R, hR⟩ := p.ctx
  exact ⟨R, by have := p.eq; subst this; exact Ent.perm (hR _), fun X => Ent.perm (hR X).symm⟩
theorem star_at {α : Type} {K : α → Atom} {L : List Atom} {x : α} {f : Atom → List Atom} (p : Pick K L x f) {h : Heap} (hs : star L h) : ∃ h1, HLe h1 h ∧ K x h1 := by
  obtain ⟨R, h1, _⟩ := star_pick p
  obtain ⟨g1, g2, ⟨_, i1, _⟩, ha, _⟩ := h1 _ hs
  exact ⟨g1, i1, ha⟩
theorem star_read {L : List Atom} {b : Nat} {c : Blk} {f : Atom → List Atom} (p : Pick (blk b) L c f) {h : Heap} (hs : star L h) : ∃ fr, FrOk c.cs.length fr ∧ h b = some (.cells c.cs.toArray c.t fr) := by
  obtain ⟨h1, hl, fr, hf, hb⟩ := star_at p hs
  exact ⟨fr, hf, hl _ _ hb⟩
def upd (h : Heap) (b : Nat) (o : Obj) : Heap := fun x => if x = b then some o else h x
theorem star_set {A A' : Atom} {L : List Atom} {b : Nat} {o : Obj} {h : Heap} (hs : star (A :: L) h)
    (hA : ∀ g, HLe g h → A g → (∃ o', g b = some o') ∧ A' (upd g b o)) : star (A' :: L) (upd h b o) := by
  obtain ⟨h1, h2, ⟨d, i1, i2⟩, ha, hr⟩ := hs
  obtain ⟨⟨o', hb1⟩, hA'⟩ := hA h1 i1 ha
  have hb : h2 b = none := by
    rcases d b with e | e
    · rw [hb1] at e; cases e
    · exact e
  refine ⟨upd h1 b o, h2, ⟨fun x => ?_, fun x o' e => ?_, fun x o' e => ?_⟩, hA', hr⟩
  · by_cases hx : x = b
    · subst hx; exact .inr hb
    · simp only [upd, hx, if_false]; exact d x
  · by_cases hx : x = b
    · subst hx; simpa [upd] using e
    · simp only [upd, hx, if_false] at e ⊢; exact i1 x o' e
  · by_cases hx : x = b
    · subst hx; rw [hb] at e; cases e
    · simp only [upd, hx, if_false]; exact i2 x o' e
theorem Below_heap_alloc (w : World) (o : Obj) (k : Nat) (h : k < w.heap.size) : (w.alloc o).heap[k]? = w.heap[k]? := by
  show (w.heap.push o)[k]? = _
  rw [Array.getElem?_push, if_neg (by omega)]
theorem star_alloc {L : List Atom} {w : World} {o : Obj} {A : Atom} (hA : A (fun b => if b = w.heap.size then some o else none)) (hs : star L (fun b => w.heap[b]?)) :
    star (A :: L) (fun b => (w.alloc o).heap[b]?) := by
  refine ⟨fun b => if b = w.heap.size then some o else none, fun b => w.heap[b]?, ⟨fun b => ?_, fun b o' e => ?_, fun b o' e => ?_⟩, hA, hs⟩
  · by_cases hb : b = w.heap.size
    · exact .inr (by subst hb; simp)
    · exact .inl (by simp [hb])
  · by_cases hb : b = w.heap.size
    · subst hb; simp at e; subst e; exact heap_alloc_new w o
    · simp [hb] at e
  · have hb : b < w.heap.size := (Array.getElem?_eq_some_iff.1 e).1
    show (w.alloc o).heap[b]? = some o'
    exact (Below_heap_alloc w o b hb).trans e
theorem St.read {W0 w : World} {L : List Atom} {b : Nat} {c : Blk} {f : Atom → List Atom} (p : Pick (blk b) L c f) (h : St W0 L w) : ∃ fr, FrOk c.cs.length fr ∧ w.heap[b]? = some (.cells c.cs.toArray c.t fr) := star_read p h.heap
theorem St.drew {W0 w : World} {L : List Atom} (h : St W0 L w) : St W0 L w.drew := ⟨h.os, h.tape, h.output, h.heap⟩
theorem St.alloc {W0 w : World} {L : List Atom} (h : St W0 L w) (o : Obj) {A : Atom} (hA : A (fun b => if b = w.heap.size then some o else none)) : St W0 (A :: L) (w.alloc o) :=
  ⟨h.os, h.tape, h.output, star_alloc hA h.heap⟩
theorem St.new {W0 w w' : World} {L : List Atom} (h : St W0 L w) (h1 : w'.os = w.os) (h2 : w'.tape = w.tape) (h3 : w'.output = w.output) {o : Obj} (hn : w'.heap[w.heap.size]? = some o) (hold : ∀ b, b < w.heap.size → w'.heap[b]? = w.heap[b]?)
    {A : Atom} (hA : A (fun b => if b = w.heap.size then some o else none)) : St W0 (A :: L) w' := by
  refine ⟨h1.trans h.os, h2.trans h.tape, h3.trans h.output, fun b => if b = w.heap.size then some o else none, fun b => w.heap[b]?, ⟨fun b => ?_, fun b o' e => ?_, fun b o' e => ?_⟩, hA, h.heap⟩
  · by_cases hb : b = w.heap.size
    · exact .inr (by subst hb; simp)
    · exact .inl (by simp [hb])
  · by_cases hb : b = w.heap.size
    · subst hb; simp at e; subst e; exact hn
    · simp [hb] at e
  · have hb : b < w.heap.size := (Array.getElem?_eq_some_iff.1 e).1
    exact (hold b hb).trans e
inductive EV where
  | v (x : Value)
  | gv (g : Bool) (x : Value)
def EV.val : EV → Value
  | .v x => x
  | .gv g x => bif g then x else undef
abbrev Env := List (Nat × EV)
def lk : Env → Nat → Option EV
  | [], _ => none
  | (t, x) :: e, n => bif Nat.beq t n then some x else lk e n
def ev (e : Env) : Operand → Option Value
  | .tmp t => match lk e t with
    | some (.v x) => some x
    | _ => none
  | .const v => some v
  | .global g => some (.pointer (some ⟨g, 0, none⟩))
  | .func f => some (.func (.func f) #[] #[])
def evs (e : Env) : List Operand → Option (List Value)
  | [] => some []
  | x :: r => match ev e x, evs e r with
    | some v, some vs => some (v :: vs)
    | _, _ => none
structure EnvOk (D : List Deferred) (n : Nat) (e : Env) (a : Act) : Prop where
  size : a.tmps.size = n
  defers : a.defers = D
  known : ∀ t x, lk e t = some x → a.tmps.getD t undef = x.val
theorem EnvOk.lk {D : List Deferred} {n : Nat} {e : Env} {a : Act} (h : EnvOk D n e a) {t : Nat} {v : Value} (hv : VK.lk e t = some (.v v)) : a.tmps.getD t undef = v := h.known t _ hv
theorem EnvOk.ev {D : List Deferred} {n : Nat} {e : Env} {a : Act} (h : EnvOk D n e a) {x : Operand} {v : Value} (hv : VK.ev e x = some v) : a.eval x = v := by
  cases x with
  | tmp t =>
    simp only [VK.ev] at hv
    split at hv
    · rename_i x hx
      cases hv
      exact h.known t _ hx
    · cases hv
  | _ => simpa [VK.ev, Act.eval] using hv
theorem EnvOk.evs {D : List Deferred} {n : Nat} {e : Env} {a : Act} (h : EnvOk D n e a) {l : List Operand} {vs : List Value} (hv : VK.evs e l = some vs) : l.map a.eval = vs := by
  induction l generalizing vs with
  | nil => simpa [VK.evs] using hv
  | cons x l ih =>
    simp only [VK.evs] at hv
    split at hv
    · rename_i v vs' h1 h2
      cases hv
      simp [h.ev h1, ih h2]
    · cases hv
theorem EnvOk.put {D : List Deferred} {n : Nat} {e : Env} {a : Act} (h : EnvOk D n e a) (d : Nat) (x : EV) (hd : Nat.blt d n = true) : EnvOk D n ((d, x) :: e) (a.put (some d) x.val) := by
  have hd' : d < a.tmps.size := by rw [h.size]; exact of_decide_eq_true (by simpa using hd)
  refine ⟨by simpa [Act.put] using h.size, h.defers, fun t u hu => ?_⟩
  simp only [VK.lk] at hu
  cases hb : Nat.beq d t with
  | true =>
    rw [hb] at hu
    have : d = t := Nat.eq_of_beq_eq_true hb
    subst this
    simp at hu
    subst hu
    simp [Act.put, hd']
  | false =>
    rw [hb] at hu
    have hne : d ≠ t := Nat.ne_of_beq_eq_false hb
    have := h.known t u (by simpa using hu)
    rw [← this]
    simp [Act.put, Array.getElem?_setIfInBounds_ne hne]
def EnvSub : Env → Env → Prop
  | [], _ => True
  | (t, v) :: e', e => lk e t = some v ∧ EnvSub e' e
theorem EnvSub.known {e' e : Env} (h : EnvSub e' e) : ∀ t v, lk e' t = some v → lk e t = some v := by
  induction e' with
  | nil => intro t v h; cases h
  | cons p e' ih =>
    obtain ⟨t0, v0⟩ := p
    intro t v hv
    simp only [lk] at hv
    cases hb : Nat.beq t0 t with
    | true =>
      rw [hb] at hv
      have : t0 = t := Nat.eq_of_beq_eq_true hb
      subst this
      simp at hv
      subst hv
      exact h.1
    | false => rw [hb] at hv; exact ih h.2 t v (by simpa using hv)
theorem EnvOk.sub {D : List Deferred} {n : Nat} {e e' : Env} {a : Act} (h : EnvOk D n e a) (s : EnvSub e' e) : EnvOk D n e' a := ⟨h.size, h.defers, fun t v hv => h.known t v (s.known t v hv)⟩
section
variable {P : Program} {ops : Array Oper} {Q : Exit → Act → World → Prop} {md : Region.Mode} {S : World → Prop}
def wpAnyZ (P : Program) (md : Region.Mode) (ops : Array Oper) (Q : Exit → Act → World → Prop) (S : World → Prop) (z : Nat) : Nat → Array Bool → Act → World → Prop
  | 0, listed, a, w => Region.ready md ops listed = [] ∧ Q .normal a w
  | fuel + 1, listed, a, w =>
    (Region.ready md ops listed = [] → Q .normal a w) ∧
    ∀ i ∈ Region.ready md ops listed, wpOp P ops Q i (fun a' w' => ((listed.setIfInBounds i true).getD z true = false → S w') ∧ wpAnyZ P md ops Q S z fuel (listed.setIfInBounds i true) a' w') a w
theorem wpAny_of_z {z : Nat} : ∀ (fuel : Nat) (listed : Array Bool) (a : Act) (w : World), wpAnyZ P md ops Q S z fuel listed a w → wpAny P md ops Q fuel listed a w
  | 0, _, _, _, h => h
  | fuel + 1, _, _, _, h => ⟨h.1, fun i hi => wpOp_mono (fun a' w' h' => wpAny_of_z fuel _ a' w' h'.2) (h.2 i hi)⟩
theorem wpAnyZ_first {z i : Nat} {oi : Oper} {v : Value} {U : List Nat} (hi : ops[i]? = some oi) (hsel : ∀ (j : Nat) (o : Oper) cs b, ops[j]? = some o → o.op ≠ .select cs b)
    (hQ : ∀ c a w, Q (.panic c) (a.put oi.dst v) w → Q (.panic c) a w) (hzU : z ∈ U) (hU : ∀ u ∈ U, u ≠ i ∧ ∃ ou, ops[u]? = some ou ∧ ∃ e ∈ ou.after, Region.binds md e = true ∧ (e.on = i ∨ e.on ∈ U)) :
    ∀ (fuel : Nat) (listed : Array Bool) (a : Act) (w : World),
      (∀ j oj, ops[j]? = some oj → j ≠ i → listed.getD j true = false → (∀ e ∈ oj.after, Region.binds md e = true → e.on ≠ i) → oi.apart ops oj = true) →
      i ∈ Region.ready md ops listed → (∀ u ∈ U, listed.getD u true = false) → YieldsIf P ops S oi v a → S w →
      wpAnyZ P md ops Q S z fuel (listed.setIfInBounds i true) (a.put oi.dst v) w → wpAnyZ P md ops Q S z (fuel + 1) listed a w := by
  intro fuel
  induction fuel with
  | zero =>
    intro listed a w _ hr hz hy hS H
    refine ⟨fun h => (by rw [h] at hr; cases hr), fun j hj => ?_⟩
    by_cases hji : j = i
    · subst hji; exact hy.wpOp hi hS ⟨fun _ => hS, H⟩
    · have := ready_mono hj hji
      rw [H.1] at this
      cases this
  | succ fuel ih =>
    intro listed a w hfree hr hz hy hS H
    refine ⟨fun h => (by rw [h] at hr; cases hr), fun j hj => ?_⟩
    by_cases hji : j = i
    · subst hji; exact hy.wpOp hi hS ⟨fun _ => hS, H⟩
    · have h1 := H.2 j (ready_mono hj hji)
      obtain ⟨hjun, oj, hoj, hall⟩ := mem_ready.1 hj
      have hnot : ∀ e ∈ oj.after, Region.binds md e = true → e.on ≠ i := fun e he hb heq => by
        have h1 := hall e he hb
        have h0 := (mem_ready.1 hr).1
        rw [heq] at h1
        rcases Nat.lt_or_ge i listed.size with h' | h'
        · simp [h'] at h0 h1; rw [h0] at h1; cases h1
        · simp [Array.getElem?_eq_none h'] at h1
      have hjU : j ∉ U := by
        intro hju
        obtain ⟨_, ou, hou, e, he, hb, hon⟩ := hU j hju
        rw [hoj] at hou
        cases hou
        rcases hon with hon | hon
        · exact hnot e he hb hon
        · have h1 := hall e he hb
          have h0 := hz _ hon
          rcases Nat.lt_or_ge e.on listed.size with h' | h'
          · simp [h'] at h0 h1; rw [h0] at h1; cases h1
          · simp [Array.getElem?_eq_none h'] at h1
      have hjz : j ≠ z := fun e => hjU (e ▸ hzU)
      have hiz : i ≠ z := fun e => (hU z hzU).1 e.symm
      have hzj : ∀ u ∈ U, (listed.setIfInBounds j true).getD u true = false := fun u hu => by
        have hju : j ≠ u := by rintro rfl; exact hjU hu
        rw [getD_set_ne true hju]; exact hz u hu
      have hzij : ((listed.setIfInBounds i true).setIfInBounds j true).getD z true = false := by
        rw [getD_set_ne true hjz, getD_set_ne true hiz]; exact hz z hzU
      have h2 := wpOp_putIf hoj (hfree j oj hoj hji hjun hnot) (fun cs b => hsel i oi cs b hi) (fun cs b => hsel j oj cs b hoj) hQ hy h1
      have hfree' : ∀ k ok, ops[k]? = some ok → k ≠ i → (listed.setIfInBounds j true).getD k true = false →
          (∀ e ∈ ok.after, Region.binds md e = true → e.on ≠ i) → oi.apart ops ok = true := fun k ok hk hki hun hno => by
        refine hfree k ok hk hki ?_ hno
        by_cases hjk : j = k
        · subst hjk; exact hjun
        · rw [getD_set_ne true hjk] at hun; exact hun
      refine wpOp_mono (fun a' w' h3 => ⟨fun _ => h3.2.1 hzij, ih (listed.setIfInBounds j true) a' w' hfree' (ready_mono hr (Ne.symm hji)) hzj h3.1 (h3.2.1 hzij) ?_⟩) h2
      rw [Array.setIfInBounds_comm _ _ hji]
      exact h3.2.2
theorem wpAnyZ_all {z : Nat} {rs : List Nat} {fuel : Nat} {listed : Array Bool} {a : Act} {w : World} (hr : Region.ready md ops listed = rs) (hne : rs ≠ [])
    (h : ∀ i ∈ rs, wpOp P ops Q i (fun a' w' => ((listed.setIfInBounds i true).getD z true = false → S w') ∧ wpAnyZ P md ops Q S z fuel (listed.setIfInBounds i true) a' w') a w) : wpAnyZ P md ops Q S z (fuel + 1) listed a w :=
  ⟨fun h0 => absurd (hr ▸ h0) hne, hr ▸ h⟩
theorem wpAnyZ_done {z : Nat} {listed : Array Bool} {a : Act} {w : World} (hr : Region.ready md ops listed = []) (h : Q .normal a w) : ∀ fuel, wpAnyZ P md ops Q S z fuel listed a w
  | 0 => ⟨hr, h⟩
  | _ + 1 => ⟨fun _ => h, by rw [hr]; simp⟩
end
inductive KI where
  | code (c : Code)
  | blk (id : Nat)
  | loop (J : Act → World → Prop)
  | draw (all : List Oper) (fuel : Nat) (listed : Array Bool)
  | held (all : List Oper) (fuel : Nat) (listed : Array Bool) (S : World → Prop)
  | heldz (all : List Oper) (fuel : Nat) (listed : Array Bool) (S : World → Prop) (z : Nat)
structure Cx where
  P : Program
  n : Nat
  fn : Func
  R : Value → List Atom → Prop
  W0 : World
  D : List Deferred := []
  mode : Option (Option Nat) := none
  Qo : Option (Exit → Act → World → Prop) := none
  RP : List PanicEntry → List Atom → Prop := fun _ _ => False
def fen (ro : Option Nat) : Fence := { Fence.wide with round := ro }
def Cx.wp (c : Cx) (code : Code) (Q : Exit → Act → World → Prop) (a : Act) (w : World) : Prop :=
  match c.mode with
  | none => code.wp c.P Q a w
  | some ro => code.wpIn (fen ro) 0 c.P Q a w
def Cx.wpL (c : Cx) (all : List Oper) (Q : Exit → Act → World → Prop) (ops : List Oper) (a : Act) (w : World) : Prop :=
  match c.mode with
  | none => wpList c.P all.toArray Q ops a w
  | some ro => wpListIn (fen ro) 0 c.P all.toArray Q ops a w
def kq (c : Cx) : List KI → (Exit → Act → World → Prop) → Exit → Act → World → Prop
  | [], Q => Q
  | .code x :: k, Q => Exit.then (c.wp x (kq c k Q)) (kq c k Q)
  | .blk id :: k, Q => Exit.inBlock id (kq c k Q)
  | .loop J :: k, Q => Exit.then J (kq c k Q)
  | .draw all fuel listed :: k, Q => Exit.then (wpAny c.P .any all.toArray (kq c k Q) fuel listed) (kq c k Q)
  | .held all fuel listed S :: k, Q => Exit.then (fun a w => S w ∧ wpAnyH c.P .any all.toArray (kq c k Q) S fuel listed a w) (kq c k Q)
  | .heldz all fuel listed S z :: k, Q => Exit.then (fun a w => (listed.getD z true = false → S w) ∧ wpAnyZ c.P .any all.toArray (kq c k Q) S z fuel listed a w) (kq c k Q)
def mark (d : Nat) : Deferred := { target := .collected d, args := #[] }
def Cx.post (c : Cx) : Ending → World → Prop := fun e w => ∃ v L, e = .returned v ∧ c.R v L ∧ St c.W0 L w
def Cx.postP (c : Cx) : Ending → World → Prop := fun e w => c.post e w ∨ ∃ ch L, e = .panicked ch ∧ c.RP ch L ∧ St c.W0 L w
def endQ (c : Cx) (a : Act) (w : World) : Prop :=
  (a.defers = [] ∧ ∃ v, (results c.fn a.tmps).run c.P w = .ok v w ∧ c.post (.returned v) w) ∨
  (∃ d w', a.defers = [mark d] ∧ (Instr.takeDeferred d).run c.P w = .ok [] w' ∧ ∃ v, (results c.fn a.tmps).run c.P w' = .ok v w' ∧ c.post (.returned v) w')
def Cx.Q0 (c : Cx) : Exit → Act → World → Prop
  | .normal, a, w => endQ c a w
  | .ret, a, w => endQ c a w
  | .panic ch, a, w => a.defers = [] ∧ ∃ L, c.RP ch L ∧ St c.W0 L w
  | e, a, w => bodyPost c.P c.fn c.post e a w
def Cx.Q (c : Cx) : Exit → Act → World → Prop := c.Qo.getD c.Q0
def Run (c : Cx) (code : Code) (k : List KI) (E : Env) (L : List Atom) : Prop :=
  ∀ a w, EnvOk c.D c.n E a → St c.W0 L w → c.wp code (kq c k c.Q) a w
def Ops (c : Cx) (all : List Oper) (ops : List Oper) (k : List KI) (E : Env) (L : List Atom) : Prop :=
  ∀ a w, EnvOk c.D c.n E a → St c.W0 L w → c.wpL all (kq c k c.Q) ops a w
def Cont (c : Cx) (k : List KI) (E : Env) (L : List Atom) : Prop :=
  ∀ a w, EnvOk c.D c.n E a → St c.W0 L w → kq c k c.Q .normal a w
section
variable {c : Cx} {Q : Exit → Act → World → Prop} {a : Act} {w : World}
theorem m_seq {x y : Code} (h : c.wp x (Exit.then (c.wp y Q) Q) a w) : c.wp (.seq x y) Q a w := by
  unfold Cx.wp at *
  cases hm : c.mode with
  | none => simp only [hm] at h ⊢; exact wp_seq h
  | some ro => simp only [hm] at h ⊢; exact wpIn_seq h
theorem m_block {id : Nat} {x : Code} (h : c.wp x (Exit.inBlock id Q) a w) : c.wp (.block id x) Q a w := by
  unfold Cx.wp at *
  cases hm : c.mode with
  | none => simp only [hm] at h ⊢; exact wp_block h
  | some ro => simp only [hm] at h ⊢; exact wpIn_block h
theorem m_skip (h : Q .normal a w) : c.wp .skip Q a w := by
  unfold Cx.wp
  cases hm : c.mode with
  | none => exact wp_skip h
  | some ro => exact wpIn_skip h
theorem m_exit {id : Nat} (h : Q (.exit id) a w) : c.wp (.exit id) Q a w := by
  unfold Cx.wp
  cases hm : c.mode with
  | none => exact wp_exit h
  | some ro => exact wpIn_exit h
theorem m_ret (h : Q .ret a w) : c.wp .ret Q a w := by
  unfold Cx.wp
  cases hm : c.mode with
  | none => exact wp_ret h
  | some ro => exact wpIn_ret h
theorem m_cond {x : Operand} {A B : Code} {t : Bool} (hc : a.eval x = .bool t) (ht : t = true → c.wp A Q a w) (hf : t = false → c.wp B Q a w) : c.wp (.cond x A B) Q a w := by
  unfold Cx.wp at *
  cases hm : c.mode with
  | none => simp only [hm] at ht hf ⊢; exact wp_cond_split hc ht hf
  | some ro => simp only [hm] at ht hf ⊢; exact wpIn_cond_split hc ht hf
theorem m_region {id : Nat} {l : List Oper} (h : c.wpL l Q l a w) : c.wp (.region id l.toArray false) Q a w := by
  unfold Cx.wp
  unfold Cx.wpL at h
  cases hm : c.mode with
  | none => simp only [hm] at h ⊢; exact wp_region_lit h
  | some ro => simp only [hm] at h ⊢; exact wpIn_region_lit h
theorem m_mono {x : Code} {Q' : Exit → Act → World → Prop} (h : c.wp x Q a w) (hq : ∀ e a w, Q e a w → Q' e a w) : c.wp x Q' a w := by
  unfold Cx.wp at *
  cases hm : c.mode with
  | none => simp only [hm] at h ⊢; exact wp_mono h hq
  | some ro => simp only [hm] at h ⊢; exact wpIn_mono h hq
theorem m_loop {x : Code} (I : Act → World → Prop) (μ : Act → World → Nat) (h0 : I a w) (round : ∀ a w, I a w → c.wp x (Exit.then (fun a' w' => I a' w' ∧ μ a' w' < μ a w) Q) a w) : c.wp (.loop x) Q a w := by
  unfold Cx.wp at *
  cases hm : c.mode with
  | none => simp only [hm] at round ⊢; exact wp_loop I μ h0 round
  | some ro => simp only [hm] at round ⊢; exact wpIn_loop I μ h0 round
theorem m_nil {all : List Oper} (h : Q .normal a w) : c.wpL all Q [] a w := by
  unfold Cx.wpL
  cases hm : c.mode with
  | none => exact h
  | some ro => exact wpListIn_nil h
theorem semAt_val {P : Program} {o : Oper} {ro : Option Nat} {ρ : Operand → Value} {w w' : World} {x : Next} (hx : (execOp ρ o).run P w = .ok x w') (hd : ∀ d, x ≠ .defer d) : (o.semAt ro ρ).run P w = .ok x w' := by
  rw [Oper.semAt_eq ro ρ o ?_]
  · exact hx
  · intro cc hc
    simp only [execOp, hc, Sem.run_bind, Sem.run_pure] at hx
    cases hr : (resolve ρ cc o.type).run P w with
    | ok d w1 =>
      rw [hr] at hx
      simp only [Result.andThen_ok, Result.ok.injEq] at hx
      exact hd d hx.1.symm
    | halt s w1 => rw [hr] at hx; simp [Result.andThen] at hx
theorem m_val {all rest : List Oper} {o : Oper} {v : Value} {w' : World} (hg : o.guard = none) (hr : (execOp a.eval o).run c.P w = .ok (.value v) w') (h : c.wpL all Q rest (a.put o.dst v) w') : c.wpL all Q (o :: rest) a w := by
  unfold Cx.wpL at *
  cases hm : c.mode with
  | none =>
    simp only [hm] at h ⊢
    refine wpList_plain hg fun K hK => ?_
    simp only [Oper.wp, hr, Oper.upon]
    exact hK _ _ h
  | some ro =>
    simp only [hm] at h ⊢
    refine wpListIn_plain hg fun K hK => ⟨fun _ _ => trivial, ?_⟩
    rw [semAt_val hr (fun d e => by cases e)]
    exact hK _ _ h
theorem m_void {all rest : List Oper} {o : Oper} {w' : World} (hg : o.guard = none) (hr : (execOp a.eval o).run c.P w = .ok .skip w') (h : c.wpL all Q rest (a.put o.dst undef) w') : c.wpL all Q (o :: rest) a w := by
  unfold Cx.wpL at *
  cases hm : c.mode with
  | none =>
    simp only [hm] at h ⊢
    refine wpList_plain hg fun K hK => ?_
    simp only [Oper.wp, hr, Oper.upon]
    exact hK _ _ h
  | some ro =>
    simp only [hm] at h ⊢
    refine wpListIn_plain hg fun K hK => ⟨fun _ _ => trivial, ?_⟩
    rw [semAt_val hr (fun d e => by cases e)]
    exact hK _ _ h
theorem callsIn_fen {ro : Option Nat} {n : Nat} {P : Program} {f : FuncId} {args : Array Value} {R : Ending → World → Prop} (h : Calls P f args w R) : CallsIn (fen ro) n P f args w R := by
  have h1 : CallsIn Fence.wide n P f args w R := callsIn_wide.2 h
  cases ro with
  | none => exact h1
  | some l => exact CallsIn.inRound l h1
theorem m_enter {all rest : List Oper} {o : Oper} {f : FuncId} {args : Array Value} {w' : World} (hg : o.guard = none) (hr : (execOp a.eval o).run c.P w = .ok (.enter f args) w') {R : Ending → World → Prop} (hc : Calls c.P f args w' R)
    (h : ∀ e w'', R e w'' → ∃ v, e = .returned v ∧ c.wpL all Q rest (a.put o.dst v) w'') : c.wpL all Q (o :: rest) a w := by
  unfold Cx.wpL at *
  cases hm : c.mode with
  | none =>
    simp only [hm] at h ⊢
    refine wpList_plain hg fun K hK => ?_
    simp only [Oper.wp, hr, Oper.upon]
    refine hc.mono fun e w'' he => ?_
    obtain ⟨v, rfl, hk⟩ := h e w'' he
    exact hK _ _ hk
  | some ro =>
    simp only [hm] at h ⊢
    refine wpListIn_plain hg fun K hK => ⟨fun _ _ => trivial, ?_⟩
    rw [semAt_val hr (fun d e => by cases e)]
    refine ⟨fun hd => (by cases hd), CallsIn.mono (callsIn_fen hc) ?_⟩
    intro e w'' he
    obtain ⟨v, rfl, hk⟩ := h e w'' he
    exact hK _ _ hk
theorem m_off {all rest : List Oper} {o : Oper} (hw : Region.wanted o (yielded all.toArray a.tmps) = false) (h : c.wpL all Q rest (a.put o.dst undef) w) : c.wpL all Q (o :: rest) a w := by
  unfold Cx.wpL at *
  cases hm : c.mode with
  | none => simp only [hm] at h ⊢; unfold wpList; rw [hw]; simpa using h
  | some ro => simp only [hm] at h ⊢; unfold wpListIn; rw [hw]; exact ⟨fun _ _ => trivial, h⟩
theorem m_on {all rest : List Oper} {d : Option Nat} {op : Op} {ty : TypeId} {pos : String} {aft : Array Edge} {g : Nat × Bool} (hw : Region.wanted ⟨d, op, ty, pos, aft, some g⟩ (yielded all.toArray a.tmps) = true)
    (h : c.wpL all Q (⟨d, op, ty, pos, aft, none⟩ :: rest) a w) : c.wpL all Q (⟨d, op, ty, pos, aft, some g⟩ :: rest) a w := by
  have hn : Region.wanted (⟨d, op, ty, pos, aft, none⟩ : Oper) (yielded all.toArray a.tmps) = true := by simp [Region.wanted]
  unfold Cx.wpL at *
  cases hm : c.mode with
  | none => simp only [hm] at h ⊢; unfold wpList at h ⊢; rw [hw]; rw [hn] at h; exact h
  | some ro => simp only [hm] at h ⊢; unfold wpListIn at h ⊢; rw [hw]; rw [hn] at h; exact h
end
section
variable {c : Cx} {k : List KI} {E : Env} {L : List Atom}
theorem rS {x y : Code} (h : Run c x (.code y :: k) E L) : Run c (.seq x y) k E L := fun a w he hs => m_seq (h a w he hs)
theorem r_block {id : Nat} {x : Code} (h : Run c x (.blk id :: k) E L) : Run c (.block id x) k E L := fun a w he hs => m_block (h a w he hs)
theorem r_skip (h : Cont c k E L) : Run c .skip k E L := fun a w he hs => m_skip (h a w he hs)
theorem cC {x : Code} (h : Run c x k E L) : Cont c (.code x :: k) E L := h
theorem c_blk {id : Nat} (h : Cont c k E L) : Cont c (.blk id :: k) E L := h
theorem rR {id : Nat} {l : List Oper} (h : Ops c l l k E L) : Run c (.region id l.toArray false) k E L := fun a w he hs => m_region (h a w he hs)
theorem oN {all : List Oper} (h : Cont c k E L) : Ops c all [] k E L := fun a w he hs => m_nil (h a w he hs)
theorem r_cond {x : Operand} {A B : Code} {b : Bool} (hx : ev E x = some (.bool b)) (ht : b = true → Run c A k E L) (hf : b = false → Run c B k E L) : Run c (.cond x A B) k E L := fun a w he hs =>
  m_cond (he.ev hx) (fun h => ht h a w he hs) (fun h => hf h a w he hs)
theorem r_cond_true {x : Operand} {A B : Code} (hx : ev E x = some (.bool true)) (ht : Run c A k E L) : Run c (.cond x A B) k E L := fun a w he hs =>
  m_cond (he.ev hx) (fun _ => ht a w he hs) (fun h => by cases h)
theorem r_cond_false {x : Operand} {A B : Code} (hx : ev E x = some (.bool false)) (ht : Run c B k E L) : Run c (.cond x A B) k E L := fun a w he hs =>
  m_cond (he.ev hx) (fun h => by cases h) (fun _ => ht a w he hs)
def popTo (id : Nat) : List KI → Option (List KI)
  | [] => none
  | .blk id' :: k => bif Nat.beq id id' then some k else popTo id k
  | _ :: k => popTo id k
theorem kq_exit {c : Cx} {id : Nat} {Q : Exit → Act → World → Prop} {a : Act} {w : World} : ∀ {k k' : List KI}, popTo id k = some k' → kq c k' Q .normal a w → kq c k Q (.exit id) a w
  | [], _, h, _ => by cases h
  | .blk id' :: k, k', h, hq => by
    simp only [popTo] at h
    simp only [kq, Exit.inBlock]
    cases hb : Nat.beq id id' with
    | true =>
      rw [hb] at h; simp at h; subst h
      rw [if_pos (Nat.eq_of_beq_eq_true hb)]; exact hq
    | false =>
      rw [hb] at h
      rw [if_neg (Nat.ne_of_beq_eq_false hb)]; exact kq_exit (by simpa using h) hq
  | .code _ :: k, k', h, hq => kq_exit (k := k) (k' := k') h hq
  | .loop _ :: k, k', h, hq => kq_exit (k := k) (k' := k') h hq
  | .draw _ _ _ :: k, k', h, hq => kq_exit (k := k) (k' := k') h hq
  | .held _ _ _ _ :: k, k', h, hq => kq_exit (k := k) (k' := k') h hq
  | .heldz _ _ _ _ _ :: k, k', h, hq => kq_exit (k := k) (k' := k') h hq
theorem r_exit {id : Nat} {k' : List KI} (hp : popTo id k = some k') (h : Cont c k' E L) : Run c (.exit id) k E L := fun a w he hs => m_exit (kq_exit hp (h a w he hs))
theorem kq_ret {c : Cx} {Q : Exit → Act → World → Prop} {a : Act} {w : World} (h : Q .ret a w) : ∀ {k : List KI}, kq c k Q .ret a w
  | [] => h
  | .blk _ :: k => kq_ret (k := k) h
  | .code _ :: k => kq_ret (k := k) h
  | .loop _ :: k => kq_ret (k := k) h
  | .draw _ _ _ :: k => kq_ret (k := k) h
  | .held _ _ _ _ :: k => kq_ret (k := k) h
  | .heldz _ _ _ _ _ :: k => kq_ret (k := k) h
theorem kq_panic {c : Cx} {Q : Exit → Act → World → Prop} {ch : List PanicEntry} {a a' : Act} {w : World} (h : Q (.panic ch) a w → Q (.panic ch) a' w) : ∀ {k : List KI}, kq c k Q (.panic ch) a w → kq c k Q (.panic ch) a' w
  | [] => h
  | .blk _ :: k => kq_panic (k := k) h
  | .code _ :: k => kq_panic (k := k) h
  | .loop _ :: k => kq_panic (k := k) h
  | .draw _ _ _ :: k => kq_panic (k := k) h
  | .held _ _ _ _ :: k => kq_panic (k := k) h
  | .heldz _ _ _ _ _ :: k => kq_panic (k := k) h
def resV (E : Env) : List ResultVar → Option (List Value)
  | [] => some []
  | .tmp t :: r => match lk E t, resV E r with
    | some (.v v), some vs => some (v :: vs)
    | _, _ => none
  | .cell _ _ :: _ => none
def tupV : List Value → Value
  | [v] => v
  | vs => .tuple vs.toArray
theorem run_results {fn : Func} {P : Program} {D : List Deferred} {n : Nat} {a : Act} {w : World} {rs : List ResultVar} {vs : List Value} (hr : fn.results = rs.toArray) (hv : resV E rs = some vs) (he : EnvOk D n E a) :
    (results fn a.tmps).run P w = .ok (tupV vs) w := by
  have key : ∀ (g : ResultVar → Sem Value), (∀ t, g (.tmp t) = pure (a.tmps.getD t undef)) → ∀ (rs : List ResultVar) (vs acc : List Value), resV E rs = some vs →
      (List.mapM.loop (m := Sem) g rs acc).run P w = .ok (acc.reverse ++ vs) w := by
    intro g hg rs
    induction rs with
    | nil => intro vs acc h; simp [resV] at h; subst h; simp [List.mapM.loop]
    | cons r rs ih =>
      intro vs acc h
      cases r with
      | cell _ _ => simp [resV] at h
      | tmp t =>
        simp only [resV] at h
        split at h
        · rename_i v vs' h1 h2
          cases h
          have hk : a.tmps.getD t undef = v := he.known t _ h1
          simp only [List.mapM.loop, hg, hk, Sem.run_bind, Sem.run_pure, Result.andThen_ok]
          rw [ih vs' (v :: acc) h2]
          simp
        · cases h
  unfold results
  rw [hr]
  simp only [List.mapM_toArray, List.mapM, Sem.run_bind, Sem.run_map]
  rw [key _ (fun t => rfl) rs vs [] hv]
  simp only [Result.andThen_ok, List.reverse_nil, List.nil_append]
  cases vs with
  | nil => simp [tupV]
  | cons v vs => cases vs <;> simp [tupV]
theorem endQ_ret {a : Act} {w : World} (hQ : c.Qo = none) (h : endQ c a w) : c.Q .ret a w := by
  unfold Cx.Q; rw [hQ]; exact h
theorem endQ_end {a : Act} {w : World} (hQ : c.Qo = none) (h : endQ c a w) : kq c [] c.Q .normal a w := by
  show c.Q .normal a w
  unfold Cx.Q; rw [hQ]; exact h
theorem r_ret {rs : List ResultVar} {vs : List Value} (hr : c.fn.results = rs.toArray) (hv : resV E rs = some vs) (L' : List Atom) (hL : Ent L L') (h : c.R (tupV vs) L') (hD : c.D = [] := by rfl) (hQ : c.Qo = none := by rfl) : Run c .ret k E L := fun _ _ he hs =>
  m_ret (kq_ret (endQ_ret hQ (.inl ⟨he.defers.trans hD, tupV vs, run_results hr hv he, tupV vs, L', rfl, h, hs.ent hL⟩)))
theorem c_end {rs : List ResultVar} {vs : List Value} (hr : c.fn.results = rs.toArray) (hv : resV E rs = some vs) (L' : List Atom) (hL : Ent L L') (h : c.R (tupV vs) L') (hD : c.D = [] := by rfl) (hQ : c.Qo = none := by rfl) : Cont c [] E L := fun _ _ he hs =>
  endQ_end hQ (.inl ⟨he.defers.trans hD, tupV vs, run_results hr hv he, tupV vs, L', rfl, h, hs.ent hL⟩)
def Inv (c : Cx) {σ : Type} (I : σ → Prop) (μ : σ → Nat) (m : Nat) (G : σ → Env) (H : σ → List Atom) : Act → World → Prop :=
  fun a w => ∃ x, I x ∧ μ x < m ∧ EnvOk c.D c.n (G x) a ∧ St c.W0 (H x) w
noncomputable def lst (p : Nat → Prop) : Nat := Classical.epsilon fun m => p m ∧ ∀ m', p m' → m ≤ m'
theorem lst_spec {p : Nat → Prop} (h : ∃ n, p n) : p (lst p) ∧ ∀ m', p m' → lst p ≤ m' := by
  refine Classical.epsilon_spec (p := fun m => p m ∧ ∀ m', p m' → m ≤ m') ?_
  obtain ⟨n, hn⟩ := h
  induction n using Nat.strongRecOn with
  | _ n ih =>
    by_cases hm : ∃ m, m < n ∧ p m
    · obtain ⟨m, hlt, hm⟩ := hm; exact ih m hlt hm
    · exact ⟨n, hn, fun m' h' => by
        rcases Nat.lt_or_ge m' n with h2 | h2
        · exact absurd ⟨m', h2, h'⟩ hm
        · exact h2⟩
theorem r_loop {σ : Type} (I : σ → Prop) (μ : σ → Nat) (G : σ → Env) (H : σ → List Atom) (x0 : σ) {x : Code} (h0 : I x0) (hE : EnvSub (G x0) E) (hL : Ent L (H x0))
    (round : ∀ s, I s → Run c x (.loop (Inv c I μ (μ s) G H) :: k) (G s) (H s)) : Run c (.loop x) k E L := by
  intro a w he hs
  refine m_loop (fun a w => ∃ s, I s ∧ EnvOk c.D c.n (G s) a ∧ St c.W0 (H s) w) (fun a w => lst fun m => ∃ s, μ s = m ∧ I s ∧ EnvOk c.D c.n (G s) a ∧ St c.W0 (H s) w) ⟨x0, h0, he.sub hE, hs.ent hL⟩ ?_
  intro a w ⟨s0, g1, g2, g3⟩
  obtain ⟨⟨s, hμ, hI, hE', hS'⟩, _⟩ := lst_spec (p := fun m => ∃ s, μ s = m ∧ I s ∧ EnvOk c.D c.n (G s) a ∧ St c.W0 (H s) w) ⟨_, s0, rfl, g1, g2, g3⟩
  refine m_mono (round s hI a w hE' hS') ?_
  intro e a' w' hq
  cases e with
  | normal =>
    obtain ⟨s', hI', hlt, hE2, hS2⟩ := hq
    refine ⟨⟨s', hI', hE2, hS2⟩, ?_⟩
    have := (lst_spec (p := fun m => ∃ s, μ s = m ∧ I s ∧ EnvOk c.D c.n (G s) a' ∧ St c.W0 (H s) w') ⟨_, s', rfl, hI', hE2, hS2⟩).2 (μ s') ⟨s', rfl, hI', hE2, hS2⟩
    rw [← hμ]
    exact Nat.lt_of_le_of_lt this hlt
  | _ => exact hq
theorem c_loop {σ : Type} {I : σ → Prop} {μ : σ → Nat} {m : Nat} {G : σ → Env} {H : σ → List Atom} (x : σ) (hI : I x) (hμ : μ x < m) (hE : EnvSub (G x) E) (hL : Ent L (H x)) :
    Cont c (.loop (Inv c I μ m G H) :: k) E L := fun _ _ he hs => ⟨x, hI, hμ, he.sub hE, hs.ent hL⟩
end
def Fn (P : Program) (f : FuncId) (args : List Value) (L : List Atom) (R : Value → List Atom → Prop) : Prop :=
  ∀ W0 w, St W0 L w → Calls P f args.toArray w fun e w' => ∃ v L', e = .returned v ∧ R v L' ∧ St W0 L' w'
def argE : Nat → List Value → Env
  | _, [] => []
  | i, v :: r => (i, .v v) :: argE (i + 1) r
theorem lk_argE {l : List Value} : ∀ {i t : Nat} {v : EV}, lk (argE i l) t = some v → i ≤ t ∧ l[t - i]? = some v.val := by
  induction l with
  | nil => intro i t v h; cases h
  | cons u l ih =>
    intro i t v h
    simp only [argE, lk] at h
    cases hb : Nat.beq i t with
    | true =>
      rw [hb] at h
      have : i = t := Nat.eq_of_beq_eq_true hb
      subst this
      simp at h
      subst h
      simp [EV.val]
    | false =>
      rw [hb] at h
      obtain ⟨h1, h2⟩ := ih (by simpa using h)
      refine ⟨by omega, ?_⟩
      rw [show t - i = (t - (i + 1)) + 1 by omega]
      simpa using h2
theorem endMP {c : Cx} (hQ : c.Qo = none) {e : Exit} {a : Act} {w : World} (hq : kq c [] c.Q e a w) : bodyPostM Fence.wide 0 c.P c.fn c.postP e a w := by
  have hq : c.Q e a w := hq
  unfold Cx.Q at hq
  rw [hQ] at hq
  have key : endQ c a w → LeavesInM Fence.wide 0 c.P c.fn a.tmps c.postP a.defers .returning w := by
    rintro (⟨h1, v, h2, h3⟩ | ⟨d, w2, h1, h2, v, h3, h4⟩)
    · rw [h1]
      exact ⟨v, h2, .inl h3⟩
    · rw [h1]
      exact ⟨by simp, .inl ⟨d, w2, rfl, h2, v, h3, .inl h4⟩⟩
  cases e with
  | normal => exact key hq
  | ret => exact key hq
  | panic ch =>
    obtain ⟨h1, L, h2, h3⟩ := hq
    show LeavesInM _ _ _ _ _ _ a.defers _ _
    rw [h1]
    exact .inr ⟨ch, L, rfl, h2, h3⟩
  | outgrown => obtain ⟨v, L, h2, _⟩ := hq; cases h2
  | exit id => exact hq
  | goto l => exact hq
theorem postP_post {c : Cx} (hR : ∀ ch L, ¬ c.RP ch L) {e : Ending} {w : World} (h : c.postP e w) : c.post e w := by
  rcases h with h | ⟨ch, L, _, h, _⟩
  · exact h
  · exact (hR _ _ h).elim
theorem fn_callsP {c : Cx} {f : FuncId} {code : Code} {args : Array Value} {w : World} (hf : c.P.funcs[f]? = some c.fn) (hb : c.fn.body = some code) (hQ : c.Qo = none)
    (h : c.wp code (kq c [] c.Q) { tmps := args ++ Array.replicate (c.fn.ntmps - args.size) undef, defers := [] } w) (hm : c.mode = none := by rfl) : Calls c.P f args w c.postP := by
  refine callsIn_wide (n := 0).1 (callsIn_of_wp_marks hf hb trivial ?_ rfl)
  have h1 : code.wp c.P (kq c [] c.Q) { tmps := args ++ Array.replicate (c.fn.ntmps - args.size) undef, defers := [] } w := by
    unfold Cx.wp at h
    rw [hm] at h
    exact h
  exact wpIn_mono (wpIn_wide.2 h1) fun e a w' hq => endMP hQ hq
theorem fn_calls {c : Cx} {f : FuncId} {code : Code} {args : Array Value} {w : World} (hf : c.P.funcs[f]? = some c.fn) (hb : c.fn.body = some code) (hQ : c.Qo = none) (hR : ∀ ch L, ¬ c.RP ch L)
    (h : c.wp code (kq c [] c.Q) { tmps := args ++ Array.replicate (c.fn.ntmps - args.size) undef, defers := [] } w) (hm : c.mode = none := by rfl) : Calls c.P f args w c.post :=
  (fn_callsP hf hb hQ h hm).mono fun _ _ h => postP_post hR h
theorem fn_intro {P : Program} {f : FuncId} {fn : Func} {n : Nat} {code : Code} {args : List Value} {L : List Atom} {R : Value → List Atom → Prop}
    (hf : P.funcs[f]? = some fn) (hb : fn.body = some code) (hn : fn.ntmps = n) (ha : Nat.ble args.length n = true)
    (h : ∀ W0, Run { P := P, n := n, fn := fn, R := R, W0 := W0 } code [] (argE 0 args) L) : Fn P f args L R := by
  intro W0 w hs
  refine fn_calls (c := { P := P, n := n, fn := fn, R := R, W0 := W0 }) hf hb rfl (fun _ _ h => h) ?_
  refine h W0 _ w ⟨?_, rfl, fun t v hv => ?_⟩ hs
  · have : args.length ≤ n := by simpa using ha
    simp only [hn, Array.size_append, List.size_toArray, Array.size_replicate]
    omega
  · obtain ⟨_, h2⟩ := lk_argE hv
    simp only [Nat.sub_zero] at h2
    have hlt : t < args.length := (List.getElem?_eq_some_iff.1 h2).1
    simp only [Array.getD_eq_getD_getElem?]
    rw [Array.getElem?_append_left (by simpa using hlt)]
    simp [h2]
theorem Fn.mono {P : Program} {f : FuncId} {args : List Value} {L : List Atom} {R R' : Value → List Atom → Prop} (h : Fn P f args L R) (hr : ∀ v L', R v L' → R' v L') : Fn P f args L R' :=
  fun W0 w hs => (h W0 w hs).mono fun _ _ ⟨v, L', he, hR, hS⟩ => ⟨v, L', he, hr _ _ hR, hS⟩
theorem Fn.pre {P : Program} {f : FuncId} {args : List Value} {L L' : List Atom} {R : Value → List Atom → Prop} (h : Fn P f args L' R) (e : Ent L L') : Fn P f args L R :=
  fun W0 w hs => h W0 w (hs.ent e)
end VK
/- Own framework, part 2: the steps of a walk, operation by operation, that leave memory alone. No conditions. -/
namespace VK
open Go
section
variable {c : Cx} {k : List KI} {E : Env} {L : List Atom} {all rest : List Oper}
theorem wanted_none {o : Oper} {y : Nat → Option Bool} (h : o.guard = none) : Region.wanted o y = true := by simp [Region.wanted, h]
theorem o_run {d : Nat} {op : Op} {ty : TypeId} {pos : String} {aft : Array Edge}
    (h : ∀ a w, EnvOk c.D c.n E a → St c.W0 L w → ∃ v w' L', (execOp a.eval ⟨some d, op, ty, pos, aft, none⟩).run c.P w = .ok (.value v) w' ∧ St c.W0 L' w' ∧ Ops c all rest k ((d, .v v) :: E) L')
    (hd : Nat.blt d c.n = true) : Ops c all (⟨some d, op, ty, pos, aft, none⟩ :: rest) k E L := by
  intro a w he hs
  obtain ⟨v, w', L', hr, hs', hk⟩ := h a w he hs
  exact m_val rfl hr (hk _ w' (he.put d (.v v) hd) hs')
theorem o_run0 {op : Op} {ty : TypeId} {pos : String} {aft : Array Edge}
    (h : ∀ a w, EnvOk c.D c.n E a → St c.W0 L w → ∃ w' L', (execOp a.eval ⟨none, op, ty, pos, aft, none⟩).run c.P w = .ok .skip w' ∧ St c.W0 L' w' ∧ Ops c all rest k E L') :
    Ops c all (⟨none, op, ty, pos, aft, none⟩ :: rest) k E L := by
  intro a w he hs
  obtain ⟨w', L', hr, hs', hk⟩ := h a w he hs
  exact m_void rfl hr (hk _ w' he hs')
def Gives (c : Cx) (E : Env) (L : List Atom) (o : Oper) (v : Value) : Prop :=
  ∀ a w, EnvOk c.D c.n E a → St c.W0 L w → (execOp a.eval o).run c.P w = .ok (.value v) w
def Pures (c : Cx) (E : Env) (o : Oper) (v : Value) : Prop :=
  ∀ a, EnvOk c.D c.n E a → ∀ w, (execOp a.eval o).run c.P w = .ok (.value v) w
def Evs (c : Cx) (E : Env) (x : Operand) (v : Value) : Prop := ∀ a, EnvOk c.D c.n E a → a.eval x = v
theorem evv {x : Operand} {v : Value} (h : ev E x = some v) : Evs c E x v := fun _ he => he.ev h
theorem evg {t : Nat} {g : Bool} {v : Value} (h : lk E t = some (.gv g v)) (hg : g = true) : Evs c E (.tmp t) v := fun a he => by
  subst hg
  exact he.known t _ h
theorem Gives.as {o : Oper} {v v' : Value} (h : Gives c E L o v) (e : v = v') : Gives c E L o v' := e ▸ h
theorem oG {d : Nat} {op : Op} {ty : TypeId} {pos : String} {aft : Array Edge} {v0 v : Value}
    (h : Gives c E L ⟨some d, op, ty, pos, aft, none⟩ v0) (he : v0 = v) (hd : Nat.blt d c.n = true) (hk : Ops c all rest k ((d, .v v) :: E) L) : Ops c all (⟨some d, op, ty, pos, aft, none⟩ :: rest) k E L := by
  subst he
  exact o_run (fun a w he hs => ⟨v0, w, L, h a w he hs, hs, hk⟩) hd
def gsel (all : List Oper) (E : Env) (j : Nat) : Option EV := ((all[j]?).bind (·.dst)).bind (lk E)
def gcond (all : List Oper) (E : Env) (j : Nat) : Bool → Option Bool
  | true => match gsel all E j with
    | some (.v (.bool b)) => some b
    | some (.gv g (.bool b)) => some (g && b)
    | _ => none
  | false => match gsel all E j with
    | some (.v (.bool b)) => some (!b)
    | some (.gv g (.bool b)) => some (g && !b)
    | _ => none
theorem wanted_of {o : Oper} {j : Nat} {want : Bool} {x : EV} {a : Act} {D : List Deferred} {n : Nat} (hg : o.guard = some (j, want)) (hx : gsel all E j = some x) (he : EnvOk D n E a) :
    Region.wanted o (yielded all.toArray a.tmps) = (match x.val with | .bool b => b == want | _ => false) := by
  simp only [gsel] at hx
  cases h1 : (all[j]?).bind (·.dst) with
  | none => rw [h1] at hx; cases hx
  | some t =>
    rw [h1] at hx
    have hk := he.known t x hx
    have h2 : ((all.toArray)[j]?).bind (·.dst) = some t := by simpa using h1
    simp only [Region.wanted, hg, yielded, h2, Option.bind_some]
    rw [Array.getD_eq_getD_getElem?] at hk
    cases h3 : a.tmps[t]? with
    | none =>
      rw [h3] at hk
      simp at hk
      rw [← hk]
      simp [undef]
    | some u =>
      rw [h3] at hk
      simp at hk
      subst hk
      cases x.val <;> simp
theorem wanted_cond {o : Oper} {j : Nat} {want g : Bool} {a : Act} {D : List Deferred} {n : Nat} (hg : o.guard = some (j, want)) (hx : gcond all E j want = some g) (he : EnvOk D n E a) :
    Region.wanted o (yielded all.toArray a.tmps) = g := by
  cases hs : gsel all E j with
  | none => cases want <;> simp [gcond, hs] at hx
  | some x =>
    rw [wanted_of hg hs he]
    cases x with
    | v u => cases u <;> cases want <;> simp_all [gcond, EV.val]
    | gv g' u => cases u <;> cases want <;> cases g' <;> simp_all [gcond, EV.val, undef]
theorem o_lazy {d j : Nat} {want g : Bool} {op : Op} {ty : TypeId} {pos : String} {aft : Array Edge} {v0 v : Value}
    (hg : gcond all E j want = some g) (h : g = true → Gives c E L ⟨some d, op, ty, pos, aft, none⟩ v0) (he : v0 = v) (hd : Nat.blt d c.n = true)
    (hk : Ops c all rest k ((d, .gv g v) :: E) L) : Ops c all (⟨some d, op, ty, pos, aft, some (j, want)⟩ :: rest) k E L := by
  subst he
  intro a w hE hs
  have hw := wanted_cond (o := ⟨some d, op, ty, pos, aft, some (j, want)⟩) rfl hg hE
  cases g with
  | true => exact m_on hw (m_val rfl (h rfl a w hE hs) (hk _ w (hE.put d (.gv true v0) hd) hs))
  | false => exact m_off hw (hk _ w (hE.put d (.gv false v0) hd) hs)
theorem o_gyes {dst : Option Nat} {j : Nat} {want : Bool} {op : Op} {ty : TypeId} {pos : String} {aft : Array Edge}
    (hg : gcond all E j want = some true) (hk : Ops c all (⟨dst, op, ty, pos, aft, none⟩ :: rest) k E L) : Ops c all (⟨dst, op, ty, pos, aft, some (j, want)⟩ :: rest) k E L := by
  intro a w hE hs
  exact m_on (wanted_cond (o := ⟨dst, op, ty, pos, aft, some (j, want)⟩) rfl hg hE) (hk a w hE hs)
def QGives (c : Cx) (all : List Oper) (E : Env) (L : List Atom) (o : Oper) (x : EV) : Prop :=
  ∀ a, EnvOk c.D c.n E a → YieldsIf c.P all.toArray (fun w => St c.W0 L w) o x.val a
def QOps (c : Cx) (all : List Oper) (k : List KI) (L : List Atom) : List Oper → Env → Prop
  | [], E => Cont c k E L
  | o :: rest, E => ∃ d x, o.dst = some d ∧ Nat.blt d c.n = true ∧ QGives c all E L o x ∧ QOps c all k L rest ((d, x) :: E)
theorem q_nil (h : Cont c k E L) : QOps c all k L [] E := h
theorem q_give {d : Nat} {op : Op} {ty : TypeId} {pos : String} {aft : Array Edge} {v0 v : Value}
    (h : Gives c E L ⟨some d, op, ty, pos, aft, none⟩ v0) (he : v0 = v) (hd : Nat.blt d c.n = true) (hk : QOps c all k L rest ((d, .v v) :: E)) : QOps c all k L (⟨some d, op, ty, pos, aft, none⟩ :: rest) E := by
  subst he
  exact ⟨d, .v v0, rfl, hd, fun a hE => .inl ⟨wanted_none rfl, fun w hs => h a w hE hs⟩, hk⟩
theorem q_lazy {d j : Nat} {want g : Bool} {op : Op} {ty : TypeId} {pos : String} {aft : Array Edge} {v0 v : Value}
    (hg : gcond all E j want = some g) (h : g = true → Gives c E L ⟨some d, op, ty, pos, aft, none⟩ v0) (he : v0 = v) (hd : Nat.blt d c.n = true)
    (hk : QOps c all k L rest ((d, .gv g v) :: E)) : QOps c all k L (⟨some d, op, ty, pos, aft, some (j, want)⟩ :: rest) E := by
  subst he
  refine ⟨d, .gv g v0, rfl, hd, fun a hE => ?_, hk⟩
  have hw := wanted_cond (o := ⟨some d, op, ty, pos, aft, some (j, want)⟩) rfl hg hE
  cases g with
  | true => exact .inl ⟨hw, fun w hs => h rfl a w hE hs⟩
  | false => exact .inr ⟨hw, rfl⟩
theorem panic_put (hQo : c.Qo = none) {ch : List PanicEntry} {a : Act} {d : Option Nat} {x : Value} {w : World} (h : c.Q (.panic ch) (a.put d x) w) : c.Q (.panic ch) a w := by
  unfold Cx.Q at *
  rw [hQo] at *
  cases d <;> exact h
def listedTo (n : Nat) : Nat → Array Bool
  | 0 => Array.replicate n false
  | i + 1 => (listedTo n i).setIfInBounds i true
def qchk (ops : Array Oper) : Bool :=
  Region.noSelect ops && (List.range ops.size).all fun i => Region.free .any ops (listedTo ops.size i) i && (Region.ready .any ops (listedTo ops.size i)).contains i
theorem listedTo_getD (n : Nat) : ∀ i j, i ≤ n → (listedTo n i).getD j true = (decide (j < i) || decide (n ≤ j))
  | 0, j, _ => by
    by_cases hj : j < n
    · simp [listedTo, hj]
    · simp [listedTo, hj]; omega
  | i + 1, j, hi => by
    have ih := listedTo_getD n i j (by omega)
    by_cases hij : i = j
    · subst hij
      have hsz : ∀ m, (listedTo n m).size = n := fun m => by induction m with
        | zero => simp [listedTo]
        | succ m ih => simp [listedTo, ih]
      have : i < (listedTo n i).size := by rw [hsz]; omega
      simp only [listedTo]
      simp [this]
    · simp only [listedTo]
      rw [getD_set_ne true hij, ih]
      by_cases hj : j < i
      · simp [hj, show j < i + 1 by omega]
      · simp [hj, show ¬ j < i + 1 by omega]
theorem r_quiet {id : Nat} {l : List Oper} (hm : c.P.follows .mixedOrders = true) (hc : qchk l.toArray = true) (h : QOps c l k L l E) (hro : c.mode = none := by rfl) (hQo : c.Qo = none := by rfl) : Run c (.region id l.toArray true) k E L := by
  intro a w he hs
  unfold Cx.wp
  rw [hro]
  refine wp_region_held (S := fun w => St c.W0 L w) hm ?_
  simp only [qchk, Bool.and_eq_true, List.all_eq_true, List.mem_range] at hc
  obtain ⟨hsel, hall⟩ := hc
  have key : ∀ (m i : Nat) (E : Env) (a : Act) (w : World), i + m = l.toArray.size → QOps c l k L (l.drop i) E → EnvOk c.D c.n E a → St c.W0 L w →
      wpAnyH c.P .any l.toArray (kq c k c.Q) (fun w => St c.W0 L w) m (listedTo l.toArray.size i) a w := by
    intro m
    induction m with
    | zero =>
      intro i E a w hi hq he hs
      have hl : l.drop i = [] := List.drop_eq_nil_of_le (by simp at hi; omega)
      rw [hl] at hq
      refine ⟨?_, hq a w he hs⟩
      unfold Region.ready
      rw [List.filter_eq_nil_iff]
      intro j hj
      have hj' := List.mem_range.1 hj
      rw [listedTo_getD _ _ _ (by omega)]
      simp [show j < i by omega]
    | succ m ih =>
      intro i E a w hi hq he hs
      have hil : i < l.length := by simp at hi; omega
      rw [List.drop_eq_getElem_cons hil] at hq
      obtain ⟨d, x, hdst, hd, hg, hq⟩ := hq
      obtain ⟨hf, hr⟩ := hall i (by simpa using hil)
      refine wpAnyH_take (oi := l[i]) (v := x.val) (by simp [hil]) hsel hf hr ?_ (hg a he) hs ?_
      · intro ch a' w' hp
        exact kq_panic (a := a'.put (l[i]).dst x.val) (fun hQ => panic_put hQo hQ) hp
      · rw [hdst]
        exact ih (i + 1) _ _ w (by omega) hq (he.put d x hd) hs
  exact key l.toArray.size 0 E a _ (by omega) (by simpa using h) he hs.drew
theorem r_draw {id : Nat} {l : List Oper} (hm : c.P.follows .mixedOrders = true) (h : Cont c (.draw l l.length (Array.replicate l.length false) :: k) E L) (hro : c.mode = none := by rfl) : Run c (.region id l.toArray true) k E L := fun a w he hs => by
  unfold Cx.wp
  rw [hro]
  refine wp_region_any hm ?_
  have := h a w.drew he hs.drew
  show wpAny c.P .any l.toArray (kq c k c.Q) l.toArray.size (Array.replicate l.toArray.size false) a w.drew
  rw [List.size_toArray]
  exact this
theorem d_one {f i : Nat} {listed : Array Bool} {o : Oper} (hr : Region.ready .any all.toArray listed = [i]) (ho : all[i]? = some o) (h : Ops c all [o] (.draw all f (listed.setIfInBounds i true) :: k) E L) (hro : c.mode = none := by rfl) : Cont c (.draw all (f + 1) listed :: k) E L := fun a w he hs => by
  refine wpAny_all hr (by simp) fun j hj => ?_
  have hji : j = i := by simpa using hj
  subst hji
  have h1 := h a w he hs
  unfold Cx.wpL at h1
  rw [hro] at h1
  have h2 : (all.toArray)[j]? = some o := by simpa using ho
  unfold wpOp
  simp only [h2]
  simp only [wpList] at h1
  split
  · rename_i hw
    rw [if_pos hw] at h1
    refine h1.imp (fun h3 => ?_) (fun h3 => ⟨h3.1, ?_⟩)
    · unfold Oper.wp at h3 ⊢
      generalize (execOp a.eval o).run c.P w = r at *
      cases r with
      | ok n w' =>
        cases n <;> simp only [Oper.upon] at h3 ⊢ <;> first
          | exact h3
          | exact Calls.mono h3 (fun e w'' he => by cases e <;> first | exact he | (obtain ⟨a0, w0, hq⟩ := he; exact ⟨a0, w0, hq⟩))
      | halt x w' => cases x <;> simp only [Oper.upon] at h3 ⊢ <;> exact h3
    · obtain ⟨a0, w0, hq⟩ := h3.2; exact ⟨a0, w0, hq⟩
  · rename_i hw
    rw [if_neg hw] at h1
    exact h1
theorem d_take {f i d : Nat} {listed : Array Bool} {op : Op} {ty : TypeId} {pos : String} {aft : Array Edge} {v : Value} (hc : (Region.noSelect all.toArray && Region.free .any all.toArray listed i && (Region.ready .any all.toArray listed).contains i) = true)
    (ho : all[i]? = some ⟨some d, op, ty, pos, aft, none⟩) (hv : ∀ W0, Gives { c with W0 := W0 } E [] ⟨some d, op, ty, pos, aft, none⟩ v) (hd : Nat.blt d c.n = true)
    (h : Cont c (.draw all f (listed.setIfInBounds i true) :: k) ((d, .v v) :: E) L) (hQo : c.Qo = none := by rfl) : Cont c (.draw all (f + 1) listed :: k) E L := fun a w he hs => by
  simp only [Bool.and_eq_true] at hc
  refine wpAny_take (oi := ⟨some d, op, ty, pos, aft, none⟩) (v := v) (by simpa using ho) hc.1.1 hc.1.2 hc.2 (fun ch a' w' hp => kq_panic (k := k) (c := c) (Q := c.Q) (a := a'.put (some d) v) (a' := a') (fun hQ => panic_put hQo hQ) hp) (.inl ⟨wanted_none rfl, fun w' => hv w' a w' he ⟨rfl, rfl, rfl, trivial⟩⟩) ?_
  exact h _ w (he.put d (.v v) hd) hs
theorem d_done {f : Nat} {listed : Array Bool} (hr : Region.ready .any all.toArray listed = []) (h : Cont c k E L) : Cont c (.draw all f listed :: k) E L := fun a w he hs => wpAny_done hr (h a w he hs) f
section
variable {d : Option Nat} {ty : TypeId} {pos : String} {aft : Array Edge} {gd : Option (Nat × Bool)}
theorem gM {x : Operand} {v : Value} (hx : Evs c E x v) : Gives c E L ⟨d, .move x, ty, pos, aft, gd⟩ v := fun a w he _ => by simp [execOp, hx a he]
theorem gA {x : Operand} {v : Value} (hx : Evs c E x v) : Gives c E L ⟨d, .assign x, ty, pos, aft, gd⟩ v := fun a w he _ => by simp [execOp, hx a he]
theorem g_pick {x y z : Operand} {b : Bool} {v : Value} (hx : Evs c E x (.bool b)) (hy : b = true → Evs c E y v) (hz : b = false → Evs c E z v) : Gives c E L ⟨d, .pick x y z, ty, pos, aft, gd⟩ v := fun a w he _ => by
  cases b
  · simp [execOp, hx a he, hz rfl a he, asBool]
  · simp [execOp, hx a he, hy rfl a he, asBool]
theorem g_pick_and {x y z : Operand} {b b' : Bool} (hx : Evs c E x (.bool b)) (hz : Evs c E z (.bool false)) (hy : b = true → Evs c E y (.bool b')) : Gives c E L ⟨d, .pick x y z, ty, pos, aft, gd⟩ (.bool (b && b')) :=
  g_pick hx (fun e => by subst e; simpa using hy rfl) (fun e => by subst e; simpa using hz)
theorem g_pick_or {x y z : Operand} {b b' : Bool} (hx : Evs c E x (.bool b)) (hy : Evs c E y (.bool true)) (hz : b = false → Evs c E z (.bool b')) : Gives c E L ⟨d, .pick x y z, ty, pos, aft, gd⟩ (.bool (b || b')) :=
  g_pick hx (fun e => by subst e; simpa using hy) (fun e => by subst e; simpa using hz rfl)
def binI (k : IntKind) (x y : Int) : BinOp → Option Value
  | .add => some (.int k (k.wrap (x + y)))
  | .sub => some (.int k (k.wrap (x - y)))
  | .mul => some (.int k (k.wrap (x * y)))
  | .and => some (.int k (k.wrap (BitVec.ofInt k.bits x &&& BitVec.ofInt k.bits y).toNat))
  | .or => some (.int k (k.wrap (BitVec.ofInt k.bits x ||| BitVec.ofInt k.bits y).toNat))
  | .xor => some (.int k (k.wrap (BitVec.ofInt k.bits x ^^^ BitVec.ofInt k.bits y).toNat))
  | .eql => some (.bool (decide (x = y)))
  | .neq => some (.bool (!decide (x = y)))
  | .lss => some (.bool (decide (x < y)))
  | .leq => some (.bool (decide (x ≤ y)))
  | .gtr => some (.bool (decide (y < x)))
  | .geq => some (.bool (decide (y ≤ x)))
  | _ => none
theorem run_eqGuard_int {op : BinOp} {t : TypeId} {x y : Operand} {k k' : IntKind} {m n : Int} {P : Program} {w : World} : (eqGuard op t x y (.int k m) (.int k' n)).run P w = .ok () w := by
  cases op <;> simp [eqGuard]
theorem g_bin {op : BinOp} {t t' : TypeId} {x y : Operand} {kd : IntKind} {m n : Int} {v : Value} (hx : Evs c E x (.int kd m)) (hy : Evs c E y (.int kd n)) (h : binI kd m n op = some v) :
    Gives c E L ⟨d, .binOp op t x y t', ty, pos, aft, gd⟩ v := fun a w he _ => by
  simp only [execOp, hx a he, hy a he, Sem.run_bind, run_eqGuard_int, Result.andThen_ok, Sem.run_pure]
  cases op <;> simp only [binI, Option.some.injEq, reduceCtorEq] at h <;> subst h <;>
    simp [binOp, Op.intArith, Op.intBits, Op.intCmp, bne, BEq.beq] <;> rfl
def divI (k : IntKind) (x y : Int) : BinOp → Option Value
  | .quo => some (.int k (k.wrap (x.tdiv y)))
  | .rem => some (.int k (x.tmod y))
  | _ => none
theorem g_div {op : BinOp} {t t' : TypeId} {x y : Operand} {kd : IntKind} {m n : Int} {v : Value} (hx : Evs c E x (.int kd m)) (hy : Evs c E y (.int kd n)) (h : divI kd m n op = some v) (h0 : n ≠ 0) :
    Gives c E L ⟨d, .binOp op t x y t', ty, pos, aft, gd⟩ v := fun a w he _ => by
  simp only [execOp, hx a he, hy a he, Sem.run_bind, run_eqGuard_int, Result.andThen_ok, Sem.run_pure]
  cases op <;> simp only [divI, Option.some.injEq, reduceCtorEq] at h <;> subst h <;> simp [binOp, Op.intDiv, h0]
def shI (k : IntKind) (x : Int) (s : Nat) : BinOp → Option Value
  | .shl => some (.int k (k.wrap (x * 2 ^ min s k.bits)))
  | .shr => some (.int k (x.fdiv (2 ^ min s k.bits)))
  | _ => none
theorem g_shift {op : BinOp} {t t' : TypeId} {x y : Operand} {kd kd' : IntKind} {m n : Int} {v : Value} (hx : Evs c E x (.int kd m)) (hy : Evs c E y (.int kd' n)) (h : shI kd m n.toNat op = some v) (h0 : 0 ≤ n) :
    Gives c E L ⟨d, .binOp op t x y t', ty, pos, aft, gd⟩ v := fun a w he _ => by
  simp only [execOp, hx a he, hy a he, Sem.run_bind, run_eqGuard_int, Result.andThen_ok, Sem.run_pure]
  cases op <;> simp only [shI, Option.some.injEq, reduceCtorEq] at h <;> subst h <;> simp [binOp, Op.shift, show ¬ n < 0 by omega]
def str (l : List UInt8) : Value := .string ⟨l.toArray⟩
theorem toList_ofL (l : List UInt8) : (ByteArray.mk l.toArray).toList = l := by rw [ByteArray.toList_eq]
theorem run_eqGuard_str {op : BinOp} {t : TypeId} {x y : Operand} {m n : ByteArray} {P : Program} {w : World} : (eqGuard op t x y (.string m) (.string n)).run P w = .ok () w := by
  cases op <;> simp [eqGuard]
def binS (x y : List UInt8) : BinOp → Option Value
  | .eql => some (.bool (decide (x = y)))
  | .neq => some (.bool (!decide (x = y)))
  | .lss => some (.bool (Op.bytesLess x y))
  | .leq => some (.bool (Op.bytesLess x y || decide (x = y)))
  | .gtr => some (.bool (!(Op.bytesLess x y || decide (x = y))))
  | .geq => some (.bool (!Op.bytesLess x y))
  | _ => none
theorem g_binS {op : BinOp} {t t' : TypeId} {x y : Operand} {m n : List UInt8} {v : Value} (hx : Evs c E x (str m)) (hy : Evs c E y (str n)) (h : binS m n op = some v) :
    Gives c E L ⟨d, .binOp op t x y t', ty, pos, aft, gd⟩ v := fun a w he _ => by
  simp only [str] at hx hy
  simp only [execOp, hx a he, hy a he, Sem.run_bind, run_eqGuard_str, Result.andThen_ok, Sem.run_pure]
  have hb : (m == n) = decide (m = n) := by by_cases h : m = n <;> simp [h]
  cases op <;> simp only [binS, Option.some.injEq, reduceCtorEq] at h <;> subst h <;>
    simp [binOp, Op.stringOp, hb]
theorem g_cat {t t' : TypeId} {x y : Operand} {m n : List UInt8} (hx : Evs c E x (str m)) (hy : Evs c E y (str n)) (h : m.length + n.length ≤ 9223372036854775807) :
    Gives c E L ⟨d, .binOp .add t x y t', ty, pos, aft, gd⟩ (str (m ++ n)) := fun a w he _ => by
  simp only [str] at hx hy
  simp only [execOp, hx a he, hy a he, Sem.run_bind, run_eqGuard_str, Result.andThen_ok, Sem.run_pure]
  have h1 : ¬ (((ByteArray.mk m.toArray).size + (ByteArray.mk n.toArray).size : Nat) : Int) > IntKind.i64.max := by
    simp only [ByteArray.size, List.size_toArray]
    have : IntKind.i64.max = 9223372036854775807 := by decide
    omega
  simp only [binOp, Op.stringOp, if_neg h1, Sem.run_pure, Result.andThen_ok]
  have : (ByteArray.mk m.toArray) ++ (ByteArray.mk n.toArray) = ByteArray.mk (m ++ n).toArray := by
    apply ByteArray.ext
    simp
  rw [this, str]
theorem g_binB {op : BinOp} {t t' : TypeId} {x y : Operand} {m n : Bool} {v : Value} (ht : c.P.underlying t = some .bool) (hx : Evs c E x (.bool m)) (hy : Evs c E y (.bool n))
    (h : (match op with | .eql => some (Value.bool (m == n)) | .neq => some (Value.bool (m != n)) | _ => none) = some v) :
    Gives c E L ⟨d, .binOp op t x y t', ty, pos, aft, gd⟩ v := fun a w he _ => by
  have hr0 : ∀ q w, (Op.equalIn (q + 1) t (.bool m) (.bool n)).run c.P w = .ok (m == n) w := fun q w => by
    simp [Op.equalIn, run_underlying ht]
  have hr : ∀ w, (Op.equal t (.bool m) (.bool n)).run c.P w = .ok (m == n) w := fun w => hr0 9999 w
  have hgd : (eqGuard op t x y (.bool m) (.bool n)).run c.P w = .ok () w := by cases op <;> simp [eqGuard]
  simp only [execOp, hx a he, hy a he, Sem.run_bind, hgd, Result.andThen_ok, Sem.run_pure]
  cases op <;> simp only [Option.some.injEq, reduceCtorEq] at h <;> subst h <;> simp [binOp, hr, bne]
theorem g_pnil {op : BinOp} {t t' e : TypeId} {x y : Operand} {p q : Option Addr} {v : Value} (ht : c.P.underlying t = some (.pointer e)) (hx : Evs c E x (.pointer p)) (hy : Evs c E y (.pointer q))
    (hn : p = none ∨ q = none)
    (h : (match op with | .eql => some (Value.bool (p.isNone && q.isNone)) | .neq => some (Value.bool (!(p.isNone && q.isNone))) | _ => none) = some v) :
    Gives c E L ⟨d, .binOp op t x y t', ty, pos, aft, gd⟩ v := fun a w he _ => by
  have hr0 : ∀ z w, (Op.equalIn (z + 1) t (.pointer p) (.pointer q)).run c.P w = .ok (p.isNone && q.isNone) w := fun z w => by
    rcases hn with rfl | rfl
    · simp [Op.equalIn, run_underlying ht]
    · cases p <;> simp [Op.equalIn, run_underlying ht]
  have hr : ∀ w, (Op.equal t (.pointer p) (.pointer q)).run c.P w = .ok (p.isNone && q.isNone) w := fun w => hr0 9999 w
  have hgd : (eqGuard op t x y (.pointer p) (.pointer q)).run c.P w = .ok () w := by cases op <;> simp [eqGuard]
  simp only [execOp, hx a he, hy a he, Sem.run_bind, hgd, Result.andThen_ok, Sem.run_pure]
  cases op <;> simp only [Option.some.injEq, reduceCtorEq] at h <;> subst h <;> simp [binOp, hr]
theorem g_not {t : TypeId} {x : Operand} {b : Bool} (hx : Evs c E x (.bool b)) : Gives c E L ⟨d, .unOp .not t x, ty, pos, aft, gd⟩ (.bool (!b)) := fun a w he _ => by
  simp [execOp, hx a he, Op.unary]
theorem g_neg {t : TypeId} {x : Operand} {kd : IntKind} {n : Int} (hx : Evs c E x (.int kd n)) : Gives c E L ⟨d, .unOp .neg t x, ty, pos, aft, gd⟩ (.int kd (kd.wrap (0 - n))) := fun a w he _ => by
  simp [execOp, hx a he, Op.unary, Op.intArith]
theorem g_com {t : TypeId} {x : Operand} {kd : IntKind} {n : Int} (hx : Evs c E x (.int kd n)) : Gives c E L ⟨d, .unOp .xor t x, ty, pos, aft, gd⟩ (.int kd (kd.wrap (BitVec.ofInt kd.bits (if kd.signed then -1 else kd.max) ^^^ BitVec.ofInt kd.bits n).toNat)) := fun a w he _ => by
  simp [execOp, hx a he, Op.unary, Op.intBits]
theorem g_conv {t u : TypeId} {x : Operand} {kd kd' : IntKind} {tu : TypeDesc} {n : Int} (ht : c.P.underlying t = some tu) (hu : c.P.underlying u = some (.int kd')) (hx : Evs c E x (.int kd n)) :
    Gives c E L ⟨d, .convert t u x, ty, pos, aft, gd⟩ (.int kd' (kd'.wrap n)) := fun a w he _ => by
  simp [execOp, hx a he, convert, run_underlying ht, run_underlying hu, Conv.intToInt]
theorem g_nil {x : Operand} {ad : Addr} (hx : Evs c E x (.pointer (some ad))) : Gives c E L ⟨d, .nilCheck x, ty, pos, aft, gd⟩ (.pointer (some ad)) := fun a w he _ => by
  simp [execOp, hx a he]
theorem g_field {t : TypeId} {x : Operand} {i b o : Nat} {fs : Array Field} {f : Field} {n : Nat} (ht : c.P.underlying t = some (.struct fs)) (hf : fs.toList[i]? = some f) (hn : ∀ w, (Go.sizeOf f.type).run c.P w = .ok (n + 1) w)
    (hx : Evs c E x (.pointer (some ⟨b, o, none⟩))) : Gives c E L ⟨d, .fieldAddr t x i, ty, pos, aft, gd⟩ (.pointer (some ⟨b, o + f.offset, none⟩)) := fun a w he _ => by
  have hf' : fs[i]? = some f := by simpa using hf
  have ha : (⟨b, o, none⟩ : Addr).add f.offset = ⟨b, o + f.offset, none⟩ := by unfold Addr.add; split <;> simp_all
  simp [execOp, hx a he, Instr.fieldAt, run_underlying ht, hf', Instr.sureAddr, fieldPlace, hn, ha]
theorem g_extract {x : Operand} {i : Nat} {vs : List Value} {v : Value} (hx : Evs c E x (.tuple vs.toArray)) (h : vs[i]? = some v) : Gives c E L ⟨d, .extract x i, ty, pos, aft, gd⟩ v := fun a w he _ => by
  simp [execOp, hx a he, Instr.extract, h]
theorem g_lenS {t : TypeId} {x : Operand} {l : List UInt8} (ht : c.P.underlying t = some .string) (hx : Evs c E x (str l)) :
    Gives c E L ⟨d, .call { callee := .builtin .len, args := #[x], argTypes := #[t] }, ty, pos, aft, gd⟩ (.int .i64 l.length) := fun a w he _ => by
  have hsz : (ByteArray.mk l.toArray).size = l.length := List.size_toArray ..
  simp [execOp, resolve, invoke, builtin, hx a he, Builtin.len_, run_underlying ht, str, goInt, hsz]
theorem g_len {t e : TypeId} {x : Operand} {p : Option Addr} {n m : Nat} (ht : c.P.underlying t = some (.slice e)) (hx : Evs c E x (.slice p n m)) :
    Gives c E L ⟨d, .call { callee := .builtin .len, args := #[x], argTypes := #[t] }, ty, pos, aft, gd⟩ (.int .i64 n) := fun a w he _ => by
  simp [execOp, resolve, invoke, builtin, hx a he, Builtin.len_, run_underlying ht, goInt]
theorem g_max2 {ts : Array TypeId} {x y : Operand} {kd : IntKind} {m n : Int} (hx : Evs c E x (.int kd m)) (hy : Evs c E y (.int kd n)) :
    Gives c E L ⟨d, .call { callee := .builtin .max, args := #[x, y], argTypes := ts }, ty, pos, aft, gd⟩ (.int kd (max m n)) := fun a w he _ => by
  have : (if n > m then n else m) = max m n := by split <;> omega
  simp [execOp, resolve, invoke, builtin, hx a he, hy a he, Builtin.max_, Builtin.max2, this]
theorem g_min2 {ts : Array TypeId} {x y : Operand} {kd : IntKind} {m n : Int} (hx : Evs c E x (.int kd m)) (hy : Evs c E y (.int kd n)) :
    Gives c E L ⟨d, .call { callee := .builtin .min, args := #[x, y], argTypes := ts }, ty, pos, aft, gd⟩ (.int kd (min m n)) := fun a w he _ => by
  have : (if n < m then n else m) = min m n := by split <;> omega
  simp [execOp, resolve, invoke, builtin, hx a he, hy a he, Builtin.min_, Builtin.min2, this]
end
end
end VK
/- Own framework, part 3: the steps of a walk that read or change memory; calls. No conditions. -/
namespace VK
open Go
structure TI where
  size : Nat
  bytes : Nat
  zero : Value
class TyU (P : Program) (t : TypeId) (d : outParam TypeDesc) : Prop where
  h : P.underlying t = some d
class TyI (P : Program) (t : TypeId) (i : outParam TI) : Prop where
  h : ∃ info, P.info? t = some info ∧ info.size = i.size ∧ info.bytes = i.bytes ∧ info.zero = some i.zero
class TyF (P : Program) (t : TypeId) (i : Nat) (o : outParam Nat) : Prop where
  h : ∃ fs f n, P.underlying t = some (.struct fs) ∧ fs.toList[i]? = some f ∧ f.offset = o ∧ ∀ w, (Go.sizeOf f.type).run P w = .ok (n + 1) w
class CallOk (P : Program) (f : FuncId) : Prop where
  h : ∀ args w, (callFunc f args).run P w = .ok (.enter f args) w
class Mixed (P : Program) : Prop where
  h : P.follows .mixedOrders = true
theorem TyI.mk' {P : Program} {t : TypeId} {i : TI} (h : (P.info? t).map (fun x => (x.size, x.bytes, x.zero)) = some (i.size, i.bytes, some i.zero)) : TyI P t i := by
  cases hi : P.info? t with
  | none => rw [hi] at h; cases h
  | some info =>
    rw [hi] at h
    simp at h
    exact ⟨info, hi, h⟩
section
variable {P : Program} {t : TypeId} {i : TI} {d : TypeDesc}
theorem run_sizeOfI (h : TyI P t i) (w : World) : (Go.sizeOf t).run P w = .ok i.size w := by
  obtain ⟨info, h1, h2, _⟩ := h.h
  simp [Go.sizeOf, typeInfo, h1, h2]
theorem run_zeroI (h : TyI P t i) (w : World) : (zeroValue t).run P w = .ok i.zero w := by
  obtain ⟨info, h1, _, _, h2⟩ := h.h
  simp [zeroValue, typeInfo, h1, h2]
def isAggD : TypeDesc → Bool
  | .struct _ | .array _ _ => true
  | _ => false
theorem run_isAggU (h : TyU P t d) (w : World) : (isAgg t).run P w = .ok (isAggD d) w := by
  simp only [isAgg, Sem.run_bind, run_underlying h.h, Result.andThen_ok]
  cases d <;> rfl
end
def agg (l : List Value) : Value := .agg l.toArray
def cellsL (v : Value) : List Value := v.cells.toList
structure Row where
  e : TypeId
  sz : Nat
  n : Nat
  xs : List Value
def sl (v : Value) (r : Row) : Atom := fun h =>
  r.xs.length = r.n * r.sz ∧ (∀ u ∈ r.xs, u.oneCell' = true) ∧
  ((v = .slice none 0 0 ∧ r.n = 0) ∨
   ∃ b cap cur fr, v = .slice (some ⟨b, 0, none⟩) r.n cap ∧ h b = some (.cells cur r.e fr) ∧ FrOk cur.size fr ∧ r.n ≤ cap ∧ cap ≤ maxLen ∧ cur.size = cap * r.sz ∧ cur.toList.take (r.n * r.sz) = r.xs)
def RdW (w : World) (v : Value) (r : Row) : Prop :=
  r.xs.length = r.n * r.sz ∧ (∀ u ∈ r.xs, u.oneCell' = true) ∧ ∃ a cap, v = .slice a r.n cap ∧ r.n ≤ cap ∧ cap ≤ maxLen ∧
    (r.xs = [] ∨ ∃ b o, a = some ⟨b, o, none⟩ ∧ ∀ j u, r.xs[j]? = some u → w.cell? ⟨b, o + j, none⟩ = some u)
class Rd (L : List Atom) (v : Value) (r : outParam Row) : Prop where
  rd : ∀ W0 w, St W0 L w → RdW w v r
theorem RdW.of_sl {w : World} {v : Value} {r : Row} {h : Heap} (hl : HLe h (fun b => w.heap[b]?)) (hs : sl v r h) : RdW w v r := by
  obtain ⟨h1, h2, h3⟩ := hs
  refine ⟨h1, h2, ?_⟩
  rcases h3 with ⟨rfl, hn⟩ | ⟨b, cap, cur, fr, rfl, hb, hf, hn, hm, hc, ht⟩
  · have hx : r.xs = [] := List.eq_nil_of_length_eq_zero (by rw [h1, hn]; simp)
    exact ⟨none, 0, by rw [hn], by omega, by simp [maxLen], .inl hx⟩
  · refine ⟨_, cap, rfl, hn, hm, .inr ⟨b, 0, rfl, fun j u hj => ?_⟩⟩
    rw [Nat.zero_add, cell_of_row w b j cur r.e fr (hl _ _ hb)]
    rw [← ht, List.getElem?_take] at hj
    split at hj
    · simpa using hj
    · cases hj
instance Rd.head (v : Value) (r : Row) (L : List Atom) : Rd (sl v r :: L) v r := ⟨fun _ w hs => by
  obtain ⟨h1, hl, ha⟩ := star_at (Pick.head (sl v) L r) hs.heap
  exact RdW.of_sl hl ha⟩
instance (priority := low) Rd.tail (A : Atom) (v : Value) (r : Row) (L : List Atom) [h : Rd L v r] : Rd (A :: L) v r := ⟨fun W0 w hs => h.rd W0 w (hs.ent Ent.drop)⟩
theorem Rd.nil (L : List Atom) (e : TypeId) (sz : Nat) : Rd L (.slice none 0 0) ⟨e, sz, 0, []⟩ := ⟨fun _ _ _ => ⟨by simp, by simp, none, 0, rfl, by simp, by simp [maxLen], .inl rfl⟩⟩
theorem Rd.of_pick {L : List Atom} {v : Value} {r : Row} {f : Atom → List Atom} (p : Pick (sl v) L r f) : Rd L v r := ⟨fun _ w hs => by
  obtain ⟨h1, hl, ha⟩ := star_at p hs.heap
  exact RdW.of_sl hl ha⟩
class OneC (L : List Atom) (v : Value) : Prop where
  h : ∀ W0 w, St W0 L w → v.oneCell' = true
instance (L : List Atom) (k : IntKind) (n : Int) : OneC L (.int k n) := ⟨fun _ _ _ => rfl⟩
instance (L : List Atom) (b : Bool) : OneC L (.bool b) := ⟨fun _ _ _ => rfl⟩
instance (L : List Atom) (b : ByteArray) : OneC L (.string b) := ⟨fun _ _ _ => rfl⟩
instance (L : List Atom) (l : List UInt8) : OneC L (str l) := ⟨fun _ _ _ => rfl⟩
instance (L : List Atom) (p : Option Addr) : OneC L (.pointer p) := ⟨fun _ _ _ => rfl⟩
instance (L : List Atom) (p : Option Addr) (n m : Nat) : OneC L (.slice p n m) := ⟨fun _ _ _ => rfl⟩
instance (priority := low) (L : List Atom) (v : Value) (r : Row) [h : Rd L v r] : OneC L v := ⟨fun W0 w hs => by
  obtain ⟨_, _, a, cap, rfl, _⟩ := h.rd W0 w hs
  rfl⟩
theorem cells_of_one {v : Value} (h : v.oneCell' = true) : v.cells = #[v] := by cases v <;> first | rfl | cases h
def setF : List Value → Nat → List Value → Option (List Value)
  | cs, _, [] => some cs
  | [], _, _ :: _ => none
  | _ :: cs, 0, v :: vs => match setF cs 0 vs with
    | some r => some (v :: r)
    | none => none
  | c :: cs, n + 1, v :: vs => match setF cs n (v :: vs) with
    | some r => some (c :: r)
    | none => none
def SetsTo (cs : List Value) (o : Nat) (vs cs' : List Value) : Prop := o + vs.length ≤ cs.length ∧ cs' = cs.take o ++ vs ++ cs.drop (o + vs.length)
theorem setsTo_F : ∀ {cs : List Value} {o : Nat} {vs cs' : List Value}, setF cs o vs = some cs' → o ≤ cs.length → SetsTo cs o vs cs'
  | cs, o, [], cs', h, ho => by simp [setF] at h; subst h; exact ⟨by simpa using ho, by simp⟩
  | [], _, _ :: _, _, h, _ => by simp [setF] at h
  | c :: cs, 0, v :: vs, cs', h, _ => by
    simp only [setF] at h
    split at h
    · rename_i r hr
      cases h
      obtain ⟨h1, h2⟩ := setsTo_F hr (Nat.zero_le _)
      refine ⟨by simp at h1 ⊢; omega, ?_⟩
      rw [h2]
      simp
    · cases h
  | c :: cs, o + 1, v :: vs, cs', h, ho => by
    simp only [setF] at h
    split at h
    · rename_i r hr
      cases h
      obtain ⟨h1, h2⟩ := setsTo_F hr (by simpa using ho)
      refine ⟨by simp at h1 ⊢; omega, ?_⟩
      rw [h2, show o + 1 + (v :: vs).length = (o + (v :: vs).length) + 1 by omega]
      simp
    · cases h
theorem SetsTo.length {cs : List Value} {o : Nat} {vs cs' : List Value} (h : SetsTo cs o vs cs') : cs'.length = cs.length := by
  obtain ⟨h1, rfl⟩ := h
  simp; omega
def rngF : Nat → List Value → Option (List Value)
  | 0, _ => some []
  | _ + 1, [] => none
  | n + 1, v :: r => match rngF n r with
    | some l => some (v :: l)
    | none => none
theorem rngF_spec : ∀ {n : Nat} {cs vs : List Value}, rngF n cs = some vs → vs = cs.take n ∧ n ≤ cs.length
  | 0, cs, vs, h => by simp [rngF] at h; subst h; simp
  | n + 1, [], vs, h => by simp [rngF] at h
  | n + 1, v :: r, vs, h => by
    simp only [rngF] at h
    split at h
    · rename_i l hl
      cases h
      obtain ⟨h1, h2⟩ := rngF_spec hl
      exact ⟨by simp [h1], by simpa using h2⟩
    · cases h
section
variable {P : Program}
theorem add_at (b o j : Nat) : (⟨b, o, none⟩ : Addr).add j = ⟨b, o + j, none⟩ := by unfold Addr.add; split <;> simp_all
theorem run_loadCells_at {w : World} {b o : Nat} {cs : List Value} (h : ∀ j u, cs[j]? = some u → w.cell? ⟨b, o + j, none⟩ = some u) : (loadCells ⟨b, o, none⟩ cs.length).run P w = .ok cs.toArray w :=
  run_loadCells_list w _ cs fun j u hj => by rw [add_at]; exact h j u hj
theorem frozen_FrOk {w : World} {b j : Nat} {cs : Array Value} {t : TypeId} {fr : Nat × Nat} (hb : w.heap[b]? = some (.cells cs t fr)) (hf : FrOk cs.size fr) (hj : j < cs.size) : w.frozen? ⟨b, j, none⟩ = false := by
  simp only [World.frozen?, hb]
  rcases hf with h | h
  · rw [Bool.and_eq_false_iff]; simp; omega
  · rw [Bool.and_eq_false_iff]; simp; omega
structure SameBut (w w' : World) (b : Nat) (o : Obj) : Prop where
  os : w'.os = w.os
  tape : w'.tape = w.tape
  output : w'.output = w.output
  heap : (fun x => w'.heap[x]?) = upd (fun x => w.heap[x]?) b o
theorem sameBut_setCell {w : World} {b j : Nat} {cs : List Value} {t : TypeId} {fr : Nat × Nat} (hb : w.heap[b]? = some (.cells cs.toArray t fr)) (v : Value) :
    SameBut w (w.setCell ⟨b, j, none⟩ v) b (.cells (cs.set j v).toArray t fr) := by
  refine ⟨rfl, rfl, rfl, ?_⟩
  funext x
  simp only [World.setCell, Array.getElem?_modify, upd]
  by_cases hx : x = b
  · subst hx
    simp [hb, List.setIfInBounds_toArray]
  · simp [hx, show ¬ b = x from fun e => hx e.symm]
theorem run_storeR {b : Nat} {t : TypeId} {fr : Nat × Nat} : ∀ (vs : List Value) (i o : Nat) (cs cs' : List Value) (w : World), w.heap[b]? = some (.cells cs.toArray t fr) → FrOk cs.length fr →
    SetsTo cs (o + i) vs cs' → (∀ v ∈ vs, v.oneCell' = true) → ∃ w', (storeCells ⟨b, o, none⟩ vs i).run P w = .ok () w' ∧ SameBut w w' b (.cells cs'.toArray t fr)
  | [], i, o, cs, cs', w, hb, _, hs, _ => by
    obtain ⟨_, rfl⟩ := hs
    refine ⟨w, by simp [storeCells], rfl, rfl, rfl, ?_⟩
    funext x
    by_cases hx : x = b
    · subst hx; simp [upd, hb]
    · simp [upd, hx]
  | v :: vs, i, o, cs, cs', w, hb, hf, hs, h1 => by
    obtain ⟨hl, hcs⟩ := hs
    have hlt : o + i < cs.length := by simp at hl; omega
    have hv := h1 v (by simp)
    have hst := sameBut_setCell (j := o + i) hb v
    have hcell : w.cell? ⟨b, o + i, none⟩ = some cs[o + i] := by
      rw [cell_of_row w b (o + i) cs.toArray t fr hb]; simp [hlt]
    have hfz : w.frozen? ⟨b, o + i, none⟩ = false := frozen_FrOk hb (by simpa using hf) (by simpa using hlt)
    have hb' : (w.setCell ⟨b, o + i, none⟩ v).heap[b]? = some (.cells (cs.set (o + i) v).toArray t fr) := by
      have := congrFun hst.heap b
      simpa [upd] using this
    obtain ⟨w', hr, hsm⟩ := run_storeR vs (i + 1) o (cs.set (o + i) v) cs' (w.setCell ⟨b, o + i, none⟩ v) hb' (by simpa using hf)
      ⟨by simp at hl ⊢; omega, by
        rw [hcs]
        apply List.ext_getElem?
        intro j
        simp only [List.append_assoc, List.getElem?_append, List.getElem?_take, List.getElem?_drop, List.length_take, List.length_set, List.length_cons, List.getElem?_set]
        by_cases c1 : j < o + i
        · simp [c1, show min (o + i) cs.length = o + i by omega, show min (o + (i + 1)) cs.length = o + (i + 1) by omega, show j < o + (i + 1) by omega, show ¬ o + i = j by omega]
        · by_cases c2 : j = o + i
          · subst c2
            simp [show min (o + i) cs.length = o + i by omega, show min (o + (i + 1)) cs.length = o + (i + 1) by omega, show o + i < o + (i + 1) by omega, hlt]
          · simp only [show min (o + i) cs.length = o + i by omega, show min (o + (i + 1)) cs.length = o + (i + 1) by omega, c1, if_false, show ¬ j < o + (i + 1) by omega]
            by_cases c3 : j - (o + (i + 1)) < vs.length
            · rw [if_pos (by omega), if_pos c3]
              rw [show j - (o + i) = (j - (o + (i + 1))) + 1 by omega]
              simp
            · rw [if_neg (by omega), if_neg c3]
              rw [if_neg (by omega)]
              congr 1
              omega⟩ (fun u hu => h1 u (by simp [hu]))
    refine ⟨w', ?_, hsm.os, hsm.tape, hsm.output, ?_⟩
    · simp only [storeCells, Sem.run_bind, add_at, run_store P w _ v _ hv, hcell, hfz, Bool.false_eq_true, if_false, Result.andThen_ok]
      exact hr
    · rw [hsm.heap, hst.heap]
      funext x
      by_cases hx : x = b <;> simp [upd, hx]
end
theorem St.sameBut {W0 w w' : World} {A A' : Atom} {L : List Atom} {b : Nat} {o : Obj} (h : St W0 (A :: L) w) (s : SameBut w w' b o)
    (hA : ∀ g, HLe g (fun x => w.heap[x]?) → A g → (∃ o', g b = some o') ∧ A' (upd g b o)) : St W0 (A' :: L) w' :=
  ⟨s.os.trans h.os, s.tape.trans h.tape, s.output.trans h.output, by rw [s.heap]; exact star_set h.heap hA⟩
theorem St.setBlk {W0 w w' : World} {L : List Atom} {b : Nat} {c : Blk} {cs' : List Value} {fr : Nat × Nat} {f : Atom → List Atom} (p : Pick (blk b) L c f) (h : St W0 L w) (hf : FrOk cs'.length fr) (s : SameBut w w' b (.cells cs'.toArray c.t fr)) :
    St W0 (f (blk b ⟨cs', c.t⟩)) w' := by
  obtain ⟨R, h1, h2⟩ := star_pick p
  refine (St.sameBut (A' := blk b ⟨cs', c.t⟩) (h.ent h1) s fun g _ hg => ?_).ent (h2 _)
  obtain ⟨fr', _, hb⟩ := hg
  exact ⟨⟨_, hb⟩, fr, hf, by simp [upd]⟩
section
variable {c : Cx} {k : List KI} {E : Env} {L : List Atom} {all rest : List Oper} {d : Nat} {do_ : Option Nat} {ty : TypeId} {pos : String} {aft : Array Edge} {gd : Option (Nat × Bool)}
theorem o_alloc {t : TypeId} {i : TI} [ti : TyI c.P t i] {cs : List Value} (hc : cellsL i.zero = cs) (hd : Nat.blt d c.n = true)
    (hk : ∀ b, Ops c all rest k ((d, .v (.pointer (some ⟨b, 0, none⟩))) :: E) (blk b ⟨cs, t⟩ :: L)) : Ops c all (⟨some d, .alloc t, ty, pos, aft, none⟩ :: rest) k E L := by
  subst hc
  refine o_run (fun a w he hs => ⟨.pointer (some ⟨w.heap.size, 0, none⟩), w.alloc (.cells i.zero.cells t), blk w.heap.size ⟨cellsL i.zero, t⟩ :: L, ?_, ?_, hk w.heap.size⟩) hd
  · simp [execOp, Instr.alloc, run_zeroI ti, newVar, newRow]
  · exact hs.alloc _ ⟨(0, 0), .inl rfl, by simp [cellsL]⟩
theorem o_box {t : TypeId} {x : Operand} {v : Value} {cs : List Value} (hx : Evs c E x v) (hc : cellsL v = cs) (hd : Nat.blt d c.n = true)
    (hk : ∀ b, Ops c all rest k ((d, .v (.pointer (some ⟨b, 0, none⟩))) :: E) (blk b ⟨cs, t⟩ :: L)) : Ops c all (⟨some d, .box t x, ty, pos, aft, none⟩ :: rest) k E L := by
  subst hc
  refine o_run (fun a w he hs => ⟨.pointer (some ⟨w.heap.size, 0, none⟩), w.alloc (.cells v.cells t), blk w.heap.size ⟨cellsL v, t⟩ :: L, ?_, ?_, hk w.heap.size⟩) hd
  · simp [execOp, hx a he, Instr.box, newVar, newRow]
  · exact hs.alloc _ ⟨(0, 0), .inl rfl, by simp [cellsL]⟩
theorem g_fld {t : TypeId} {x : Operand} {i b o fo : Nat} [tf : TyF c.P t i fo] (hx : Evs c E x (.pointer (some ⟨b, o, none⟩))) :
    Gives c E L ⟨do_, .fieldAddr t x i, ty, pos, aft, gd⟩ (.pointer (some ⟨b, o + fo, none⟩)) := by
  obtain ⟨fs, f, n, h1, h2, h3, h4⟩ := tf.h
  subst h3
  exact g_field h1 h2 h4 hx
theorem blk_cell {W0 w : World} {b o : Nat} {bl : Blk} {f : Atom → List Atom} {v : Value} (p : Pick (blk b) L bl f) (hs : St W0 L w) (h : bl.cs[o]? = some v) : w.cell? ⟨b, o, none⟩ = some v := by
  obtain ⟨fr, _, hb⟩ := hs.read p
  rw [cell_of_row w b o _ _ fr hb]
  simpa using h
theorem g_load {t : TypeId} {ud : TypeDesc} {x : Operand} {b o : Nat} {cs : List Value} {bt : Nat} {f : Atom → List Atom} {v : Value} [tu : TyU c.P t ud] (hx : Evs c E x (.pointer (some ⟨b, o, none⟩))) [p : Pick (blk b) L ⟨cs, bt⟩ f]
    (hu : isAggD ud = false) (hv : cs[o]? = some v) : Gives c E L ⟨do_, .load t x, ty, pos, aft, gd⟩ v := fun a w he hs => by
  have hc := blk_cell p hs hv
  simp [execOp, hx a he, Instr.loadAt, Instr.sureAddr, loadVar, run_isAggU tu, hu, hc]
theorem g_loadA {t : TypeId} {ud : TypeDesc} {i : TI} {x : Operand} {b o : Nat} {cs vs : List Value} {bt : Nat} {f : Atom → List Atom} [tu : TyU c.P t ud] [ti : TyI c.P t i] (hx : Evs c E x (.pointer (some ⟨b, o, none⟩))) [p : Pick (blk b) L ⟨cs, bt⟩ f]
    (hu : isAggD ud = true) (hn : vs.length = i.size) (hv : ∀ j u, vs[j]? = some u → cs[o + j]? = some u) : Gives c E L ⟨do_, .load t x, ty, pos, aft, gd⟩ (agg vs) := fun a w he hs => by
  have hc := run_loadCells_at (P := c.P) (w := w) (b := b) (o := o) (cs := vs) fun j u hj => blk_cell p hs (hv j u hj)
  simp only [execOp, hx a he, Instr.loadAt, Instr.sureAddr, loadVar, Sem.run_bind, Sem.run_ite, run_isAggU tu, hu, Sem.run_pure, Result.andThen_ok, if_true, run_sizeOfI ti, ← hn, hc, agg]
theorem g_loadF {t : TypeId} {ud : TypeDesc} {i : TI} {x : Operand} {b o : Nat} {cs vs : List Value} {bt : Nat} {f : Atom → List Atom} [tu : TyU c.P t ud] [ti : TyI c.P t i] (hx : Evs c E x (.pointer (some ⟨b, o, none⟩))) [p : Pick (blk b) L ⟨cs, bt⟩ f]
    (hu : isAggD ud = true) (hv : rngF i.size (cs.drop o) = some vs) : Gives c E L ⟨do_, .load t x, ty, pos, aft, gd⟩ (agg vs) := by
  obtain ⟨h1, h2⟩ := rngF_spec hv
  refine g_loadA (i := i) hx hu (by rw [h1, List.length_take]; omega) fun j u hj => ?_
  rw [h1, List.getElem?_take] at hj
  split at hj
  · rw [List.getElem?_drop] at hj; exact hj
  · cases hj
def elemP : Value → Nat → Value
  | .slice (some a) _ _, i => .pointer (some ⟨a.block, a.off + i, none⟩)
  | _, _ => undef
theorem g_idx {t e : TypeId} {i : TI} {x y : Operand} {v : Value} {kd : IntKind} {n : Int} {r : Row} [tu : TyU c.P t (.slice e)] [ti : TyI c.P e i] (hx : Evs c E x v) (hy : Evs c E y (.int kd n)) [rd : Rd L v r]
    (hsz : i.size = r.sz) (hp : 0 < r.sz) (h0 : 0 ≤ n) (h1 : n < (r.n : Int)) : Gives c E L ⟨do_, .indexAddr t x y, ty, pos, aft, gd⟩ (elemP v (n.toNat * r.sz)) := fun a w he hs => by
  obtain ⟨hl, _, ad, cap, rfl, _, _, hr⟩ := rd.rd _ w hs
  rcases hr with hr | ⟨b, o, rfl, _⟩
  · rw [hr] at hl
    have : 0 < r.n * r.sz := Nat.mul_pos (by omega) hp
    simp at hl
    omega
  · simp [execOp, hx a he, hy a he, Instr.indexAt, asIntOf, run_underlying tu.h, h0, h1, run_sizeOfI ti, hsz, add_at, elemP]
theorem g_loadE {t : TypeId} {ud : TypeDesc} {x : Operand} {v u : Value} {j : Nat} {r : Row} [tu : TyU c.P t ud] (hx : Evs c E x (elemP v j)) [rd : Rd L v r]
    (hu : isAggD ud = false) (hv : r.xs[j]? = some u) : Gives c E L ⟨do_, .load t x, ty, pos, aft, gd⟩ u := fun a w he hs => by
  obtain ⟨_, _, ad, cap, rfl, _, _, hr⟩ := rd.rd _ w hs
  rcases hr with hr | ⟨b, o, rfl, hc⟩
  · rw [hr] at hv; cases hv
  · have := hc j u hv
    simp [execOp, hx a he, elemP, Instr.loadAt, Instr.sureAddr, loadVar, run_isAggU tu, hu, this]
theorem g_loadEA {t : TypeId} {ud : TypeDesc} {i : TI} {x : Operand} {v : Value} {us : List Value} {j : Nat} {r : Row} [tu : TyU c.P t ud] [ti : TyI c.P t i] (hx : Evs c E x (elemP v j)) [rd : Rd L v r]
    (hu : isAggD ud = true) (hn : us.length = i.size) (hp : us ≠ []) (hv : ∀ q u, us[q]? = some u → r.xs[j + q]? = some u) : Gives c E L ⟨do_, .load t x, ty, pos, aft, gd⟩ (agg us) := fun a w he hs => by
  obtain ⟨_, _, ad, cap, rfl, _, _, hr⟩ := rd.rd _ w hs
  rcases hr with hr | ⟨b, o, rfl, hc⟩
  · cases us with
    | nil => exact absurd rfl hp
    | cons u us => have := hv 0 u rfl; rw [hr] at this; cases this
  · have hc' := run_loadCells_at (P := c.P) (w := w) (b := b) (o := o + j) (cs := us) fun q u hq => by
      have := hc _ _ (hv q u hq)
      rw [Nat.add_assoc]; exact this
    simp only [execOp, hx a he, elemP, Instr.loadAt, Instr.sureAddr, loadVar, Sem.run_bind, Sem.run_ite, run_isAggU tu, hu, Sem.run_pure, Result.andThen_ok, if_true, run_sizeOfI ti, ← hn, hc', agg]
theorem g_lenR {t e : TypeId} {x : Operand} {v : Value} {r : Row} [tu : TyU c.P t (.slice e)] (hx : Evs c E x v) [rd : Rd L v r] :
    Gives c E L ⟨do_, .call { callee := .builtin .len, args := #[x], argTypes := #[t] }, ty, pos, aft, gd⟩ (.int .i64 r.n) := fun a w he hs => by
  obtain ⟨_, _, ad, cap, rfl, _⟩ := rd.rd _ w hs
  exact g_len tu.h hx a w he hs
theorem o_store {t : TypeId} {i : TI} {x y : Operand} {v : Value} {b o : Nat} {cs vs cs' : List Value} {bt : Nat} {f : Atom → List Atom} [ti : TyI c.P t i]
    (hx : Evs c E x (.pointer (some ⟨b, o, none⟩))) (hy : Evs c E y v) [p : Pick (blk b) L ⟨cs, bt⟩ f] (hv : cellsL v = vs) (hn : vs.length = i.size) (h1 : ∀ W0 w, St W0 L w → ∀ u ∈ vs, u.oneCell' = true)
    (hset : SetsTo cs o vs cs') (hk : Ops c all rest k E (f (blk b ⟨cs', bt⟩))) : Ops c all (⟨none, .store t x y, ty, pos, aft, none⟩ :: rest) k E L := by
  refine o_run0 fun a w he hs => ?_
  obtain ⟨fr, hf, hb⟩ := hs.read p
  obtain ⟨w', hr, hsm⟩ := run_storeR (P := c.P) vs 0 o cs cs' w hb hf (by simpa using hset) (h1 _ w hs)
  refine ⟨w', _, ?_, hs.setBlk p (by rw [hset.length]; exact hf) hsm, hk⟩
  have hsz : v.cells.size = i.size := by rw [← hn, ← hv]; simp [cellsL]
  have hcl : v.cells.toList = vs := hv
  simp [execOp, hx a he, hy a he, Instr.storeAt, Instr.sureAddr, storeVar, run_sizeOfI ti, hsz, hcl, hr]
theorem o_store1 {t : TypeId} {i : TI} {x y : Operand} {v : Value} {b o : Nat} {cs cs' : List Value} {bt : Nat} {f : Atom → List Atom} [ti : TyI c.P t i]
    (hx : Evs c E x (.pointer (some ⟨b, o, none⟩))) (hy : Evs c E y v) [p : Pick (blk b) L ⟨cs, bt⟩ f] [h1 : OneC L v] (hn : i.size = 1)
    (hset : setF cs o [v] = some cs') (ho : Nat.ble o cs.length = true) (hk : Ops c all rest k E (f (blk b ⟨cs', bt⟩))) : Ops c all (⟨none, .store t x y, ty, pos, aft, none⟩ :: rest) k E L := by
  intro a w he hs
  have hone := h1.h _ w hs
  exact o_store hx hy (by rw [cellsL, cells_of_one hone]) (by simp [hn]) (fun _ _ _ u hu => by simp at hu; subst hu; exact hone) (setsTo_F hset (by simpa using ho)) hk a w he hs
theorem o_storeA {t : TypeId} {i : TI} {x y : Operand} {vs : List Value} {b o : Nat} {cs cs' : List Value} {bt : Nat} {f : Atom → List Atom} [ti : TyI c.P t i]
    (hx : Evs c E x (.pointer (some ⟨b, o, none⟩))) (hy : Evs c E y (agg vs)) [p : Pick (blk b) L ⟨cs, bt⟩ f] (hn : vs.length = i.size) (h1 : ∀ W0 w, St W0 L w → ∀ u ∈ vs, u.oneCell' = true)
    (hset : setF cs o vs = some cs') (ho : Nat.ble o cs.length = true) (hk : Ops c all rest k E (f (blk b ⟨cs', bt⟩))) : Ops c all (⟨none, .store t x y, ty, pos, aft, none⟩ :: rest) k E L :=
  o_store hx hy rfl hn h1 (setsTo_F hset (by simpa using ho)) hk
end
end VK
/- Own framework, part 4: literals of slices and structs, append, slicing, conversions between bytes and texts. No conditions. -/
namespace VK
open Go
theorem foldl_set (off : Nat) : ∀ (l : List Value) (i : Nat) (cs : Array Value), off + i + l.length ≤ cs.size →
    (((l.zipIdx i).foldl (fun (cs : Array Value) (x : Value × Nat) => cs.setIfInBounds (off + x.2) x.1) cs)).toList = cs.toList.take (off + i) ++ l ++ cs.toList.drop (off + i + l.length)
  | [], i, cs, h => by simp
  | v :: l, i, cs, h => by
    simp only [List.zipIdx_cons, List.foldl_cons]
    rw [foldl_set off l (i + 1) _ (by simp at h ⊢; omega)]
    apply List.ext_getElem?
    intro j
    have hs : cs.toList.length = cs.size := Array.length_toList
    simp only [Array.toList_setIfInBounds, List.append_assoc, List.getElem?_append, List.getElem?_take, List.getElem?_drop, List.length_take, List.length_set, List.length_cons, List.getElem?_set, hs]
    simp at h
    by_cases c1 : j < off + i
    · simp [c1, show min (off + i) cs.size = off + i by omega, show min (off + (i + 1)) cs.size = off + (i + 1) by omega, show j < off + (i + 1) by omega, show ¬ off + i = j by omega]
    · by_cases c2 : j = off + i
      · subst c2
        simp [show min (off + i) cs.size = off + i by omega, show min (off + (i + 1)) cs.size = off + (i + 1) by omega, show off + i < off + (i + 1) by omega, show off + i < cs.size by omega]
      · simp only [show min (off + i) cs.size = off + i by omega, show min (off + (i + 1)) cs.size = off + (i + 1) by omega, c1, if_false, show ¬ j < off + (i + 1) by omega]
        by_cases c3 : j - (off + (i + 1)) < l.length
        · have c4 : j - (off + i) < l.length + 1 := by omega
          simp only [c3, c4, if_true]
          rw [show j - (off + i) = (j - (off + (i + 1))) + 1 by omega]
          simp
        · have c4 : ¬ j - (off + i) < l.length + 1 := by omega
          have c5 : ¬ off + i = off + (i + 1) + l.length + (j - (off + (i + 1)) - l.length) := by omega
          simp only [c3, c4, c5, if_false]
          congr 1
          omega
theorem fill_one (off : Nat) (v : Value) (cs : Array Value) (h : off + v.cells.size ≤ cs.size) :
    (v.cells.zipIdx.foldl (fun (cs : Array Value) (x : Value × Nat) => cs.setIfInBounds (off + x.2) x.1) cs) = (cs.toList.take off ++ cellsL v ++ cs.toList.drop (off + (cellsL v).length)).toArray := by
  have := foldl_set off (cellsL v) 0 cs (by simpa [cellsL] using h)
  apply Array.toList_inj.1
  rw [← Array.foldl_toList, Array.toList_zipIdx]
  simpa [cellsL] using this
def catF (sz : Nat) : List Value → Option (List Value)
  | [] => some []
  | v :: vs => match rngF sz (cellsL v), catF sz vs with
    | some a, some r => if (cellsL v).length = sz then some (a ++ r) else none
    | _, _ => none
theorem fill_seq (sz : Nat) : ∀ (vs : List Value) (i : Nat) (cs : Array Value) (xs : List Value), catF sz vs = some xs → (i + vs.length) * sz ≤ cs.size →
    Instr.fill (fun i => some (i * sz, sz)) cs ((vs.zipIdx i).map fun x => (x.2, x.1)) = some (cs.toList.take (i * sz) ++ xs ++ cs.toList.drop (i * sz + xs.length)).toArray ∧ xs.length = vs.length * sz
  | [], i, cs, xs, h, _ => by simp [catF] at h; subst h; simp [Instr.fill]
  | v :: vs, i, cs, xs, h, hs => by
    simp only [catF] at h
    split at h
    · rename_i a r h1 h2
      split at h
      · rename_i hl
        cases h
        obtain ⟨ha, _⟩ := rngF_spec h1
        rw [List.take_of_length_le (by omega)] at ha
        have hvs : v.cells.size = sz := by rw [← hl]; simp [cellsL]
        have hmul : (i + (v :: vs).length) * sz = i * sz + sz + vs.length * sz := by simp [Nat.add_mul]; omega
        have hfit : i * sz + v.cells.size ≤ cs.size := by rw [hmul] at hs; omega
        have hm2 : (i + 1 + vs.length) * sz = i * sz + sz + vs.length * sz := by simp [Nat.add_mul]
        simp only [List.zipIdx_cons, List.map_cons, Instr.fill]
        rw [if_neg (by simp [hvs]; omega), fill_one _ _ _ hfit]
        have hcl : (cellsL v).length = sz := hl
        have hsz2 : (cs.toList.take (i * sz) ++ cellsL v ++ cs.toList.drop (i * sz + (cellsL v).length)).toArray.size = cs.size := by
          simp [hcl]; omega
        obtain ⟨g1, g2⟩ := fill_seq sz vs (i + 1) _ r h2 (by rw [hsz2, hm2]; omega)
        rw [g1]
        refine ⟨?_, by simp [g2, ha, hcl, Nat.add_mul]; omega⟩
        congr 1
        apply Array.toList_inj.1
        simp only [ha]
        apply List.ext_getElem?
        intro j
        have hcs : cs.toList.length = cs.size := Array.length_toList
        have him : (i + 1) * sz = i * sz + sz := by simp [Nat.add_mul]
        simp only [List.append_assoc, List.getElem?_append, List.getElem?_take, List.getElem?_drop, List.length_take, List.length_append, List.length_drop, hcs, hcl, him, g2]
        have e1 : min (i * sz) cs.size = i * sz := by omega
        simp only [e1]
        have e2 : min (i * sz + sz) (i * sz + (sz + (cs.size - (i * sz + sz)))) = i * sz + sz := by omega
        simp only [e2]
        by_cases c1 : j < i * sz
        · simp [c1, show j < i * sz + sz by omega]
        · by_cases c2 : j < i * sz + sz
          · simp [c1, c2, show j - i * sz < sz by omega]
          · simp only [c1, c2, if_false, show ¬ j - i * sz < sz by omega]
            by_cases c3 : j - (i * sz + sz) < vs.length * sz
            · rw [if_pos c3, if_pos (by omega)]
              congr 1
              omega
            · rw [if_neg c3, if_neg (by omega)]
              rw [if_neg (by omega), if_neg (by omega)]
              congr 1
              omega
      · cases h
    · cases h
section
variable {c : Cx} {k : List KI} {E : Env} {L : List Atom} {all rest : List Oper} {d : Nat} {do_ : Option Nat} {ty : TypeId} {pos : String} {aft : Array Edge} {gd : Option (Nat × Bool)}
theorem sl_new {w : World} {e : TypeId} {sz n : Nat} {xs : List Value} (hl : xs.length = n * sz) (h1 : ∀ u ∈ xs, u.oneCell' = true) (hn : n ≤ maxLen) :
    sl (.slice (some ⟨w.heap.size, 0, none⟩) n n) ⟨e, sz, n, xs⟩ (fun b => if b = w.heap.size then some (.cells xs.toArray e (0, 0)) else none) :=
  ⟨hl, h1, .inr ⟨w.heap.size, n, xs.toArray, (0, 0), rfl, by simp, .inl rfl, Nat.le_refl _, hn, by simpa using hl, by simp [← hl]⟩⟩
theorem o_lit {t e : TypeId} {i : TI} {n : Nat} {parts : Array (Nat × Operand)} {vs xs : List Value} [tu : TyU c.P t (.slice e)] [ti : TyI c.P e i]
    (hi : parts.toList.map (·.1) = List.range n) (hx : evs E (parts.toList.map (·.2)) = some vs) (hc : catF i.size vs = some xs) (h1 : ∀ W0 w, St W0 L w → ∀ u ∈ xs, u.oneCell' = true) (hn : Nat.ble (n * i.size) 65536 = true) (hn' : Nat.ble n 65536 = true) (hd : Nat.blt d c.n = true)
    (hk : ∀ v, Ops c all rest k ((d, .v v) :: E) (sl v ⟨e, i.size, n, xs⟩ :: L)) : Ops c all (⟨some d, .buildSlice t n parts, ty, pos, aft, none⟩ :: rest) k E L := by
  have hn := Nat.le_of_ble_eq_true hn
  have hn' := Nat.le_of_ble_eq_true hn'
  have hlen : parts.toList.length = n := by have := congrArg List.length hi; simpa using this
  have hvl : ∀ (l : List Operand) (vs : List Value), evs E l = some vs → vs.length = l.length := by
    intro l
    induction l with
    | nil => intro vs h; simp [evs] at h; subst h; rfl
    | cons x l ih =>
      intro vs h
      simp only [evs] at h
      split at h
      · rename_i v vs' _ h2
        cases h
        simp [ih _ h2]
      · cases h
  have hvs : vs.length = n := by rw [hvl _ _ hx]; simpa using hlen
  refine o_run (fun a w he hs => ⟨.slice (some ⟨w.heap.size, 0, none⟩) n n, w.alloc (.cells xs.toArray e), sl (.slice (some ⟨w.heap.size, 0, none⟩) n n) ⟨e, i.size, n, xs⟩ :: L, ?_, ?_, hk _⟩) hd
  · have hev := he.evs hx
    have hparts : (parts.map fun x : Nat × Operand => (x.1, a.eval x.2)).toList = (vs.zipIdx 0).map fun x => (x.2, x.1) := by
      apply List.ext_getElem?
      intro j
      have h1 := congrArg (·[j]?) hi
      have h2 := congrArg (·[j]?) hev
      simp at h1 h2
      simp only [Array.toList_map, List.getElem?_map, List.getElem?_zipIdx]
      cases hp : parts.toList[j]? with
      | none =>
        have hp' : parts[j]? = none := by simpa using hp
        simp [hp'] at h2
        have : vs[j]? = none := by simpa using h2
        simp [this]
      | some p =>
        have hp' : parts[j]? = some p := by simpa using hp
        simp [hp'] at h1 h2
        have hjn : j < n := by
          have := (List.getElem?_eq_some_iff.1 hp).1
          omega
        simp [← h2]
        rw [List.getElem?_eq_getElem (by simpa using hjn)] at h1
        simp at h1
        exact h1
    have hsz0 : ((Array.range (n * i.size)).map fun j => (i.zero.cells)[j % i.zero.cells.size]!).size = n * i.size := by simp
    obtain ⟨hf, hfl⟩ := fill_seq i.size vs 0 ((Array.range (n * i.size)).map fun j => (i.zero.cells)[j % i.zero.cells.size]!) xs hc (by rw [hsz0, hvs]; simp)
    rw [hvs] at hfl
    have hsz0' : ((Array.range (n * i.size)).map fun j => (#[] : Array Value)[j % (#[] : Array Value).size]!).size = n * i.size := by simp
    obtain ⟨hf', _⟩ := fill_seq i.size vs 0 ((Array.range (n * i.size)).map fun j => (#[] : Array Value)[j % (#[] : Array Value).size]!) xs hc (by rw [hsz0', hvs]; simp)
    rw [← hparts] at hf hf'
    simp only [Nat.zero_mul, List.take_zero, List.nil_append, Nat.zero_add] at hf hf'
    rw [List.drop_of_length_le (by rw [Array.length_toList, hsz0]; omega)] at hf
    rw [List.drop_of_length_le (by rw [Array.length_toList, hsz0']; omega)] at hf'
    simp only [List.append_nil] at hf hf'
    have hlt : ¬ n * i.size > 2 ^ 24 := by omega
    simp only [execOp, Instr.buildSlice, Sem.run_bind, run_underlying tu.h, Result.andThen_ok, run_sizeOfI ti, Sem.run_ite, if_neg hlt, Sem.run_pure]
    by_cases h0 : n * i.size = 0
    · rw [if_pos h0]
      rw [hf']
      simp [newRow]
    · rw [if_neg h0]
      simp only [run_zeroI ti, Result.andThen_ok]
      rw [hf]
      simp [newRow]
  · refine hs.alloc _ (sl_new ?_ (h1 _ w hs) (by simp only [maxLen]; omega))
    obtain ⟨_, hfl⟩ := fill_seq i.size vs 0 ((Array.range (n * i.size)).map fun _ => undef) xs hc (by simp [hvs])
    rw [hvs] at hfl
    exact hfl
end
end VK
/- Own framework, part 5: append, slicing, conversions, calls. No conditions. -/
namespace VK
open Go
def by8 (b : UInt8) : Value := .int .u8 (b.toNat : Int)
def bys (l : List UInt8) : List Value := l.map by8
theorem bys_length (l : List UInt8) : (bys l).length = l.length := by simp [bys]
theorem bys_one (l : List UInt8) : ∀ u ∈ bys l, u.oneCell' = true := by
  intro u hu
  simp only [bys, List.mem_map] at hu
  obtain ⟨b, _, rfl⟩ := hu
  rfl
def exA {α : Type} (X : α → List Atom) : Atom := fun h => ∃ x, star (X x) h
theorem star_app {A B : List Atom} : ∀ {h : Heap}, star (A ++ B) h → ∃ h1 h2, Sep h h1 h2 ∧ star A h1 ∧ star B h2 := by
  induction A with
  | nil => exact fun {h} hs => ⟨fun _ => none, h, ⟨fun _ => .inl rfl, fun _ _ e => (by cases e), fun _ _ e => e⟩, trivial, hs⟩
  | cons X A ih =>
    intro h hs
    obtain ⟨h1, h2, ⟨d, i1, i2⟩, hX, hr⟩ := hs
    obtain ⟨g1, g2, ⟨d', j1, j2⟩, hA, hB⟩ := ih hr
    refine ⟨fun b => (h1 b).or (g1 b), g2, ⟨fun b => ?_, fun b o e => ?_, fun b o e => i2 b o (j2 b o e)⟩, ⟨h1, g1, ⟨fun b => ?_, fun b o e => by simp [e], fun b o e => ?_⟩, hX, hA⟩, hB⟩
    · rcases d b with e | e
      · rcases d' b with e' | e'
        · exact .inl (by simp [e, e'])
        · exact .inr e'
      · cases hg : g2 b with
        | none => exact .inr rfl
        | some o => rw [j2 b o hg] at e; cases e
    · cases hh : h1 b with
      | none => simp [hh] at e; exact i2 b o (j1 b o e)
      | some o' => simp [hh] at e; subst e; exact i1 b _ hh
    · rcases d b with e | e
      · exact .inl e
      · cases hg : g1 b with
        | none => exact .inr rfl
        | some o => rw [j1 b o hg] at e; cases e
    · cases hh : h1 b with
      | none => simpa [hh] using e
      | some o' =>
        rcases d b with e' | e'
        · rw [hh] at e'; cases e'
        · rw [j1 b o e] at e'; cases e'
theorem star_of_app {A B : List Atom} : ∀ {h h1 h2 : Heap}, Sep h h1 h2 → star A h1 → star B h2 → star (A ++ B) h := by
  induction A with
  | nil => exact fun s _ hB => star_mono s.2.2 hB
  | cons X A ih =>
    intro h h1 h2 ⟨d, i1, i2⟩ hA hB
    obtain ⟨g1, g2, ⟨d', j1, j2⟩, hX, hr⟩ := hA
    refine ⟨g1, fun b => (g2 b).or (h2 b), ⟨fun b => ?_, fun b o e => i1 b o (j1 b o e), fun b o e => ?_⟩, hX, ih ⟨fun b => ?_, fun b o e => by simp [e], fun b o e => ?_⟩ hr hB⟩
    · rcases d' b with e | e
      · exact .inl e
      · cases hg : g1 b with
        | none => exact .inl rfl
        | some o =>
          rcases d b with e' | e'
          · rw [j1 b o hg] at e'; cases e'
          · exact .inr (by simp [e, e'])
    · cases hg : g2 b with
      | none => simp [hg] at e; exact i2 b o e
      | some o' => simp [hg] at e; subst e; exact i1 b _ (j2 b _ hg)
    · cases hg : g2 b with
      | none => exact .inl rfl
      | some o =>
        rcases d b with e' | e'
        · rw [j2 b o hg] at e'; cases e'
        · exact .inr e'
    · cases hg : g2 b with
      | none => simpa [hg] using e
      | some o' =>
        rcases d b with e' | e'
        · rw [j2 b o' hg] at e'; cases e'
        · rw [e] at e'; cases e'
theorem star_exA {α : Type} {X : α → List Atom} {L : List Atom} {h : Heap} : star (exA X :: L) h ↔ ∃ x, star (X x ++ L) h := by
  constructor
  · rintro ⟨h1, h2, s, ⟨x, hx⟩, hr⟩
    exact ⟨x, star_of_app s hx hr⟩
  · rintro ⟨x, hx⟩
    obtain ⟨h1, h2, s, ha, hb⟩ := star_app hx
    exact ⟨h1, h2, s, ⟨x, ha⟩, hb⟩
theorem Ent.shut {α : Type} {X : α → List Atom} {L : List Atom} (x : α) : Ent (X x ++ L) (exA X :: L) := fun _ h => star_exA.2 ⟨x, h⟩
theorem Fn.exA {P : Program} {f : FuncId} {args : List Value} {L : List Atom} {R : Value → List Atom → Prop} {α : Type} {X : α → List Atom} (h : ∀ x, Fn P f args (X x ++ L) R) : Fn P f args (exA X :: L) R := fun W0 w hs => by
  obtain ⟨x, hx⟩ := star_exA.1 hs.heap
  exact h x W0 w ⟨hs.os, hs.tape, hs.output, hx⟩
theorem Fn.liftV {P : Program} {f : FuncId} {args : List Value} {α : Type} {K : α → Atom} {x x' : α} {p : Value → Prop} {A : Value → List Atom}
    (h : ∀ F, Fn P f args (K x :: F) fun v L' => p v ∧ L' = A v ++ K x' :: F) {L : List Atom} {g : Atom → List Atom} (pk : Pick K L x g) :
    Fn P f args L fun v L' => p v ∧ L' = A v ++ g (K x') := fun W0 w hs => by
  obtain ⟨R, h1, h2⟩ := star_pick pk
  refine (h R W0 w (hs.ent h1)).mono ?_
  rintro e w' ⟨v, L', rfl, ⟨hp, rfl⟩, hS⟩
  have key : ∀ (B : List Atom), Ent (B ++ K x' :: R) (B ++ g (K x')) := fun B => by
    induction B with
    | nil => exact h2 _
    | cons b B ih => exact Ent.cons ih
  exact ⟨_, _, rfl, ⟨hp, rfl⟩, hS.ent (key _)⟩
theorem Fn.lift1 {P : Program} {f : FuncId} {args : List Value} {α : Type} {K : α → Atom} {x x' : α} {v0 : Value}
    (h : ∀ F, Fn P f args (K x :: F) fun v L' => v = v0 ∧ L' = K x' :: F) {L : List Atom} {g : Atom → List Atom} (pk : Pick K L x g) :
    Fn P f args L fun v L' => v = v0 ∧ L' = g (K x') := fun W0 w hs => by
  obtain ⟨R, h1, h2⟩ := star_pick pk
  refine (h R W0 w (hs.ent h1)).mono ?_
  rintro e w' ⟨v, L', rfl, ⟨rfl, rfl⟩, hS⟩
  exact ⟨_, _, rfl, ⟨rfl, rfl⟩, hS.ent (h2 _)⟩
section
variable {P : Program}
structure Src (P : Program) (u : TypeId) (sz : Nat) (x : Value) (m : Nat) (ys : List Value) (w : World) : Prop where
  noint : ∃ du, P.underlying u = some du ∧ (du = .string ∨ ∃ e, du = .slice e)
  len : ∀ w', (Builtin.lenOf x).run P w' = .ok m w'
  cells : ∀ w' : World, (∀ b : Nat, w'.heap[b]? = w.heap[b]?) → (Builtin.firstCells sz m x).run P w' = .ok ys.toArray w'
  size : ys.length = m * sz
  one : ∀ y ∈ ys, y.oneCell' = true
theorem src_rd {u e : TypeId} {x : Value} {r : Row} {w : World} (hu : TyU P u (.slice e)) (h : RdW w x r) : Src P u r.sz x r.n r.xs w := by
  obtain ⟨h1, h2, a, cap, rfl, _, _, h3⟩ := h
  refine ⟨⟨_, hu.h, .inr ⟨_, rfl⟩⟩, fun w' => by simp [Builtin.lenOf], fun w' hw => ?_, h1, h2⟩
  rcases h3 with hx | ⟨b, o, rfl, hc⟩
  · rw [hx] at h1 ⊢
    cases a with
    | none => simp [Builtin.firstCells]
    | some ad =>
      simp only [Builtin.firstCells]
      rw [← h1]
      simp [loadCells, loadCellsFrom]
  · simp only [Builtin.firstCells]
    rw [← h1]
    refine run_loadCells_at fun j v hj => ?_
    have := hc j v hj
    simp only [World.cell?] at this ⊢
    rw [hw]; exact this
theorem src_str {u : TypeId} {l : List UInt8} {w : World} (hu : TyU P u .string) : Src P u 1 (str l) l.length (bys l) w := by
  have hsz : (ByteArray.mk l.toArray).size = l.length := List.size_toArray ..
  refine ⟨⟨_, hu.h, .inl rfl⟩, fun w' => by simp [Builtin.lenOf, str, hsz], fun w' _ => ?_, by simp [bys], bys_one l⟩
  have := Lib.run_firstCells_string (P := P) w' 1 ⟨l.toArray⟩
  rw [hsz] at this
  simp only [str, this, Lib.strCells]
  rfl
theorem size_zeroCells' (z : Array Value) (n : Nat) : (Builtin.zeroCells z n).size = n * z.size := by simp [Builtin.zeroCells]
end
theorem run_append_sl {P : Program} {W0 w : World} {L : List Atom} {t u e : TypeId} {ty : TypeId} {i : TI} {v x : Value} {r : Row} {m : Nat} {ys : List Value} {f : Atom → List Atom}
    (tu : TyU P t (.slice e)) (ti : TyI P e i) (hs : St W0 L w) (p : Pick (sl v) L r f) (he : r.e = e) (hsz : i.size = r.sz) (hzs : (cellsL i.zero).length = i.size)
    (src : Src P u r.sz x m ys w) (hb : (r.n + m) * i.bytes ≤ 140737488355328) (hb0 : 0 < i.bytes) :
    ∃ v' w', (Builtin.append_ #[t, u] ty #[v, x]).run P w = .ok v' w' ∧ St W0 (f (sl v' ⟨e, r.sz, r.n + m, r.xs ++ ys⟩)) w' := by
  subst he
  obtain ⟨info, hi, hi1, hi2, hi3⟩ := ti.h
  obtain ⟨du, hdu, hint⟩ := src.noint
  obtain ⟨R, hin, hout⟩ := star_pick p
  have hs' := hs.ent hin
  have hmax : r.n + m ≤ 140737488355328 := Nat.le_trans (Nat.le_mul_of_pos_right _ hb0) hb
  obtain ⟨h1, h2, hd, hA, hR⟩ := hs'.heap
  obtain ⟨g1, g2, g3⟩ := hA
  have hone : ∀ y ∈ r.xs ++ ys, y.oneCell' = true := fun y hy => by
    rcases List.mem_append.1 hy with hy | hy
    · exact g2 y hy
    · exact src.one y hy
  have hlen : (r.xs ++ ys).length = (r.n + m) * r.sz := by rw [List.length_append, g1, src.size, Nat.add_mul]
  have fresh : ∀ (cap : Nat) (zs : Array Value), r.n + m ≤ cap → cap ≤ maxLen → zs.size = (cap - (r.n + m)) * r.sz →
      St W0 (f (sl (.slice (some ⟨w.heap.size, 0, none⟩) (r.n + m) cap) ⟨r.e, r.sz, r.n + m, r.xs ++ ys⟩)) (w.drew.alloc (.cells ((r.xs ++ ys).toArray ++ zs) r.e)) := by
    intro cap zs h3 h4 h5
    have hcs : ((r.xs ++ ys).toArray ++ zs).size = cap * r.sz := by
      rw [Array.size_append, List.size_toArray, hlen, h5, ← Nat.add_mul]
      congr 1; omega
    refine (((hs'.ent Ent.drop).drew.alloc (.cells ((r.xs ++ ys).toArray ++ zs) r.e) (A := sl (.slice (some ⟨w.heap.size, 0, none⟩) (r.n + m) cap) ⟨r.e, r.sz, r.n + m, r.xs ++ ys⟩) ?_)).ent (hout _)
    refine ⟨hlen, hone, .inr ⟨w.heap.size, cap, _, (0, 0), rfl, by simp, .inl rfl, h3, h4, hcs, ?_⟩⟩
    rw [Array.toList_append, ← hlen]
    simp only [List.take_left]
  have hcap : ∀ old, grownCap w (r.n + m) old r.e ≤ maxLen := fun old => grownCap_le_maxLen w _ old r.e (by simp only [maxLen]; omega)
  have hzc : ∀ n', (Builtin.zeroCells i.zero.cells n').size = n' * r.sz := fun n' => by
    rw [size_zeroCells', ← hsz, ← hzs]; simp [cellsL]
  have assoc : ∀ (a b : List Value) (z : Array Value), a.toArray ++ (b.toArray ++ z) = (a ++ b).toArray ++ z := fun a b z => by
    apply Array.toList_inj.1; simp
  rcases g3 with ⟨rfl, hn0⟩ | ⟨b, cap, cur, fr, rfl, hb1, hf, hnc, hcm, hcs, htk⟩
  · have hx0 : r.xs = [] := List.eq_nil_of_length_eq_zero (by rw [g1, hn0]; simp)
    by_cases hm : m = 0
    · subst hm
      have hy0 : ys = [] := List.eq_nil_of_length_eq_zero (by rw [src.size]; simp)
      refine ⟨.slice none 0 0, w, ?_, ?_⟩
      · have hc := src.cells w (fun _ => rfl)
        rcases hint with rfl | ⟨e', rfl⟩ <;> simp [Builtin.append_, run_underlying tu.h, run_underlying hdu, run_sizeOfI ti, hsz, src.len, hc]
      · refine (hs'.ent (Ent.atom fun h' hh => ?_)).ent (hout _)
        exact ⟨by rw [hlen], hone, .inl ⟨rfl, by simp [hn0]⟩⟩
    · have hgf := growslice_fits (need := r.n + m) (old := 0) (by omega) hb
      refine ⟨.slice (some ⟨w.heap.size, 0, none⟩) (r.n + m) (grownCap w (r.n + m) 0 r.e), _, ?_, fresh (grownCap w (r.n + m) 0 r.e) (Builtin.zeroCells i.zero.cells (grownCap w (r.n + m) 0 r.e - (r.n + m))) (grownCap_ge _ _ _ _) (hcap 0) (hzc _)⟩
      have hc := src.cells w.drew (fun _ => rfl)
      have hold : (Builtin.firstCells r.sz 0 (.slice none 0 0)).run P w.drew = .ok #[] w.drew := by simp [Builtin.firstCells]
      have h48 : ¬ (281474976710656 < Builtin.nextslicecap (r.n + m) 0 * i.bytes) := by omega
      have h63 : ¬ ((9223372036854775807 : Int) < ((r.n + m : Nat) : Int)) := by omega
      rw [hn0] at h48 h63 ⊢
      simp only [Nat.zero_add] at h48 h63 ⊢
      rcases hint with rfl | ⟨e', rfl⟩ <;> simp [Builtin.append_, run_underlying tu.h, run_underlying hdu, run_sizeOfI ti, run_zeroI ti, typeInfo, hi, hi2, hsz, src.len, hc, hm, h48, h63, Question.forced, hold, newRow, grownCap, hx0]
  · by_cases hroom : r.n + m ≤ cap
    · have hfit : r.n * r.sz + ys.length ≤ cur.size := by rw [src.size, hcs, ← Nat.add_mul]; exact Nat.mul_le_mul_right _ hroom
      have hwb : w.heap[b]? = some (.cells cur.toList.toArray r.e fr) := by simpa using hd.2.1 b _ hb1
      obtain ⟨w', hr, hsm⟩ := run_storeR (P := P) (b := b) (t := r.e) (fr := fr) ys 0 (r.n * r.sz) cur.toList (cur.toList.take (r.n * r.sz) ++ ys ++ cur.toList.drop (r.n * r.sz + ys.length)) w hwb (by simpa using hf)
        ⟨by simpa using hfit, by simp⟩ src.one
      refine ⟨.slice (some ⟨b, 0, none⟩) (r.n + m) cap, w', ?_, (hs'.sameBut hsm (A' := sl (.slice (some ⟨b, 0, none⟩) (r.n + m) cap) ⟨r.e, r.sz, r.n + m, r.xs ++ ys⟩) fun g hg hga => ?_).ent (hout _)⟩
      · have hc := src.cells w (fun _ => rfl)
        rcases hint with rfl | ⟨e', rfl⟩ <;> simp [Builtin.append_, run_underlying tu.h, run_underlying hdu, run_sizeOfI ti, hsz, src.len, hc, hroom, add_at, hr]
      · obtain ⟨_, _, k3⟩ := hga
        rcases k3 with ⟨h0, _⟩ | ⟨b', cap', cur', fr', he', hb', _⟩
        · cases h0
        · injection he' with he1 he2 he3
          injection he1 with he1
          injection he1 with he1
          subst he1
          refine ⟨⟨_, hb'⟩, hlen, hone, .inr ⟨b, cap, (cur.toList.take (r.n * r.sz) ++ ys ++ cur.toList.drop (r.n * r.sz + ys.length)).toArray, fr, rfl, by simp [upd], ?_, hroom, hcm, ?_, ?_⟩⟩
          · have : (cur.toList.take (r.n * r.sz) ++ ys ++ cur.toList.drop (r.n * r.sz + ys.length)).toArray.size = cur.size := by simp; omega
            rw [this]; exact hf
          · simp; omega
          · rw [htk, ← hlen]
            simp only [List.take_left]
    · have hgf := growslice_fits (need := r.n + m) (old := cap) (by omega) hb
      refine ⟨.slice (some ⟨w.heap.size, 0, none⟩) (r.n + m) (grownCap w (r.n + m) cap r.e), _, ?_, fresh (grownCap w (r.n + m) cap r.e) (Builtin.zeroCells i.zero.cells (grownCap w (r.n + m) cap r.e - (r.n + m))) (grownCap_ge _ _ _ _) (hcap cap) (hzc _)⟩
      have hc := src.cells w.drew (fun _ => rfl)
      have h48 : ¬ (281474976710656 < Builtin.nextslicecap (r.n + m) cap * i.bytes) := by omega
      have h63 : ¬ ((9223372036854775807 : Int) < ((r.n + m : Nat) : Int)) := by omega
      have h63' : ¬ ((9223372036854775807 : Int) < (r.n : Int) + (m : Int)) := by omega
      have hold : (Builtin.firstCells r.sz r.n (.slice (some ⟨b, 0, none⟩) r.n cap)).run P w.drew = .ok r.xs.toArray w.drew := by
        simp only [Builtin.firstCells]
        rw [← g1]
        refine run_loadCells_at fun j y hj => ?_
        have hwb := hd.2.1 b _ hb1
        rw [Nat.zero_add, World.cell?_drew, cell_of_row w b j cur r.e fr hwb]
        rw [← htk, List.getElem?_take] at hj
        split at hj
        · simpa using hj
        · cases hj
      rcases hint with rfl | ⟨e', rfl⟩ <;> simp [Builtin.append_, run_underlying tu.h, run_underlying hdu, run_sizeOfI ti, run_zeroI ti, typeInfo, hi, hi2, hsz, src.len, hc, hroom, h48, h63', Question.forced, hold, newRow, grownCap, assoc]
section
variable {c : Cx} {k : List KI} {E : Env} {L : List Atom} {all rest : List Oper} {d : Nat} {do_ : Option Nat} {ty : TypeId} {pos : String} {aft : Array Edge} {gd : Option (Nat × Bool)}
def inR : IntKind → Int → Prop
  | .i8, x => -128 ≤ x ∧ x ≤ 127
  | .i16, x => -32768 ≤ x ∧ x ≤ 32767
  | .i32, x => -2147483648 ≤ x ∧ x ≤ 2147483647
  | .i64, x => -9223372036854775808 ≤ x ∧ x ≤ 9223372036854775807
  | .u8, x => 0 ≤ x ∧ x ≤ 255
  | .u16, x => 0 ≤ x ∧ x ≤ 65535
  | .u32, x => 0 ≤ x ∧ x ≤ 4294967295
  | .u64, x => 0 ≤ x ∧ x ≤ 18446744073709551615
theorem wrap_in {kd : IntKind} {x : Int} (h : inR kd x) : kd.wrap x = x := by
  cases kd <;> simp only [inR] at h <;> simp [IntKind.wrap, IntKind.bits, IntKind.signed] <;> omega
theorem o_giveN {op : Op} {kd : IntKind} {x : Int} (h : Gives c E L ⟨some d, op, ty, pos, aft, none⟩ (.int kd (kd.wrap x))) (hr : inR kd x) (hd : Nat.blt d c.n = true)
    (hk : Ops c all rest k ((d, .v (.int kd x)) :: E) L) : Ops c all (⟨some d, op, ty, pos, aft, none⟩ :: rest) k E L := oG h (by rw [wrap_in hr]) hd hk
theorem q_giveN {op : Op} {kd : IntKind} {x : Int} (h : Gives c E L ⟨some d, op, ty, pos, aft, none⟩ (.int kd (kd.wrap x))) (hr : inR kd x) (hd : Nat.blt d c.n = true)
    (hk : QOps c all k L rest ((d, .v (.int kd x)) :: E)) : QOps c all k L (⟨some d, op, ty, pos, aft, none⟩ :: rest) E := q_give h (by rw [wrap_in hr]) hd hk
def modK : IntKind → Option Int
  | .u8 => some 256
  | .u16 => some 65536
  | .u32 => some 4294967296
  | .u64 => some 18446744073709551616
  | _ => none
theorem wrap_mod {kd : IntKind} {m x : Int} (h : modK kd = some m) : kd.wrap x = x % m := by
  cases kd <;> simp [modK] at h <;> subst h <;> simp [IntKind.wrap, IntKind.bits, IntKind.signed]
theorem o_giveU {op : Op} {kd : IntKind} {x m : Int} (h : Gives c E L ⟨some d, op, ty, pos, aft, none⟩ (.int kd (kd.wrap x))) (hr : modK kd = some m) (hd : Nat.blt d c.n = true)
    (hk : Ops c all rest k ((d, .v (.int kd (x % m))) :: E) L) : Ops c all (⟨some d, op, ty, pos, aft, none⟩ :: rest) k E L := oG h (by rw [wrap_mod hr]) hd hk
theorem q_giveU {op : Op} {kd : IntKind} {x m : Int} (h : Gives c E L ⟨some d, op, ty, pos, aft, none⟩ (.int kd (kd.wrap x))) (hr : modK kd = some m) (hd : Nat.blt d c.n = true)
    (hk : QOps c all k L rest ((d, .v (.int kd (x % m))) :: E)) : QOps c all k L (⟨some d, op, ty, pos, aft, none⟩ :: rest) E := q_give h (by rw [wrap_mod hr]) hd hk
def bitN (m n : Nat) : BinOp → Option Nat
  | .and => some (m &&& n)
  | .or => some (m ||| n)
  | .xor => some (m ^^^ n)
  | _ => none
theorem toNat_ofInt_small {w : Nat} {x : Int} (h0 : 0 ≤ x) (h1 : x < 2 ^ w) : (BitVec.ofInt w x).toNat = x.toNat := by
  rw [BitVec.toNat_ofInt]
  congr 1
  exact Int.emod_eq_of_lt h0 (by simpa using h1)
theorem modK_bits {kd : IntKind} {b : Int} (h : modK kd = some b) : b = 2 ^ kd.bits := by cases kd <;> simp [modK] at h <;> subst h <;> rfl
theorem g_bits {op : BinOp} {t t' : TypeId} {x y : Operand} {kd : IntKind} {m n b : Int} (hx : Evs c E x (.int kd m)) (hy : Evs c E y (.int kd n)) (hb : modK kd = some b) (h0 : 0 ≤ m) (h1 : m < b) (h2 : 0 ≤ n) (h3 : n < b) {z : Nat} (hz : bitN m.toNat n.toNat op = some z := by rfl) :
    Gives c E L ⟨do_, .binOp op t x y t', ty, pos, aft, gd⟩ (.int kd z) := by
  have hbb := modK_bits hb
  subst hbb
  have e1 := toNat_ofInt_small h0 h1
  have e2 := toNat_ofInt_small h2 h3
  have hw : ∀ v : BitVec kd.bits, kd.wrap v.toNat = v.toNat := fun v => by
    rw [wrap_mod hb]
    exact Int.emod_eq_of_lt (by omega) (by have := v.isLt; exact_mod_cast this)
  cases op <;> simp only [bitN, Option.some.injEq, reduceCtorEq] at hz <;> subst hz
  · refine (g_bin hx hy (v := .int kd (kd.wrap (BitVec.ofInt kd.bits m &&& BitVec.ofInt kd.bits n).toNat)) rfl).as ?_
    rw [hw, BitVec.toNat_and, e1, e2]
  · refine (g_bin hx hy (v := .int kd (kd.wrap (BitVec.ofInt kd.bits m ||| BitVec.ofInt kd.bits n).toNat)) rfl).as ?_
    rw [hw, BitVec.toNat_or, e1, e2]
  · refine (g_bin hx hy (v := .int kd (kd.wrap (BitVec.ofInt kd.bits m ^^^ BitVec.ofInt kd.bits n).toNat)) rfl).as ?_
    rw [hw, BitVec.toNat_xor, e1, e2]
theorem g_comU {t : TypeId} {x : Operand} {kd : IntKind} {n b : Int} (hx : Evs c E x (.int kd n)) (hb : modK kd = some b) (h0 : 0 ≤ n) (h1 : n < b) : Gives c E L ⟨do_, .unOp .xor t x, ty, pos, aft, gd⟩ (.int kd (b - 1 - n)) := by
  refine (g_com hx).as ?_
  have hbb := modK_bits hb
  have hs : kd.signed = false := by cases kd <;> simp [modK] at hb <;> rfl
  have hm : kd.max = b - 1 := by rw [hbb]; simp [IntKind.max, hs]
  have e0 : (if kd.signed then (-1 : Int) else kd.max) = b - 1 := by rw [hs, hm]; rfl
  rw [e0, wrap_mod hb]
  subst hbb
  have hall : BitVec.ofInt kd.bits ((2 : Int) ^ kd.bits - 1) = BitVec.allOnes kd.bits := by
    apply BitVec.eq_of_toNat_eq
    rw [toNat_ofInt_small (by omega) (by omega), BitVec.toNat_allOnes]
    have : (0 : Int) < 2 ^ kd.bits := by omega
    have h2 : ((2 : Int) ^ kd.bits) = ((2 ^ kd.bits : Nat) : Int) := by norm_cast
    rw [h2]; omega
  rw [hall, BitVec.allOnes_xor, BitVec.toNat_not, toNat_ofInt_small h0 h1]
  have h2 : ((2 : Int) ^ kd.bits) = ((2 ^ kd.bits : Nat) : Int) := by norm_cast
  rw [h2] at h1 ⊢
  have : ((2 ^ kd.bits - 1 - n.toNat : Nat) : Int) = ((2 ^ kd.bits : Nat) : Int) - 1 - n := by omega
  rw [this]
  rw [Int.emod_eq_of_lt (by omega) (by omega)]
theorem o_app {t u e e' : TypeId} {i : TI} {x y : Operand} {v vy : Value} {r ry : Row} {f : Atom → List Atom} [tu : TyU c.P t (.slice e)] [uu : TyU c.P u (.slice e')] [ti : TyI c.P e i]
    (hx : Evs c E x v) (hy : Evs c E y vy) [p : Pick (sl v) L r f] [rd : Rd L vy ry] (he : r.e = e) (hsz : i.size = r.sz) (hsy : ry.sz = r.sz) (hzs : (cellsL i.zero).length = i.size) (hb0 : 0 < i.bytes)
    (hb : (r.n + ry.n) * i.bytes ≤ 140737488355328) (hd : Nat.blt d c.n = true)
    (hk : ∀ v', Ops c all rest k ((d, .v v') :: E) (f (sl v' ⟨e, r.sz, r.n + ry.n, r.xs ++ ry.xs⟩))) :
    Ops c all (⟨some d, .call { callee := .builtin .append, args := #[x, y], argTypes := #[t, u] }, ty, pos, aft, none⟩ :: rest) k E L := by
  refine o_run (fun a w hE hs => ?_) hd
  obtain ⟨v', w', hr, hs'⟩ := run_append_sl (ty := ty) tu ti hs p he hsz hzs (by have := src_rd (P := c.P) uu (rd.rd _ w hs); rw [hsy] at this; exact this) hb hb0
  exact ⟨v', w', _, by simp [execOp, resolve, invoke, builtin, hx a hE, hy a hE, hr], hs', hk v'⟩
theorem o_appS {t u e : TypeId} {i : TI} {x y : Operand} {v : Value} {l : List UInt8} {r : Row} {f : Atom → List Atom} [tu : TyU c.P t (.slice e)] [uu : TyU c.P u .string] [ti : TyI c.P e i]
    (hx : Evs c E x v) (hy : Evs c E y (str l)) [p : Pick (sl v) L r f] (he : r.e = e) (hsz : i.size = r.sz) (hs1 : r.sz = 1) (hzs : (cellsL i.zero).length = i.size) (hb0 : 0 < i.bytes)
    (hb : (r.n + l.length) * i.bytes ≤ 140737488355328) (hd : Nat.blt d c.n = true)
    (hk : ∀ v', Ops c all rest k ((d, .v v') :: E) (f (sl v' ⟨e, r.sz, r.n + l.length, r.xs ++ bys l⟩))) :
    Ops c all (⟨some d, .call { callee := .builtin .append, args := #[x, y], argTypes := #[t, u] }, ty, pos, aft, none⟩ :: rest) k E L := by
  refine o_run (fun a w hE hs => ?_) hd
  obtain ⟨v', w', hr, hs'⟩ := run_append_sl (ty := ty) tu ti hs p he hsz hzs (by rw [hs1]; exact src_str (P := c.P) uu) hb hb0
  exact ⟨v', w', _, by simp [execOp, resolve, invoke, builtin, hx a hE, hy a hE, hr], hs', hk v'⟩
theorem o_nilsl {ops : List Oper} (e : TypeId) (sz : Nat) (h : Ops c all ops k E (sl (.slice none 0 0) ⟨e, sz, 0, []⟩ :: L)) : Ops c all ops k E L := fun a w he hs => by
  refine h a w he ⟨hs.os, hs.tape, hs.output, fun _ => none, fun b => w.heap[b]?, ⟨fun _ => .inl rfl, fun _ _ e => (by cases e), fun _ _ e => e⟩, ⟨by simp, by simp, .inl ⟨rfl, rfl⟩⟩, hs.heap⟩
theorem Ent.nilsl (e : TypeId) (sz : Nat) : Ent L (sl (.slice none 0 0) ⟨e, sz, 0, []⟩ :: L) := fun h hs =>
  ⟨fun _ => none, h, ⟨fun _ => .inl rfl, fun _ _ e => (by cases e), fun _ _ e => e⟩, ⟨by simp, by simp, .inl ⟨rfl, rfl⟩⟩, hs⟩
theorem RdW.sub {w : World} {v : Value} {r : Row} (h : RdW w v r) (lo hi : Nat) (h1 : lo ≤ hi) (h2 : hi ≤ r.n) :
    ∃ a n cap, v = .slice a n cap ∧ hi ≤ cap ∧ RdW w (.slice (if cap = lo then a else a.map (·.add (lo * r.sz))) (hi - lo) (cap - lo)) ⟨r.e, r.sz, hi - lo, (r.xs.drop (lo * r.sz)).take ((hi - lo) * r.sz)⟩ := by
  obtain ⟨g1, g2, a, cap, rfl, g3, g4, g5⟩ := h
  have hm : lo * r.sz + (hi - lo) * r.sz ≤ r.n * r.sz := by rw [← Nat.add_mul]; exact Nat.mul_le_mul_right _ (by omega)
  have hlen : ((r.xs.drop (lo * r.sz)).take ((hi - lo) * r.sz)).length = (hi - lo) * r.sz := by simp [g1]; omega
  refine ⟨a, r.n, cap, rfl, by omega, hlen, fun u hu => g2 u (List.mem_of_mem_drop (List.mem_of_mem_take hu)), _, cap - lo, rfl, (show hi - lo ≤ cap - lo by omega), by omega, ?_⟩
  rcases g5 with g5 | ⟨b, o, rfl, g5⟩
  · exact .inl (by simp [g5])
  · by_cases hc : cap = lo
    · refine .inl (List.eq_nil_of_length_eq_zero ?_)
      rw [hlen, show hi - lo = 0 by omega]; simp
    · refine .inr ⟨b, o + lo * r.sz, by simp [hc, add_at], fun j u hj => ?_⟩
      rw [List.getElem?_take] at hj
      split at hj
      · rw [List.getElem?_drop] at hj
        have := g5 _ _ hj
        rw [Nat.add_assoc]; exact this
      · cases hj
theorem run_sliceAt {P : Program} {t e : TypeId} {i : TI} {lo hi : Option Value} {a : Option Addr} {n cap : Nat} {l h : Nat} (tu : TyU P t (.slice e)) (ti : TyI P e i)
    (hlo : (lo = none ∧ l = 0) ∨ ∃ kd, lo = some (.int kd (l : Int))) (hhi : (hi = none ∧ h = n) ∨ ∃ kd, hi = some (.int kd (h : Int))) (h1 : l ≤ h) (h2 : h ≤ cap) (w : World) :
    (Instr.sliceAt t (.slice a n cap) lo hi none).run P w = .ok (.slice (if cap = l then a else a.map (·.add (l * i.size))) (h - l) (cap - l)) w := by
  rcases hlo with ⟨rfl, rfl⟩ | ⟨kd, rfl⟩ <;> rcases hhi with ⟨rfl, rfl⟩ | ⟨kd', rfl⟩ <;>
    simp [Instr.sliceAt, Instr.slice, run_underlying tu.h, Instr.sliceBounds, Instr.sliceBound, asIntOf, run_sizeOfI ti, h1, h2]
def bndV (c : Cx) (E : Env) (x : Option Operand) (dflt l : Nat) : Prop := (x = none ∧ l = dflt) ∨ ∃ o kd, x = some o ∧ Evs c E o (.int kd (l : Int))
theorem bnd_none {n : Nat} : bndV c E none n n := .inl ⟨rfl, rfl⟩
theorem bnd_some {o : Operand} {kd : IntKind} {n m : Nat} {z : Int} (h : Evs c E o (.int kd z)) (e : z = (m : Int)) : bndV c E (some o) n m := .inr ⟨o, kd, rfl, e ▸ h⟩
theorem bndV.run {x : Option Operand} {dflt l : Nat} (h : bndV c E x dflt l) {a : Act} (he : EnvOk c.D c.n E a) : (x.map a.eval = none ∧ l = dflt) ∨ ∃ kd, x.map a.eval = some (.int kd (l : Int)) := by
  rcases h with ⟨rfl, rfl⟩ | ⟨o, kd, rfl, h⟩
  · exact .inl ⟨rfl, rfl⟩
  · exact .inr ⟨kd, by simp [h a he]⟩
theorem Rd.ent {L0 : List Atom} {v : Value} {r : Row} (e : Ent L L0) (h : Rd L0 v r) : Rd L v r := ⟨fun W0 w hs => h.rd W0 w (hs.ent e)⟩
theorem Rd.blk {b n : Nat} {cs : List Value} {t e : TypeId} {f : Atom → List Atom} [p : Pick (VK.blk b) L ⟨cs, t⟩ f] (hn : cs.length = n) (hm : n ≤ maxLen) (h1 : ∀ u ∈ cs, u.oneCell' = true) : Rd L (.slice (some ⟨b, 0, none⟩) n n) ⟨e, 1, n, cs⟩ :=
  ⟨fun W0 w hs => ⟨by simpa using hn, h1, _, n, rfl, Nat.le_refl _, hm, .inr ⟨b, 0, rfl, fun j u hj => by rw [Nat.zero_add]; exact blk_cell p hs hj⟩⟩⟩
theorem g_subS {t : TypeId} {x : Operand} {xl xh : Option Operand} {l : List UInt8} [tu : TyU c.P t .string] (hx : Evs c E x (str l)) (lo hi : Nat)
    (hlo : bndV c E xl 0 lo) (hhi : bndV c E xh l.length hi) (h1 : lo ≤ hi) (h2 : hi ≤ l.length) :
    Gives c E L ⟨do_, .slice t x xl xh none, ty, pos, aft, gd⟩ (str ((l.drop lo).take (hi - lo))) := fun a w he _ => by
  have hsz : (ByteArray.mk l.toArray).size = l.length := List.size_toArray ..
  have hex : (ByteArray.mk l.toArray).extract lo hi = ⟨((l.drop lo).take (hi - lo)).toArray⟩ := by
    apply ByteArray.ext
    simp
  rcases hlo.run he with ⟨e1, rfl⟩ | ⟨kd, e1⟩ <;> rcases hhi.run he with ⟨e2, rfl⟩ | ⟨kd', e2⟩ <;>
    simp [execOp, hx a he, str, e1, e2, Instr.sliceAt, Instr.slice, run_underlying tu.h, Instr.sliceBounds, Instr.sliceBound, asIntOf, hsz, hex, h1, h2]
theorem g_b2s {t u e : TypeId} {x : Operand} {v : Value} {r : Row} {l : List UInt8} [tu : TyU c.P t (.slice e)] [te : TyU c.P e (.int .u8)] [uu : TyU c.P u .string] (hx : Evs c E x v) [rd : Rd L v r] (hr : r.xs = bys l) (hs1 : r.sz = 1) :
    Gives c E L ⟨do_, .convert t u x, ty, pos, aft, gd⟩ (str l) := fun a w he hs => by
  obtain ⟨g1, _, ad, cap, rfl, _, _, g5⟩ := rd.rd _ w hs
  have hn : r.n = l.length := by rw [hr, bys_length, hs1] at g1; omega
  have key : (convert t u (.slice ad r.n cap)).run c.P w = .ok (str l) w := by
    rcases g5 with g5 | ⟨b, o, rfl, g5⟩
    · rw [hr] at g5
      have hl : l = [] := by cases l with
        | nil => rfl
        | cons => simp [bys] at g5
      subst hl
      cases ad with
      | none => simp [convert, run_underlying tu.h, run_underlying te.h, run_underlying uu.h, Conv.bytesToString, str]; rfl
      | some ad =>
        rw [hn]
        exact run_convert_bytes_back w t u e ad cap [] tu.h te.h uu.h (fun j hj => by simp at hj)
    · rw [hn]
      refine run_convert_bytes_back w t u e ⟨b, o, none⟩ cap l tu.h te.h uu.h fun j hj => ?_
      rw [add_at]
      exact g5 j _ (by rw [hr]; simp [bys, by8, hj])
  simp [execOp, hx a he, key]
theorem o_s2b {t u e : TypeId} {td : TypeDesc} {x : Operand} {l : List UInt8} [tt : TyU c.P t td] [tu : TyU c.P u (.slice e)] [te : TyU c.P e (.int .u8)] (hx : Evs c E x (str l)) (hl : l.length ≤ 140737488355328) (hd : Nat.blt d c.n = true)
    (hk : ∀ v, Ops c all rest k ((d, .v v) :: E) (sl v ⟨e, 1, l.length, bys l⟩ :: L)) : Ops c all (⟨some d, .convert t u x, ty, pos, aft, none⟩ :: rest) k E L := by
  have hsz : (ByteArray.mk l.toArray).size = l.length := List.size_toArray ..
  refine o_run (fun a w he hs => ?_) hd
  have hcap := grownCap_ge w l.length 0 e
  have hcm : grownCap w l.length 0 e ≤ maxLen := grownCap_le_maxLen w l.length 0 e (by simp only [maxLen]; omega)
  have hr := Lib.run_convert_string_bytes (P := c.P) w t u e ⟨l.toArray⟩ tt.h tu.h te.h
  have hcs : (Lib.bytesCells w e ⟨l.toArray⟩).size = grownCap w l.length 0 e := by simp [Lib.bytesCells, hsz]; omega
  have hn := Lib.bytesWorld_at_new w e ⟨l.toArray⟩
  rw [hsz] at hr
  rw [hcs] at hn
  have hs' := hs.new (w' := Lib.bytesWorld w e ⟨l.toArray⟩) rfl rfl rfl hn (fun b hb => Lib.bytesWorld_at_old w e _ b hb) (A := sl (.slice (some ⟨w.heap.size, 0, none⟩) l.length (grownCap w l.length 0 e)) ⟨e, 1, l.length, bys l⟩) (by
    refine ⟨by simp [bys], bys_one l, .inr ⟨w.heap.size, grownCap w l.length 0 e, Lib.bytesCells w e ⟨l.toArray⟩, (grownCap w l.length 0 e, grownCap w l.length 0 e + 1), rfl, by simp, .inr (by rw [hcs]; exact Nat.le_refl _), hcap, hcm, by rw [hcs]; simp, ?_⟩⟩
    simp [Lib.bytesCells, bys]
    intro b _
    rfl)
  exact ⟨_, _, _, by simp only [execOp, hx a he, str, Sem.run_bind, hr, Result.andThen_ok, Sem.run_pure], hs', hk _⟩
theorem o_call {f : FuncId} {as : Array Operand} {ats : Array TypeId} {vs : List Value} {R : Value → List Atom → Prop} [co : CallOk c.P f] (ha : evs E as.toList = some vs) (L1 : List Atom) (hL : Ent L L1) (hf : Fn c.P f vs L1 R) (hd : Nat.blt d c.n = true)
    (hk : ∀ v L', R v L' → Ops c all rest k ((d, .v v) :: E) L') : Ops c all (⟨some d, .call { callee := .value (.func f), args := as, argTypes := ats }, ty, pos, aft, none⟩ :: rest) k E L := by
  intro a w he hs
  have hargs : as.map a.eval = vs.toArray := by
    have := he.evs ha
    apply Array.toList_inj.1
    simpa using this
  have hr : (execOp a.eval ⟨some d, .call { callee := .value (.func f), args := as, argTypes := ats }, ty, pos, aft, none⟩).run c.P w = .ok (.enter f vs.toArray) w := by
    rw [execOp_call_go, hargs, co.h]
    simp
  refine m_enter rfl hr (hf c.W0 w (hs.ent hL)) ?_
  rintro e w' ⟨v, L', he', hR, hS⟩
  exact ⟨v, he', hk v L' hR _ w' (he.put d (.v v) hd) hS⟩
theorem o_callV {f : FuncId} {x : Operand} {fs cs : Array Value} {as : Array Operand} {ats : Array TypeId} {vs : List Value} {R : Value → List Atom → Prop} [co : CallOk c.P f] (hx : ev E x = some (.func (.func f) fs cs)) (ha : evs E as.toList = some vs) (L1 : List Atom) (hL : Ent L L1) (hf : Fn c.P f (fs.toList ++ vs ++ cs.toList) L1 R) (hd : Nat.blt d c.n = true)
    (hk : ∀ v L', R v L' → Ops c all rest k ((d, .v v) :: E) L') : Ops c all (⟨some d, .call { callee := .value x, args := as, argTypes := ats }, ty, pos, aft, none⟩ :: rest) k E L := by
  intro a w he hs
  have hargs : as.map a.eval = vs.toArray := by
    have := he.evs ha
    apply Array.toList_inj.1
    simpa using this
  have hx' := he.ev hx
  have hargs2 : fs ++ vs.toArray ++ cs = (fs.toList ++ vs ++ cs.toList).toArray := by
    apply Array.toList_inj.1
    simp
  have hr : (execOp a.eval ⟨some d, .call { callee := .value x, args := as, argTypes := ats }, ty, pos, aft, none⟩).run c.P w = .ok (.enter f (fs.toList ++ vs ++ cs.toList).toArray) w := by
    simp only [execOp, resolve, hx', hargs, Deferred.ofValue, invoke, Sem.run_bind, Sem.run_pure, Result.andThen_ok, hargs2, co.h]
  refine m_enter rfl hr (hf c.W0 w (hs.ent hL)) ?_
  rintro e w' ⟨v, L', he', hR, hS⟩
  exact ⟨v, he', hk v L' hR _ w' (he.put d (.v v) hd) hS⟩
theorem g_func {f : FuncId} {first captured : Array Operand} {fs cs : List Value} (hf : evs E first.toList = some fs) (hc : evs E captured.toList = some cs) :
    Gives c E L ⟨do_, .makeFunc (.func f) first captured, ty, pos, aft, gd⟩ (.func (.func f) fs.toArray cs.toArray) := fun a w he _ => by
  have h1 : first.map a.eval = fs.toArray := by
    have := he.evs hf
    apply Array.toList_inj.1
    simpa using this
  have h2 : captured.map a.eval = cs.toArray := by
    have := he.evs hc
    apply Array.toList_inj.1
    simpa using this
  simp [execOp, h1, h2, Instr.makeFunc]
end
end VK
/- Own framework, part 6: slices whose elements are known by an encoding. No conditions. -/
namespace VK
open Go
def mrow {α : Type} (f : α → Value) (e : TypeId) (l : List α) : Row := ⟨e, 1, l.length, l.map f⟩
def frow {α : Type} (f : α → List Value) (sz : Nat) (e : TypeId) (l : List α) : Row := ⟨e, sz, l.length, l.flatMap f⟩
theorem flatMap_drop {α : Type} {f : α → List Value} {sz : Nat} (hf : ∀ a, (f a).length = sz) : ∀ (l : List α) (k : Nat), (l.flatMap f).drop (k * sz) = (l.drop k).flatMap f
  | l, 0 => by simp
  | [], k + 1 => by simp
  | a :: l, k + 1 => by
    simp only [List.flatMap_cons, List.drop_succ_cons, Nat.add_mul, Nat.one_mul]
    rw [Nat.add_comm, ← List.drop_drop, ← hf a, List.drop_left, hf a]
    exact flatMap_drop hf l k
theorem flatMap_length {α : Type} {f : α → List Value} {sz : Nat} (hf : ∀ a, (f a).length = sz) (l : List α) : (l.flatMap f).length = l.length * sz := by
  induction l with
  | nil => simp
  | cons a l ih => simp [hf, ih, Nat.add_mul]; omega
theorem flatMap_take {α : Type} {f : α → List Value} {sz : Nat} (hf : ∀ a, (f a).length = sz) : ∀ (l : List α) (k : Nat), (l.flatMap f).take (k * sz) = (l.take k).flatMap f
  | l, 0 => by simp
  | [], k + 1 => by simp
  | a :: l, k + 1 => by
    simp only [List.flatMap_cons, List.take_succ_cons, Nat.add_mul, Nat.one_mul]
    rw [Nat.add_comm, ← hf a, List.take_length_add_append, hf a, flatMap_take hf l k]
theorem flatMap_at {α : Type} [Inhabited α] {f : α → List Value} {sz : Nat} (hf : ∀ a, (f a).length = sz) {l : List α} {k : Nat} (hk : k < l.length) (q : Nat) (u : Value) (hu : (f (l.getD k default))[q]? = some u) : (l.flatMap f)[k * sz + q]? = some u := by
  have h1 : (l.flatMap f)[k * sz + q]? = ((l.flatMap f).drop (k * sz))[q]? := by rw [List.getElem?_drop]
  rw [h1, flatMap_drop hf, List.drop_eq_getElem_cons hk, List.flatMap_cons]
  have h2 : l.getD k default = l[k] := by simp [hk]
  rw [h2] at hu
  rw [List.getElem?_append_left (List.getElem?_eq_some_iff.1 hu).1]
  exact hu
section
variable {c : Cx} {k : List KI} {E : Env} {L : List Atom} {all rest : List Oper} {d : Nat} {do_ : Option Nat} {ty : TypeId} {pos : String} {aft : Array Edge} {gd : Option (Nat × Bool)}
theorem Rd.as {v : Value} {r r' : Row} (h : Rd L v r) (e : r = r') : Rd L v r' := e ▸ h
theorem g_idxM {α : Type} {f : α → Value} {t e e' : TypeId} {i : TI} {x y : Operand} {v : Value} {kd : IntKind} {n : Int} {l : List α} [tu : TyU c.P t (.slice e)] [ti : TyI c.P e i] (hx : Evs c E x v) (hy : Evs c E y (.int kd n)) [rd : Rd L v (mrow f e' l)]
    (hsz : i.size = 1) (h0 : 0 ≤ n) (h1 : n < (l.length : Int)) : Gives c E L ⟨do_, .indexAddr t x y, ty, pos, aft, gd⟩ (elemP v n.toNat) := by
  have := g_idx (L := L) (do_ := do_) (ty := ty) (pos := pos) (aft := aft) (gd := gd) (t := t) (r := mrow f e' l) hx hy hsz (by simp [mrow]) h0 h1
  simpa [mrow] using this
theorem g_idxF {α : Type} {f : α → List Value} {sz : Nat} {t e e' : TypeId} {i : TI} {x y : Operand} {v : Value} {kd : IntKind} {n : Int} {l : List α} [tu : TyU c.P t (.slice e)] [ti : TyI c.P e i] (hx : Evs c E x v) (hy : Evs c E y (.int kd n)) [rd : Rd L v (frow f sz e' l)]
    (hsz : i.size = sz) (hp : Nat.blt 0 sz = true) (h0 : 0 ≤ n) (h1 : n < (l.length : Int)) : Gives c E L ⟨do_, .indexAddr t x y, ty, pos, aft, gd⟩ (elemP v (n.toNat * sz)) :=
  g_idx (t := t) (r := frow f sz e' l) hx hy hsz (by simpa [frow] using hp) h0 h1
theorem g_loadM {α : Type} [Inhabited α] {f : α → Value} {t e' : TypeId} {ud : TypeDesc} {x : Operand} {v : Value} {j : Nat} {l : List α} [tu : TyU c.P t ud] (hx : Evs c E x (elemP v j)) [rd : Rd L v (mrow f e' l)]
    (hu : isAggD ud = false) (hj : j < l.length) : Gives c E L ⟨do_, .load t x, ty, pos, aft, gd⟩ (f (l.getD j default)) :=
  g_loadE hx hu (by simp [mrow, hj])
theorem g_loadFr {α : Type} [Inhabited α] {f : α → List Value} {sz : Nat} {t e' : TypeId} {ud : TypeDesc} {i : TI} {x : Operand} {v : Value} {j : Nat} {l : List α} [tu : TyU c.P t ud] [ti : TyI c.P t i] (hx : Evs c E x (elemP v (j * sz))) [rd : Rd L v (frow f sz e' l)]
    (hu : isAggD ud = true) (hf : ∀ a, (f a).length = sz) (hn : sz = i.size) (hp : Nat.blt 0 sz = true) (hj : j < l.length) : Gives c E L ⟨do_, .load t x, ty, pos, aft, gd⟩ (agg (f (l.getD j default))) :=
  g_loadEA (i := i) hx hu (by rw [hf, hn]) (fun h => by have := hf (l.getD j default); rw [h] at this; simp at this; subst this; simp at hp) (fun q u hq => flatMap_at hf hj q u hq)
theorem o_appM {α : Type} {f : α → Value} {t u e e' e2 : TypeId} {i : TI} {x y : Operand} {v vy : Value} {l m : List α} {g : Atom → List Atom} [tu : TyU c.P t (.slice e)] [uu : TyU c.P u (.slice e')] [ti : TyI c.P e i]
    (hx : Evs c E x v) (hy : Evs c E y vy) [p : Pick (sl v) L (mrow f e l) g] [rd : Rd L vy (mrow f e2 m)] (hsz : i.size = 1) (hzs : (cellsL i.zero).length = i.size) (hb0 : Nat.blt 0 i.bytes = true)
    (hb : (l.length + m.length) * i.bytes ≤ 140737488355328) (hd : Nat.blt d c.n = true)
    (hk : ∀ v', Ops c all rest k ((d, .v v') :: E) (g (sl v' (mrow f e (l ++ m))))) :
    Ops c all (⟨some d, .call { callee := .builtin .append, args := #[x, y], argTypes := #[t, u] }, ty, pos, aft, none⟩ :: rest) k E L := by
  refine o_app (e := e) (ti := ti) (r := mrow f e l) (ry := mrow f e2 m) hx hy rfl hsz rfl hzs (by simpa using hb0) hb hd fun v' => ?_
  have : (⟨e, (mrow f e l).sz, (mrow f e l).n + (mrow f e2 m).n, (mrow f e l).xs ++ (mrow f e2 m).xs⟩ : Row) = mrow f e (l ++ m) := by simp [mrow]
  rw [this]
  exact hk v'
theorem o_appF {α : Type} {f : α → List Value} {sz : Nat} {t u e e' e2 : TypeId} {i : TI} {x y : Operand} {v vy : Value} {l m : List α} {g : Atom → List Atom} [tu : TyU c.P t (.slice e)] [uu : TyU c.P u (.slice e')] [ti : TyI c.P e i]
    (hx : Evs c E x v) (hy : Evs c E y vy) [p : Pick (sl v) L (frow f sz e l) g] [rd : Rd L vy (frow f sz e2 m)] (hsz : i.size = sz) (hzs : (cellsL i.zero).length = i.size) (hb0 : Nat.blt 0 i.bytes = true)
    (hb : (l.length + m.length) * i.bytes ≤ 140737488355328) (hd : Nat.blt d c.n = true)
    (hk : ∀ v', Ops c all rest k ((d, .v v') :: E) (g (sl v' (frow f sz e (l ++ m))))) :
    Ops c all (⟨some d, .call { callee := .builtin .append, args := #[x, y], argTypes := #[t, u] }, ty, pos, aft, none⟩ :: rest) k E L := by
  refine o_app (e := e) (ti := ti) (r := frow f sz e l) (ry := frow f sz e2 m) hx hy rfl hsz rfl hzs (by simpa using hb0) hb hd fun v' => ?_
  have : (⟨e, (frow f sz e l).sz, (frow f sz e l).n + (frow f sz e2 m).n, (frow f sz e l).xs ++ (frow f sz e2 m).xs⟩ : Row) = frow f sz e (l ++ m) := by simp [frow]
  rw [this]
  exact hk v'
theorem o_appSM {t u e : TypeId} {i : TI} {x y : Operand} {v : Value} {l m : List UInt8} {g : Atom → List Atom} [tu : TyU c.P t (.slice e)] [uu : TyU c.P u .string] [ti : TyI c.P e i]
    (hx : Evs c E x v) (hy : Evs c E y (str m)) [p : Pick (sl v) L (mrow by8 e l) g] (hsz : i.size = 1) (hzs : (cellsL i.zero).length = i.size) (hb1 : i.bytes = 1)
    (hb : l.length + m.length ≤ 140737488355328) (hd : Nat.blt d c.n = true)
    (hk : ∀ v', Ops c all rest k ((d, .v v') :: E) (g (sl v' (mrow by8 e (l ++ m))))) :
    Ops c all (⟨some d, .call { callee := .builtin .append, args := #[x, y], argTypes := #[t, u] }, ty, pos, aft, none⟩ :: rest) k E L := by
  refine o_appS (e := e) (ti := ti) (r := mrow by8 e l) hx hy rfl hsz rfl hzs (by omega) (by rw [hb1]; simpa [mrow] using hb) hd fun v' => ?_
  have : (⟨e, (mrow by8 e l).sz, (mrow by8 e l).n + m.length, (mrow by8 e l).xs ++ bys m⟩ : Row) = mrow by8 e (l ++ m) := by simp [mrow, bys]
  rw [this]
  exact hk v'
theorem by8_of {z : Int} (h0 : 0 ≤ z) (h1 : z ≤ 255) : by8 (UInt8.ofNat z.toNat) = .int .u8 z := by
  have : (UInt8.ofNat z.toNat).toNat = z.toNat := by simp; omega
  simp only [by8, this]
  rw [Int.toNat_of_nonneg h0]
theorem o_litB {t e : TypeId} {i : TI} {x : Operand} {z : Int} [tu : TyU c.P t (.slice e)] [ti : TyI c.P e i] (hx : ev E x = some (.int .u8 z)) (hsz : i.size = 1) (h0 : 0 ≤ z) (h1 : z ≤ 255) (hd : Nat.blt d c.n = true)
    (hk : ∀ v, Ops c all rest k ((d, .v v) :: E) (sl v (mrow by8 e [UInt8.ofNat z.toNat]) :: L)) : Ops c all (⟨some d, .buildSlice t 1 #[(0, x)], ty, pos, aft, none⟩ :: rest) k E L := by
  refine o_lit (i := i) (vs := [.int .u8 z]) (xs := [.int .u8 z]) rfl (by simp [evs, hx]) (by rw [hsz]; rfl) (by intro _ _ _ u hu; simp at hu; subst hu; rfl) (by rw [hsz]; rfl) rfl hd fun v => ?_
  have : (⟨e, i.size, 1, [Value.int .u8 z]⟩ : Row) = mrow by8 e [UInt8.ofNat z.toNat] := by rw [hsz]; simp only [mrow, List.map_cons, List.map_nil, by8_of h0 h1]; rfl
  rw [this]
  exact hk v
theorem o_lit0 {α : Type} (f : α → Value) {t e : TypeId} {i : TI} [tu : TyU c.P t (.slice e)] [ti : TyI c.P e i] (hsz : i.size = 1) (hd : Nat.blt d c.n = true)
    (hk : ∀ v, Ops c all rest k ((d, .v v) :: E) (sl v (mrow f e []) :: L)) : Ops c all (⟨some d, .buildSlice t 0 #[], ty, pos, aft, none⟩ :: rest) k E L := by
  refine o_lit (i := i) (vs := []) (xs := []) rfl rfl rfl (by intro _ _ _ u hu; simp at hu) (by simp) rfl hd fun v => ?_
  have : (⟨e, i.size, 0, []⟩ : Row) = mrow f e [] := by rw [hsz]; rfl
  rw [this]
  exact hk v
theorem o_nilM {α : Type} (f : α → Value) {ops : List Oper} (e : TypeId) (h : Ops c all ops k E (sl (.slice none 0 0) (mrow f e []) :: L)) : Ops c all ops k E L := o_nilsl e 1 h
theorem Ent.nilM {α : Type} (f : α → Value) (e : TypeId) : Ent L (sl (.slice none 0 0) (mrow f e []) :: L) := Ent.nilsl e 1
theorem Rd.nilM {α : Type} (f : α → Value) (e : TypeId) : Rd L (.slice none 0 0) (mrow f e []) := Rd.nil L e 1
theorem Rd.nilF {α : Type} (f : α → List Value) (sz : Nat) (e : TypeId) : Rd L (.slice none 0 0) (frow f sz e []) := Rd.nil L e sz
theorem g_lenM {α : Type} {f : α → Value} {t e e' : TypeId} {x : Operand} {v : Value} {l : List α} [tu : TyU c.P t (.slice e)] (hx : Evs c E x v) [rd : Rd L v (mrow f e' l)] :
    Gives c E L ⟨do_, .call { callee := .builtin .len, args := #[x], argTypes := #[t] }, ty, pos, aft, gd⟩ (.int .i64 l.length) := g_lenR (r := mrow f e' l) hx
theorem g_lenF {α : Type} {f : α → List Value} {sz : Nat} {t e e' : TypeId} {x : Operand} {v : Value} {l : List α} [tu : TyU c.P t (.slice e)] (hx : Evs c E x v) [rd : Rd L v (frow f sz e' l)] :
    Gives c E L ⟨do_, .call { callee := .builtin .len, args := #[x], argTypes := #[t] }, ty, pos, aft, gd⟩ (.int .i64 l.length) := g_lenR (r := frow f sz e' l) hx
theorem g_b2sM {t u e e' : TypeId} {x : Operand} {v : Value} {l : List UInt8} [tu : TyU c.P t (.slice e)] [te : TyU c.P e (.int .u8)] [uu : TyU c.P u .string] (hx : Evs c E x v) [rd : Rd L v (mrow by8 e' l)] :
    Gives c E L ⟨do_, .convert t u x, ty, pos, aft, gd⟩ (str l) := g_b2s (r := mrow by8 e' l) hx rfl rfl
theorem o_boxA {t : TypeId} {x : Operand} {vs : List Value} (hx : Evs c E x (agg vs)) (hd : Nat.blt d c.n = true)
    (hk : ∀ b, Ops c all rest k ((d, .v (.pointer (some ⟨b, 0, none⟩))) :: E) (blk b ⟨vs, t⟩ :: L)) : Ops c all (⟨some d, .box t x, ty, pos, aft, none⟩ :: rest) k E L := o_box hx rfl hd hk
theorem g_quoP {t t' : TypeId} {x y : Operand} {kd : IntKind} {m n : Int} (hx : Evs c E x (.int kd m)) (hy : Evs c E y (.int kd n)) (h0 : 0 ≤ m) (h1 : 0 < n) :
    Gives c E L ⟨do_, .binOp .quo t x y t', ty, pos, aft, gd⟩ (.int kd (kd.wrap (m / n))) :=
  (g_div hx hy (v := .int kd (kd.wrap (m.tdiv n))) rfl (by omega)).as (by rw [Int.tdiv_eq_ediv_of_nonneg h0])
theorem g_remP {t t' : TypeId} {x y : Operand} {kd : IntKind} {m n : Int} (hx : Evs c E x (.int kd m)) (hy : Evs c E y (.int kd n)) (h0 : 0 ≤ m) (h1 : 0 < n) :
    Gives c E L ⟨do_, .binOp .rem t x y t', ty, pos, aft, gd⟩ (.int kd (m % n)) :=
  (g_div hx hy (v := .int kd (m.tmod n)) rfl (by omega)).as (by rw [Int.tmod_eq_emod_of_nonneg h0])
theorem Rd.blkM {α : Type} {f : α → Value} {b n : Nat} {l : List α} {t : TypeId} {g : Atom → List Atom} [p : Pick (VK.blk b) L ⟨l.map f, t⟩ g] (e : TypeId) (hn : l.length = n) (hm : n ≤ maxLen) (h1 : ∀ a, (f a).oneCell' = true) : Rd L (.slice (some ⟨b, 0, none⟩) n n) (mrow f e l) := by
  subst hn
  exact (Rd.blk (e := e) (p := p) (by simp) hm (by intro u hu; simp at hu; obtain ⟨a, _, rfl⟩ := hu; exact h1 a)).as (by simp [mrow])
theorem g_shlC {t t' : TypeId} {x y : Operand} {kd kd' : IntKind} {m n : Int} (p : Int) (hx : Evs c E x (.int kd m)) (hy : Evs c E y (.int kd' n)) (h0 : decide (0 ≤ n) = true) (hp : (2 : Int) ^ min n.toNat kd.bits = p) :
    Gives c E L ⟨do_, .binOp .shl t x y t', ty, pos, aft, gd⟩ (.int kd (kd.wrap (m * p))) := by
  subst hp
  exact g_shift hx hy rfl (of_decide_eq_true h0)
theorem g_shrC {t t' : TypeId} {x y : Operand} {kd kd' : IntKind} {m n : Int} (p : Int) (hx : Evs c E x (.int kd m)) (hy : Evs c E y (.int kd' n)) (h0 : decide (0 ≤ n) = true) (hp : (2 : Int) ^ min n.toNat kd.bits = p) :
    Gives c E L ⟨do_, .binOp .shr t x y t', ty, pos, aft, gd⟩ (.int kd (m / p)) := by
  have h2 : (0 : Int) ≤ 2 ^ min n.toNat kd.bits := Int.pow_nonneg (by omega)
  refine (g_shift hx hy rfl (of_decide_eq_true h0)).as ?_
  rw [Int.fdiv_eq_ediv_of_nonneg _ h2, hp]
theorem r_exA {α : Type} {X : α → List Atom} {x : Code} (h : ∀ x', Run c x k E (X x' ++ L)) : Run c x k E (exA X :: L) := fun a w he hs => by
  obtain ⟨x', hx⟩ := star_exA.1 hs.heap
  exact h x' a w he ⟨hs.os, hs.tape, hs.output, hx⟩
theorem r_ent {x : Code} (L' : List Atom) (e : Ent L L') (h : Run c x k E L') : Run c x k E L := fun a w he hs => h a w he (hs.ent e)
theorem g_idxA {t e : TypeId} {m : Nat} {i : TI} {x y : Operand} {b o : Nat} {kd : IntKind} {n : Int} [tu : TyU c.P t (.array m e)] [ti : TyI c.P e i] (hx : Evs c E x (.pointer (some ⟨b, o, none⟩))) (hy : Evs c E y (.int kd n))
    (h0 : 0 ≤ n) (h1 : n < (m : Int)) : Gives c E L ⟨do_, .indexAddr t x y, ty, pos, aft, gd⟩ (.pointer (some ⟨b, o + n.toNat * i.size, none⟩)) := fun a w he hs => by
  simp [execOp, hx a he, hy a he, Instr.indexAt, asIntOf, run_underlying tu.h, Instr.sureAddr, h0, h1, run_sizeOfI ti, add_at]
class TyP (P : Program) (t : TypeId) (pl : outParam (List (Nat × Nat))) : Prop where
  h : ∃ fs, P.underlying t = some (.struct fs) ∧ ∀ w, (fs.mapM (m := Sem) fun f => do pure (f.offset, ← Go.sizeOf f.type)).run P w = .ok pl.toArray w
def buildF (pl : List (Nat × Nat)) : List Value → List (Nat × Value) → Option (List Value)
  | z, [] => some z
  | z, (i, v) :: r => match pl[i]? with
    | some (o, n) => match rngF n (cellsL v) with
      | some vs => match Nat.beq (cellsL v).length n, Nat.ble o z.length, setF z o vs with
        | true, true, some z' => buildF pl z' r
        | _, _, _ => none
      | none => none
    | none => none
theorem fill_buildF {pl : List (Nat × Nat)} : ∀ {ps : List (Nat × Value)} {z cs : List Value}, buildF pl z ps = some cs → Instr.fill (pl.toArray[·]?) z.toArray ps = some cs.toArray
  | [], z, cs, h => by simp [buildF] at h; subst h; rfl
  | (i, v) :: r, z, cs, h => by
    simp only [buildF] at h
    split at h
    · rename_i o n ho
      split at h
      · rename_i vs hv
        split at h
        · rename_i z' h1 h2 h3
          obtain ⟨hvs, hn⟩ := rngF_spec hv
          have hn' : (cellsL v).length = n := Nat.eq_of_beq_eq_true h1
          rw [List.take_of_length_le (by omega)] at hvs
          subst hvs
          have hset := setsTo_F h3 (by simpa using h2)
          have hsz : v.cells.size = n := by rw [← hn']; simp [cellsL]
          have hfit := hset.1
          simp only [Instr.fill]
          have ho' : (pl.toArray)[i]? = some (o, n) := by simpa using ho
          rw [ho']
          simp only
          rw [if_neg (by simp [hsz]; rw [hn'] at hfit; omega), fill_one _ _ _ (by rw [hsz]; simp; rw [hn'] at hfit; exact hfit)]
          have : ((z.toArray).toList.take o ++ cellsL v ++ (z.toArray).toList.drop (o + (cellsL v).length)).toArray = z'.toArray := by rw [hset.2]
          rw [this]
          exact fill_buildF h
        · cases h
      · cases h
    · cases h
theorem g_build {t : TypeId} {i : TI} {pl : List (Nat × Nat)} {parts : Array (Nat × Operand)} {vs cs : List Value} [tp : TyP c.P t pl] [ti : TyI c.P t i] (hx : evs E (parts.toList.map (·.2)) = some vs)
    (hb : buildF pl (cellsL i.zero) ((parts.toList.map (·.1)).zip vs) = some cs) : Gives c E L ⟨do_, .build t parts, ty, pos, aft, gd⟩ (agg cs) := fun a w he hs => by
  obtain ⟨fs, h1, h2⟩ := tp.h
  have hev := he.evs hx
  have hparts : (parts.map fun x : Nat × Operand => (x.1, a.eval x.2)).toList = (parts.toList.map (·.1)).zip vs := by
    rw [← hev]
    simp [List.zip_map, List.map_map]
    generalize parts.toList = l
    induction l with
    | nil => rfl
    | cons x l ih => simp [ih]
  have hf := fill_buildF hb
  rw [← hparts] at hf
  have hz : (cellsL i.zero).toArray = i.zero.cells := by simp [cellsL]
  rw [hz] at hf
  simp only [execOp, Instr.build, Sem.run_bind, run_zeroI ti, Result.andThen_ok, run_underlying h1, h2]
  rw [hf]
  simp [agg]
theorem o_s2bM {t u e : TypeId} {td : TypeDesc} {x : Operand} {l : List UInt8} [tt : TyU c.P t td] [tu : TyU c.P u (.slice e)] [te : TyU c.P e (.int .u8)] (hx : Evs c E x (str l)) (hl : l.length ≤ 140737488355328) (hd : Nat.blt d c.n = true)
    (hk : ∀ v, Ops c all rest k ((d, .v v) :: E) (sl v (mrow by8 e l) :: L)) : Ops c all (⟨some d, .convert t u x, ty, pos, aft, none⟩ :: rest) k E L := o_s2b hx hl hd hk
end
end VK
/- Own framework, part 7: results in cells, copy, marks. No conditions. -/
namespace VK
open Go
section
variable {c : Cx} {k : List KI} {E : Env} {L : List Atom} {all rest : List Oper} {d : Nat} {do_ : Option Nat} {ty : TypeId} {pos : String} {aft : Array Edge} {gd : Option (Nat × Bool)}
def resG (a : Act) : ResultVar → Sem Value
  | .tmp t => pure (a.tmps.getD t undef)
  | .cell b t => do loadVar t (← asAddr (a.tmps.getD b undef))
def ResOk (c : Cx) (E : Env) (L : List Atom) (rs : List ResultVar) (vs : List Value) : Prop :=
  ∀ a w, EnvOk c.D c.n E a → St c.W0 L w → ∀ acc, (List.mapM.loop (m := Sem) (resG a) rs acc).run c.P w = .ok (acc.reverse ++ vs) w
theorem ro_nil : ResOk c E L [] [] := fun a w _ _ acc => by simp [List.mapM.loop]
theorem ro_tmp {t : Nat} {v : Value} {rs : List ResultVar} {vs : List Value} (hv : lk E t = some (.v v)) (h : ResOk c E L rs vs) : ResOk c E L (.tmp t :: rs) (v :: vs) := fun a w he hs acc => by
  simp only [List.mapM.loop, resG, he.lk hv, Sem.run_bind, Sem.run_pure, Result.andThen_ok]
  rw [h a w he hs (v :: acc)]; simp
theorem ro_agg {b t bb : Nat} {ud : TypeDesc} {i : TI} {cs : List Value} {bt : Nat} {f : Atom → List Atom} {rs : List ResultVar} {vs : List Value} [tu : TyU c.P t ud] [ti : TyI c.P t i]
    (hv : lk E b = some (.v (.pointer (some ⟨bb, 0, none⟩)))) [p : Pick (blk bb) L ⟨cs, bt⟩ f] (hu : isAggD ud = true) (hn : cs.length = i.size) (h : ResOk c E L rs vs) : ResOk c E L (.cell b t :: rs) (agg cs :: vs) := fun a w he hs acc => by
  have hc := run_loadCells_at (P := c.P) (w := w) (b := bb) (o := 0) (cs := cs) fun j u hj => blk_cell p hs (by rw [Nat.zero_add]; exact hj)
  rw [hn] at hc
  simp only [List.mapM.loop, resG, he.lk hv, asAddr, loadVar, Sem.run_bind, Sem.run_ite, run_isAggU tu, hu, Sem.run_pure, Result.andThen_ok, if_true, run_sizeOfI ti, hc]
  rw [h a w he hs (_ :: acc)]; simp [agg]
theorem ro_cell {b t bb : Nat} {ud : TypeDesc} {v : Value} {cs : List Value} {bt : Nat} {f : Atom → List Atom} {rs : List ResultVar} {vs : List Value} [tu : TyU c.P t ud]
    (hv : lk E b = some (.v (.pointer (some ⟨bb, 0, none⟩)))) [p : Pick (blk bb) L ⟨cs, bt⟩ f] (hu : isAggD ud = false) (h0 : cs[0]? = some v) (h : ResOk c E L rs vs) : ResOk c E L (.cell b t :: rs) (v :: vs) := fun a w he hs acc => by
  have hc := blk_cell p hs h0
  simp only [List.mapM.loop, resG, he.lk hv, asAddr, loadVar, Sem.run_bind, Sem.run_ite, run_isAggU tu, hu, Sem.run_pure, Result.andThen_ok, Bool.false_eq_true, if_false]
  have : (Go.load ⟨bb, 0, none⟩).run c.P w = .ok v w := by simp [hc]
  rw [this]
  simp only [Result.andThen_ok]
  rw [h a w he hs (_ :: acc)]; simp
theorem resOk_run {rs : List ResultVar} {vs : List Value} {a : Act} {w : World} (hr : c.fn.results = rs.toArray) (h : ResOk c E L rs vs) (he : EnvOk c.D c.n E a) (hs : St c.W0 L w) : (results c.fn a.tmps).run c.P w = .ok (tupV vs) w := by
  have hg : ∀ (g : ResultVar → Sem Value) (rs : List ResultVar) (acc : List Value), (∀ x, g x = resG a x) → List.mapM.loop (m := Sem) g rs acc = List.mapM.loop (m := Sem) (resG a) rs acc := fun g rs acc hh => by
    rw [show g = resG a from funext hh]
  unfold results
  rw [hr]
  simp only [List.mapM_toArray, List.mapM, Sem.run_bind, Sem.run_map]
  rw [hg]
  · rw [h a w he hs []]
    simp only [Result.andThen_ok, List.reverse_nil, List.nil_append]
    cases vs with
    | nil => simp [tupV]
    | cons v vs => cases vs <;> simp [tupV]
  · intro x
    cases x <;> rfl
theorem r_retC {rs : List ResultVar} {vs : List Value} (hr : c.fn.results = rs.toArray) (hv : ResOk c E L rs vs) (L' : List Atom) (hL : Ent L L') (h : c.R (tupV vs) L') (hD : c.D = [] := by rfl) (hQ : c.Qo = none := by rfl) : Run c .ret k E L := fun _ _ he hs =>
  m_ret (kq_ret (endQ_ret hQ (.inl ⟨he.defers.trans hD, tupV vs, resOk_run hr hv he hs, tupV vs, L', rfl, h, hs.ent hL⟩)))
theorem c_endC {rs : List ResultVar} {vs : List Value} (hr : c.fn.results = rs.toArray) (hv : ResOk c E L rs vs) (L' : List Atom) (hL : Ent L L') (h : c.R (tupV vs) L') (hD : c.D = [] := by rfl) (hQ : c.Qo = none := by rfl) : Cont c [] E L := fun _ _ he hs =>
  endQ_end hQ (.inl ⟨he.defers.trans hD, tupV vs, resOk_run hr hv he hs, tupV vs, L', rfl, h, hs.ent hL⟩)
theorem run_firstCells_rd {P : Program} {w : World} {v : Value} {r : Row} (h : RdW w v r) {m : Nat} (hm : m ≤ r.n) : (Builtin.firstCells r.sz m v).run P w = .ok (r.xs.take (m * r.sz)).toArray w := by
  obtain ⟨h1, h2, a, cap, rfl, _, _, h3⟩ := h
  have hl : (r.xs.take (m * r.sz)).length = m * r.sz := by rw [List.length_take, h1]; exact Nat.min_eq_left (Nat.mul_le_mul_right _ hm)
  rcases h3 with hx | ⟨b, o, rfl, hc⟩
  · rw [hx] at hl ⊢
    simp at hl
    cases a with
    | none => simp [Builtin.firstCells]
    | some ad =>
      simp only [Builtin.firstCells]
      rw [← hl]
      simp [loadCells, loadCellsFrom]
  · simp only [Builtin.firstCells]
    have := run_loadCells_at (P := P) (w := w) (b := b) (o := o) (cs := r.xs.take (m * r.sz)) fun j u hj => by
      rw [List.getElem?_take] at hj
      split at hj
      · exact hc j u hj
      · cases hj
    rw [hl] at this
    exact this
def bsOf : List Value → List UInt8
  | [] => []
  | .int _ z :: r => UInt8.ofNat z.toNat :: bsOf r
  | _ :: r => bsOf r
def okB : List Value → Prop
  | [] => True
  | .int .u8 z :: r => (0 ≤ z ∧ z ≤ 255) ∧ okB r
  | _ :: _ => False
theorem bsOf_spec : ∀ {vs : List Value}, okB vs → catF 1 vs = some ((bsOf vs).map by8) ∧ (bsOf vs).length = vs.length
  | [], _ => ⟨rfl, rfl⟩
  | .int .u8 z :: r, h => by
    obtain ⟨h1, h2⟩ := bsOf_spec h.2
    refine ⟨?_, by simp [bsOf, h2]⟩
    have : catF 1 (.int .u8 z :: r) = some (.int .u8 z :: (bsOf r).map by8) := by
      simp [catF, cellsL, Value.cells, rngF, h1]
    rw [this]
    simp [bsOf, by8_of h.1.1 h.1.2]
theorem o_litBs {t e : TypeId} {i : TI} {n : Nat} {parts : Array (Nat × Operand)} {vs : List Value} [tu : TyU c.P t (.slice e)] [ti : TyI c.P e i]
    (hi : parts.toList.map (·.1) = List.range n) (hx : evs E (parts.toList.map (·.2)) = some vs) (hv : okB vs) (hl : vs.length = n) (hsz : i.size = 1) (hn' : Nat.ble n 65536 = true) (hd : Nat.blt d c.n = true)
    (hk : ∀ v, Ops c all rest k ((d, .v v) :: E) (sl v (mrow by8 e (bsOf vs)) :: L)) : Ops c all (⟨some d, .buildSlice t n parts, ty, pos, aft, none⟩ :: rest) k E L := by
  obtain ⟨h1, h2⟩ := bsOf_spec hv
  refine o_lit (i := i) (xs := (bsOf vs).map by8) hi hx (by rw [hsz]; exact h1) (by intro _ _ _ u hu; simp at hu; obtain ⟨a, _, rfl⟩ := hu; rfl) (by rw [hsz, Nat.mul_one]; exact hn') hn' hd fun v => ?_
  have : (⟨e, i.size, n, (bsOf vs).map by8⟩ : Row) = mrow by8 e (bsOf vs) := by rw [hsz, ← hl, ← h2]; rfl
  rw [this]
  exact hk v
class AllOne (L : List Atom) (vs : List Value) : Prop where
  h : ∀ W0 w, St W0 L w → ∀ u ∈ vs, u.oneCell' = true
instance AllOne.nil (L : List Atom) : AllOne L [] := ⟨fun _ _ _ u hu => by cases hu⟩
instance AllOne.cons (L : List Atom) (v : Value) (vs : List Value) [h : OneC L v] [h' : AllOne L vs] : AllOne L (v :: vs) := ⟨fun W0 w hs u hu => by
  rcases List.mem_cons.1 hu with rfl | hu
  · exact h.h W0 w hs
  · exact h'.h W0 w hs u hu⟩
theorem o_litV {t e : TypeId} {i : TI} {n : Nat} {parts : Array (Nat × Operand)} {vs : List Value} [tu : TyU c.P t (.slice e)] [ti : TyI c.P e i]
    (hi : parts.toList.map (·.1) = List.range n) (hx : evs E (parts.toList.map (·.2)) = some vs) [ao : AllOne L vs] (hl : vs.length = n) (hsz : i.size = 1) (hn' : Nat.ble n 65536 = true) (hd : Nat.blt d c.n = true)
    (hk : ∀ v, Ops c all rest k ((d, .v v) :: E) (sl v (mrow id e vs) :: L)) : Ops c all (⟨some d, .buildSlice t n parts, ty, pos, aft, none⟩ :: rest) k E L := by
  intro a w he hs
  have h1 := ao.h _ w hs
  have hc : catF 1 vs = some vs := by
    have key : ∀ vs : List Value, (∀ u ∈ vs, u.oneCell' = true) → catF 1 vs = some vs := by
      intro vs
      induction vs with
      | nil => intro _; rfl
      | cons v vs ih =>
        intro h
        have hv := cells_of_one (h v (by simp))
        have := ih fun u hu => h u (by simp [hu])
        simp [catF, cellsL, hv, rngF, this]
    exact key vs h1
  refine o_lit (i := i) (xs := vs) (L := L) hi hx (by rw [hsz]; exact hc) (fun _ w' hs' => ao.h _ w' hs') (by rw [hsz, Nat.mul_one]; exact hn') hn' hd (fun v => ?_) a w he hs
  have : (⟨e, i.size, n, vs⟩ : Row) = mrow id e vs := by rw [hsz, ← hl]; simp [mrow]
  rw [this]
  exact hk v
class CellsV (L : List Atom) (v : Value) (cs : outParam (List Value)) : Prop where
  h : ∀ W0 w, St W0 L w → cellsL v = cs
instance (priority := high) CellsV.agg (L : List Atom) (l : List Value) : CellsV L (agg l) l := ⟨fun _ _ _ => rfl⟩
instance (priority := low) CellsV.one (L : List Atom) (v : Value) [h : OneC L v] : CellsV L v [v] := ⟨fun W0 w hs => by simp [cellsL, cells_of_one (h.h W0 w hs)]⟩
class CellsVs (L : List Atom) (vs : List Value) (css : outParam (List (List Value))) : Prop where
  h : ∀ W0 w, St W0 L w → vs.map cellsL = css
instance CellsVs.nil (L : List Atom) : CellsVs L [] [] := ⟨fun _ _ _ => rfl⟩
instance CellsVs.cons (L : List Atom) (v : Value) (vs : List Value) (c : List Value) (cs : List (List Value)) [h : CellsV L v c] [h' : CellsVs L vs cs] : CellsVs L (v :: vs) (c :: cs) := ⟨fun W0 w hs => by
  simp [h.h W0 w hs, h'.h W0 w hs]⟩
def buildG (pl : List (Nat × Nat)) : List Value → List Nat → List (List Value) → Option (List Value)
  | z, i :: is, vs :: css => match pl[i]? with
    | some (o, n) => match Nat.beq vs.length n, Nat.ble o z.length, setF z o vs with
        | true, true, some z' => buildG pl z' is css
        | _, _, _ => none
    | none => none
  | z, [], _ => some z
  | z, _, [] => some z
theorem buildF_G {pl : List (Nat × Nat)} : ∀ {is : List Nat} {vs : List Value} {z cs : List Value}, buildG pl z is (vs.map cellsL) = some cs → buildF pl z (is.zip vs) = some cs
  | [], vs, z, cs, h => by simpa [buildG, buildF] using h
  | i :: is, [], z, cs, h => by simpa [buildG, buildF] using h
  | i :: is, v :: vs, z, cs, h => by
    simp only [List.map_cons, buildG] at h
    simp only [List.zip_cons_cons, buildF]
    split at h
    · rename_i o n ho
      split at h
      · rename_i z' h1 h2 h3
        have hl : (cellsL v).length = n := Nat.eq_of_beq_eq_true h1
        have hr : rngF n (cellsL v) = some (cellsL v) := by
          have key : ∀ l : List Value, rngF l.length l = some l := by
            intro l
            induction l with
            | nil => rfl
            | cons a l ih => simp [rngF, ih]
          rw [← hl]; exact key _
        first | simp only [hr, h1, h2, h3] | simp only [ho, hr, h1, h2, h3]
        exact buildF_G h
      · cases h
    · cases h
theorem g_buildC {t : TypeId} {i : TI} {pl : List (Nat × Nat)} {parts : Array (Nat × Operand)} {vs cs : List Value} {css : List (List Value)} [tp : TyP c.P t pl] [ti : TyI c.P t i] (hx : evs E (parts.toList.map (·.2)) = some vs)
    [cv : CellsVs L vs css] (hb : buildG pl (cellsL i.zero) (parts.toList.map (·.1)) css = some cs) : Gives c E L ⟨do_, .build t parts, ty, pos, aft, gd⟩ (agg cs) := fun a w he hs =>
  g_build hx (buildF_G (by rw [cv.h _ w hs]; exact hb)) a w he hs
theorem o_box1 {t : TypeId} {x : Operand} {v : Value} [one : OneC L v] (hx : Evs c E x v) (hd : Nat.blt d c.n = true)
    (hk : ∀ b, Ops c all rest k ((d, .v (.pointer (some ⟨b, 0, none⟩))) :: E) (blk b ⟨[v], t⟩ :: L)) : Ops c all (⟨some d, .box t x, ty, pos, aft, none⟩ :: rest) k E L := fun a w he hs =>
  o_box hx (by simp [cellsL, cells_of_one (one.h _ w hs)]) hd hk a w he hs
instance (L : List Atom) (b : UInt8) : OneC L (by8 b) := ⟨fun _ _ _ => rfl⟩
theorem g_fldE {t : TypeId} {x : Operand} {fi k fo : Nat} {v : Value} {r : Row} [tf : TyF c.P t fi fo] (hx : Evs c E x (elemP v k)) [rd : Rd L v r] (hn : 0 < r.n) (hs : 0 < r.sz) :
    Gives c E L ⟨do_, .fieldAddr t x fi, ty, pos, aft, gd⟩ (elemP v (k + fo)) := fun a w he hs' => by
  obtain ⟨h1, _, ad, cap, rfl, _, _, h3⟩ := rd.rd _ w hs'
  rcases h3 with h3 | ⟨b, o, rfl, _⟩
  · rw [h3] at h1
    have : 0 < r.n * r.sz := Nat.mul_pos hn hs
    simp at h1; omega
  · have := g_fld (t := t) (fo := fo) (tf := tf) (L := L) (do_ := do_) (ty := ty) (pos := pos) (aft := aft) (gd := gd) (b := b) (o := o + k) (x := x) (c := c) (E := E) (i := fi) hx a w he hs'
    rw [this]
    simp [elemP, Nat.add_assoc]
theorem g_loadFld {α : Type} [Inhabited α] {f : α → List Value} {sz : Nat} {t e' : TypeId} {ud : TypeDesc} {x : Operand} {v u : Value} {j fo : Nat} {l : List α} [tu : TyU c.P t ud] (hx : Evs c E x (elemP v (j * sz + fo))) [rd : Rd L v (frow f sz e' l)]
    (hu : isAggD ud = false) (hf : ∀ a, (f a).length = sz) (hj : j < l.length) (hv : (f (l.getD j default))[fo]? = some u) : Gives c E L ⟨do_, .load t x, ty, pos, aft, gd⟩ u :=
  g_loadE hx hu (by simp only [frow]; exact flatMap_at hf hj fo u hv)
theorem bnd_to {o : Operand} {kd : IntKind} {n : Nat} {z : Int} (h : Evs c E o (.int kd z)) (e : 0 ≤ z) : bndV c E (some o) n z.toNat := bnd_some h (Int.toNat_of_nonneg e).symm
def subV (sz : Nat) : Value → Nat → Nat → Value
  | .slice a n cap, lo, hi => .slice (if cap = min lo (min hi n) then a else a.map (·.add (min lo (min hi n) * sz))) (min hi n - min lo (min hi n)) (cap - min lo (min hi n))
  | v, _, _ => v
theorem take_drop_min {α : Type} (l : List α) (lo hi : Nat) : (l.drop (min lo (min hi l.length))).take (min hi l.length - min lo (min hi l.length)) = (l.drop lo).take (hi - lo) := by
  by_cases h1 : hi ≤ l.length
  · rw [Nat.min_eq_left h1]
    by_cases h2 : lo ≤ hi
    · rw [Nat.min_eq_left h2]
    · rw [Nat.min_eq_right (by omega), show hi - hi = 0 by omega, show hi - lo = 0 by omega]; simp
  · rw [Nat.min_eq_right (by omega)]
    by_cases h2 : lo ≤ l.length
    · rw [Nat.min_eq_left h2, List.take_of_length_le (by simp), List.take_of_length_le (by simp; omega)]
    · rw [Nat.min_eq_right (by omega), List.drop_of_length_le (Nat.le_refl _), List.drop_of_length_le (by omega)]; simp
instance Rd.subM {α : Type} {f : α → Value} {e : TypeId} {v : Value} {l : List α} {lo hi : Nat} [rd : Rd L v (mrow f e l)] : Rd L (subV 1 v lo hi) (mrow f e ((l.drop lo).take (hi - lo))) := ⟨fun W0 w hs => by
  obtain ⟨a, n, cap, rfl, _, h⟩ := (rd.rd W0 w hs).sub (min lo (min hi l.length)) (min hi l.length) (Nat.min_le_right _ _) (Nat.min_le_right _ _)
  have hn : n = l.length := by obtain ⟨_, _, a', cap', e', _⟩ := rd.rd W0 w hs; cases e'; rfl
  subst hn
  have e1 : (⟨(mrow f e l).e, (mrow f e l).sz, min hi l.length - min lo (min hi l.length), ((mrow f e l).xs.drop (min lo (min hi l.length) * (mrow f e l).sz)).take ((min hi l.length - min lo (min hi l.length)) * (mrow f e l).sz)⟩ : Row) = mrow f e ((l.drop lo).take (hi - lo)) := by
    rw [← take_drop_min l lo hi]
    simp [mrow]
    omega
  rw [e1] at h
  exact h⟩
theorem g_subM {α : Type} {f : α → Value} {t e e' : TypeId} {i : TI} {x : Operand} {xl xh : Option Operand} {v : Value} {l : List α} [tu : TyU c.P t (.slice e)] [ti : TyI c.P e i] (hx : Evs c E x v) [rd : Rd L v (mrow f e' l)] (lo hi : Nat)
    (hlo : bndV c E xl 0 lo) (hhi : bndV c E xh l.length hi) (hsz : i.size = 1) (h1 : lo ≤ hi) (h2 : hi ≤ l.length) : Gives c E L ⟨do_, .slice t x xl xh none, ty, pos, aft, gd⟩ (subV 1 v lo hi) := fun a w he hs => by
  obtain ⟨ad, n, cap, rfl, hc, _⟩ := (rd.rd _ w hs).sub lo hi h1 h2
  have hn : n = l.length := by obtain ⟨_, _, a', cap', e', _⟩ := rd.rd _ w hs; cases e'; rfl
  subst hn
  have hrun := run_sliceAt (P := c.P) (a := ad) (n := l.length) (cap := cap) tu ti (hlo.run he) (hhi.run he) h1 hc w
  rw [hsz] at hrun
  simp [execOp, hx a he, hrun, subV, Nat.min_eq_left h2, Nat.min_eq_left h1]
theorem o_storeW {t : TypeId} {i : TI} {x y : Operand} {vs : List Value} {b : Nat} {cs : List Value} {bt : Nat} {f : Atom → List Atom} [ti : TyI c.P t i]
    (hx : Evs c E x (.pointer (some ⟨b, 0, none⟩))) (hy : Evs c E y (agg vs)) [p : Pick (blk b) L ⟨cs, bt⟩ f] (hn : vs.length = i.size) (h1 : ∀ W0 w, St W0 L w → ∀ u ∈ vs, u.oneCell' = true)
    (hl : vs.length = cs.length) (hk : Ops c all rest k E (f (blk b ⟨vs, bt⟩))) : Ops c all (⟨none, .store t x y, ty, pos, aft, none⟩ :: rest) k E L :=
  o_store (vs := vs) hx hy rfl hn h1 ⟨by omega, by simp [hl]⟩ hk
theorem o_storeR {t : TypeId} {i : TI} {x y : Operand} {u v : Value} {r : Row} {j : Nat} {vs xs' : List Value} {f : Atom → List Atom} [ti : TyI c.P t i]
    (hx : Evs c E x (elemP v j)) (hy : Evs c E y u) [p : Pick (sl v) L r f] (hv : ∀ W0 w, St W0 L w → cellsL u = vs) (hn : vs.length = i.size) (h1 : ∀ W0 w, St W0 L w → ∀ u ∈ vs, u.oneCell' = true)
    (hp : 0 < r.n) (hset : SetsTo r.xs j vs xs') (hk : Ops c all rest k E (f (sl v ⟨r.e, r.sz, r.n, xs'⟩))) : Ops c all (⟨none, .store t x y, ty, pos, aft, none⟩ :: rest) k E L := by
  refine o_run0 fun a w he hs => ?_
  obtain ⟨R, hin, hout⟩ := star_pick p
  have hs' := hs.ent hin
  obtain ⟨g1', g2', hsep, hA, hR⟩ := hs'.heap
  obtain ⟨g1, g2, g3⟩ := hA
  have hvs := hv _ w hs
  have h1' := h1 _ w hs
  rcases g3 with ⟨_, hn0⟩ | ⟨b, cap, cur, fr, hv', hb1, hf, hnc, hcm, hcs, htk⟩
  · omega
  · have hwb : w.heap[b]? = some (.cells cur.toList.toArray r.e fr) := by simpa using hsep.2.1 b _ hb1
    have hxl : r.xs.length ≤ cur.toList.length := by rw [g1, Array.length_toList, hcs]; exact Nat.mul_le_mul_right _ hnc
    have hcur : cur.toList = r.xs ++ cur.toList.drop (r.n * r.sz) := by rw [← htk, List.take_append_drop]
    have hfit := hset.1
    have hset' : SetsTo cur.toList (j + 0) vs (xs' ++ cur.toList.drop (r.n * r.sz)) := by
      refine ⟨by omega, ?_⟩
      rw [hset.2]
      conv => rhs; rw [hcur]
      rw [Nat.add_zero, List.take_append_of_le_length (by omega), List.drop_append_of_le_length (by omega)]
      simp
    obtain ⟨w', hr, hsm⟩ := run_storeR (P := c.P) vs 0 j cur.toList _ w hwb (by simpa using hf) hset' h1'
    have hxs' : xs'.length = r.xs.length := hset.length
    refine ⟨w', _, ?_, (hs'.sameBut hsm (A' := sl v ⟨r.e, r.sz, r.n, xs'⟩) fun g hg hga => ?_).ent (hout _), hk⟩
    · have hsz : u.cells.size = i.size := by rw [← hn, ← hvs]; simp [cellsL]
      have hcl : u.cells.toList = vs := hvs
      have hel : elemP v j = .pointer (some ⟨b, j, none⟩) := by rw [hv']; simp [elemP]
      simp [execOp, hx a he, hy a he, hel, Instr.storeAt, Instr.sureAddr, storeVar, run_sizeOfI ti, hsz, hcl, hr]
    · obtain ⟨_, _, k3⟩ := hga
      rcases k3 with ⟨h0, _⟩ | ⟨b', cap', cur', fr', he', hb', _⟩
      · rw [hv'] at h0; cases h0
      · rw [hv'] at he'
        injection he' with he1 he2 he3
        injection he1 with he1
        injection he1 with he1
        subst he1
        have hone : ∀ q ∈ xs', q.oneCell' = true := by
          rw [hset.2]
          intro q hq
          rcases List.mem_append.1 hq with hq | hq
          · rcases List.mem_append.1 hq with hq | hq
            · exact g2 q (List.mem_of_mem_take hq)
            · exact h1' q hq
          · exact g2 q (List.mem_of_mem_drop hq)
        have hxn : xs'.length = r.n * r.sz := by rw [hxs', g1]
        have hlen : (xs' ++ cur.toList.drop (r.n * r.sz)).length = cur.size := by
          have := congrArg List.length hcur
          simp only [List.length_append, Array.length_toList] at this ⊢
          rw [hxs']; omega
        refine ⟨⟨_, hb'⟩, hxn, hone, .inr ⟨b, cap, (xs' ++ cur.toList.drop (r.n * r.sz)).toArray, fr, hv', by simp only [upd, if_true], ?_, hnc, hcm, ?_, ?_⟩⟩
        · rw [List.size_toArray, hlen]; exact hf
        · rw [List.size_toArray, hlen]; exact hcs
        · show (xs' ++ _).take (r.n * r.sz) = xs'
          rw [← hxn]; simp
theorem r_lenM {α : Type} {f : α → Value} {e : TypeId} {v : Value} {l : List α} {x : Code} (rd : Rd L v (mrow f e l)) (h : l.length ≤ maxLen → Run c x k E L) : Run c x k E L := fun a w he hs => by
  obtain ⟨_, _, _, cap, _, h1, h2, _⟩ := rd.rd _ w hs
  exact h (Nat.le_trans h1 h2) a w he hs
theorem fn_lenM {P : Program} {fi : FuncId} {args : List Value} {R : Value → List Atom → Prop} {α : Type} {f : α → Value} {e : TypeId} {v : Value} {l : List α} (rd : Rd L v (mrow f e l)) (h : l.length ≤ maxLen → Fn P fi args L R) : Fn P fi args L R := fun W0 w hs => by
  obtain ⟨_, _, _, cap, _, h1, h2, _⟩ := rd.rd _ w hs
  exact h (Nat.le_trans h1 h2) W0 w hs
theorem fn_lenF {P : Program} {fi : FuncId} {args : List Value} {R : Value → List Atom → Prop} {α : Type} {f : α → List Value} {sz : Nat} {e : TypeId} {v : Value} {l : List α} (rd : Rd L v (frow f sz e l)) (h : l.length ≤ maxLen → Fn P fi args L R) : Fn P fi args L R := fun W0 w hs => by
  obtain ⟨_, _, _, cap, _, h1, h2, _⟩ := rd.rd _ w hs
  exact h (Nat.le_trans h1 h2) W0 w hs
end
section
variable {c : Cx} {k : List KI} {E : Env} {L : List Atom}
theorem r_cut {σ : Type} (G : σ → Env) (H : σ → List Atom) {x : Code} (h1 : Run c x (.loop (Inv c (fun _ : σ => True) (fun _ => 0) 1 G H) :: k) E L) (h2 : ∀ s, Cont c k (G s) (H s)) : Run c x k E L := fun a w he hs => by
  refine m_mono (h1 a w he hs) ?_
  intro e a' w' hq
  cases e with
  | normal =>
    obtain ⟨s, _, _, hE, hS⟩ := hq
    exact h2 s a' w' hE hS
  | _ => exact hq
theorem c_cut {σ : Type} {G : σ → Env} {H : σ → List Atom} (s : σ) (hE : EnvSub (G s) E) (hL : Ent L (H s)) : Cont c (.loop (Inv c (fun _ : σ => True) (fun _ => 0) 1 G H) :: k) E L :=
  c_loop s trivial Nat.one_pos hE hL
end
def Reads (L : List Atom) (e : TypeId) : List Value → List (List UInt8) → Prop
  | [], [] => True
  | v :: vs, b :: bs => Rd L v (mrow by8 e b) ∧ Reads L e vs bs
  | _, _ => False
class ReadsI (L : List Atom) (e : TypeId) (vs : List Value) (bss : outParam (List (List UInt8))) : Prop where
  h : Reads L e vs bss
instance ReadsI.nil (L : List Atom) (e : TypeId) : ReadsI L e [] [] := ⟨trivial⟩
instance ReadsI.cons (L : List Atom) (e : TypeId) (v : Value) (vs : List Value) (b : List UInt8) (bs : List (List UInt8)) [h : Rd L v (mrow by8 e b)] [h' : ReadsI L e vs bs] : ReadsI L e (v :: vs) (b :: bs) := ⟨⟨h, h'.h⟩⟩
theorem run_partU {P : Program} {e : TypeId} {d : TypeDesc} (h : TyU P e d) (hd : isAggD d = false) {xs : Array Value} {off : Nat} {v : Value} (hx : xs[off]? = some v) (w : World) : (part e xs off).run P w = .ok v w := by
  simp [part, run_isAggU h, hd, hx]
class LenIs {α : Type} (l : List α) (n : outParam Nat) : Prop where
  h : l.length = n ∧ n ≤ maxLen
instance (priority := low) Rd.blkI {L : List Atom} {b n bt : Nat} {l : List UInt8} {g : Atom → List Atom} [p : Pick (VK.blk b) L ⟨bys l, bt⟩ g] [hl : LenIs l n] : Rd L (.slice (some ⟨b, 0, none⟩) n n) (mrow by8 0 l) :=
  Rd.blkM (f := by8) (p := p) 0 hl.h.1 hl.h.2 (fun _ => rfl)
section
variable {c : Cx} {k : List KI} {E : Env} {L : List Atom} {do_ : Option Nat} {ty : TypeId} {pos : String} {aft : Array Edge} {gd : Option (Nat × Bool)}
end
end VK
/- Own framework, part 9: loops by the names of what they change, arrays of structs within a block, structs held against each other. No conditions. -/
namespace VK
open Go
def lk2 : Env → Nat → Option EV
  | [], _ => none
  | (t, x) :: e, n => bif t == n then some x else lk2 e n
theorem lk2_eq (e : Env) (n : Nat) : lk2 e n = lk e n := by
  induction e with
  | nil => rfl
  | cons p e ih =>
    obtain ⟨t, x⟩ := p
    have : (t == n) = Nat.beq t n := by cases h : Nat.beq t n with
      | true => simpa using Nat.eq_of_beq_eq_true h
      | false => simpa using Nat.ne_of_beq_eq_false h
    simp only [lk2, lk, ih, this]
def pick1 (k : Nat) : Option EV → Env → Env
  | some x, r => (k, x) :: r
  | none, r => r
def pickE : List Nat → Env → Env
  | [], _ => []
  | k :: ks, E => pick1 k (lk2 E k) (pickE ks E)
theorem EnvSub.of_pick (E : Env) : ∀ ks : List Nat, EnvSub (pickE ks E) E
  | [] => trivial
  | k :: ks => by
    simp only [pickE]
    cases h : lk2 E k with
    | none => exact EnvSub.of_pick E ks
    | some x => exact ⟨by rw [← lk2_eq]; exact h, EnvSub.of_pick E ks⟩
theorem EnvSub.app {A B E : Env} (h : EnvSub A E) (k : EnvSub B E) : EnvSub (A ++ B) E := by
  induction A with
  | nil => exact k
  | cons p A ih =>
    obtain ⟨t, x⟩ := p
    exact ⟨h.1, ih h.2⟩
section
variable {c : Cx} {k : List KI} {E : Env} {L : List Atom} {all rest : List Oper} {d : Nat} {do_ : Option Nat} {ty : TypeId} {pos : String} {aft : Array Edge} {gd : Option (Nat × Bool)}
theorem r_loopE {σ : Type} (I : σ → Prop) (μ : σ → Nat) (M : σ → Env) (keys : List Nat) (H : σ → List Atom) (x0 : σ) {x : Code} {E0 : Env} (hp : pickE keys E = E0) (h0 : I x0) (hE : EnvSub (M x0) E) (hL : Ent L (H x0))
    (round : ∀ s, I s → Run c x (.loop (Inv c I μ (μ s) (fun s => M s ++ E0) H) :: k) (M s ++ E0) (H s)) : Run c (.loop x) k E L :=
  r_loop I μ (fun s => M s ++ E0) H x0 h0 (EnvSub.app hE (hp ▸ EnvSub.of_pick E keys)) hL round
theorem r_cutE {σ : Type} (M : σ → Env) (keys : List Nat) (H : σ → List Atom) {x : Code} {E0 : Env} (_hp : pickE keys E = E0) (h1 : Run c x (.loop (Inv c (fun _ : σ => True) (fun _ => 0) 1 (fun s => M s ++ E0) H) :: k) E L) (h2 : ∀ s, Cont c k (M s ++ E0) (H s)) : Run c x k E L :=
  r_cut (fun s => M s ++ E0) H h1 h2
theorem Fn.atPick {P : Program} {f : FuncId} {args : List Value} {L : List Atom} {r : Nat} {c : Blk} {g : Atom → List Atom} {R : Value → List Atom → Prop} [pk : Pick (blk r) L c g] (h : Fn P f args (g (blk r c)) R) : Fn P f args L R := by rw [pk.eq]; exact h
theorem r_held {id : Nat} {l : List Oper} (LS : List Atom) (hm : c.P.follows .mixedOrders = true) (h : Cont c (.held l l.length (Array.replicate l.length false) (fun w => St c.W0 LS w) :: k) E L) (hro : c.mode = none := by rfl) : Run c (.region id l.toArray true) k E L := by
  unfold Run Cont at *
  intro a w he hs
  unfold Cx.wp
  rw [hro]
  refine wp_region_held (S := fun w => St c.W0 LS w) hm ?_
  have := (h a w.drew he hs.drew).2
  show wpAnyH c.P .any l.toArray (kq c k c.Q) (fun w => St c.W0 LS w) l.toArray.size (Array.replicate l.toArray.size false) a w.drew
  rw [List.size_toArray]
  exact this
theorem h_take {f i d : Nat} {listed : Array Bool} {S : World → Prop} {o : Oper} {x : EV} (hc : (Region.noSelect all.toArray && Region.free .any all.toArray listed i && (Region.ready .any all.toArray listed).contains i) = true)
    (ho : all[i]? = some o) (hdst : o.dst = some d) (hd : Nat.blt d c.n = true) (hg : ∀ a, EnvOk c.D c.n E a → YieldsIf c.P all.toArray S o x.val a)
    (h : Cont c (.held all f (listed.setIfInBounds i true) S :: k) ((d, x) :: E) L) (hQo : c.Qo = none := by rfl) : Cont c (.held all (f + 1) listed S :: k) E L := by
  unfold Cont at *
  intro a w he hs
  simp only [Bool.and_eq_true] at hc
  obtain ⟨h1, h2⟩ := h _ w (he.put d x hd) hs
  refine ⟨h1, wpAnyH_take (oi := o) (v := x.val) (by simpa using ho) hc.1.1 hc.1.2 hc.2 (fun ch a' w' hp => kq_panic (a := a'.put o.dst x.val) (fun hQ => panic_put hQo hQ) hp) (hg a he) h1 (by rw [hdst]; exact h2)⟩
theorem h_give {f i d : Nat} {listed : Array Bool} {LS : List Atom} {op : Op} {v0 v : Value} (hc : (Region.noSelect all.toArray && Region.free .any all.toArray listed i && (Region.ready .any all.toArray listed).contains i) = true)
    (ho : all[i]? = some ⟨some d, op, ty, pos, aft, none⟩) (hg : Gives c E LS ⟨some d, op, ty, pos, aft, none⟩ v0) (he : v0 = v) (hd : Nat.blt d c.n = true)
    (h : Cont c (.held all f (listed.setIfInBounds i true) (fun w => St c.W0 LS w) :: k) ((d, .v v) :: E) L) (hQo : c.Qo = none := by rfl) : Cont c (.held all (f + 1) listed (fun w => St c.W0 LS w) :: k) E L := by
  subst he
  unfold Gives at hg
  exact h_take (x := .v v0) hc ho rfl hd (fun a hE => .inl ⟨wanted_none rfl, fun w hs => hg a w hE hs⟩) h hQo
theorem h_giveN {f i d : Nat} {listed : Array Bool} {LS : List Atom} {op : Op} {kd : IntKind} {x : Int} (hc : (Region.noSelect all.toArray && Region.free .any all.toArray listed i && (Region.ready .any all.toArray listed).contains i) = true)
    (ho : all[i]? = some ⟨some d, op, ty, pos, aft, none⟩) (hg : Gives c E LS ⟨some d, op, ty, pos, aft, none⟩ (.int kd (kd.wrap x))) (hr : inR kd x) (hd : Nat.blt d c.n = true)
    (h : Cont c (.held all f (listed.setIfInBounds i true) (fun w => St c.W0 LS w) :: k) ((d, .v (.int kd x)) :: E) L) (hQo : c.Qo = none := by rfl) : Cont c (.held all (f + 1) listed (fun w => St c.W0 LS w) :: k) E L := h_give hc ho hg (by rw [wrap_in hr]) hd h hQo
theorem h_giveU {f i d : Nat} {listed : Array Bool} {LS : List Atom} {op : Op} {kd : IntKind} {x m : Int} (hc : (Region.noSelect all.toArray && Region.free .any all.toArray listed i && (Region.ready .any all.toArray listed).contains i) = true)
    (ho : all[i]? = some ⟨some d, op, ty, pos, aft, none⟩) (hg : Gives c E LS ⟨some d, op, ty, pos, aft, none⟩ (.int kd (kd.wrap x))) (hr : modK kd = some m) (hd : Nat.blt d c.n = true)
    (h : Cont c (.held all f (listed.setIfInBounds i true) (fun w => St c.W0 LS w) :: k) ((d, .v (.int kd (x % m))) :: E) L) (hQo : c.Qo = none := by rfl) : Cont c (.held all (f + 1) listed (fun w => St c.W0 LS w) :: k) E L := h_give hc ho hg (by rw [wrap_mod hr]) hd h hQo
theorem h_lazy {f i d j : Nat} {want g : Bool} {listed : Array Bool} {LS : List Atom} {op : Op} {v0 v : Value} (hc : (Region.noSelect all.toArray && Region.free .any all.toArray listed i && (Region.ready .any all.toArray listed).contains i) = true)
    (ho : all[i]? = some ⟨some d, op, ty, pos, aft, some (j, want)⟩) (hg : gcond all E j want = some g) (hv : g = true → Gives c E LS ⟨some d, op, ty, pos, aft, none⟩ v0) (he : v0 = v) (hd : Nat.blt d c.n = true)
    (h : Cont c (.held all f (listed.setIfInBounds i true) (fun w => St c.W0 LS w) :: k) ((d, .gv g v) :: E) L) (hQo : c.Qo = none := by rfl) : Cont c (.held all (f + 1) listed (fun w => St c.W0 LS w) :: k) E L := by
  subst he
  unfold Gives at hv
  refine h_take (x := .gv g v0) hc ho rfl hd (fun a hE => ?_) h hQo
  have hw := wanted_cond (o := ⟨some d, op, ty, pos, aft, some (j, want)⟩) rfl hg hE
  cases g with
  | true => exact .inl ⟨hw, fun w hs => hv rfl a w hE hs⟩
  | false => exact .inr ⟨hw, rfl⟩
theorem h_sure {f i d j : Nat} {want : Bool} {listed : Array Bool} {LS : List Atom} {op : Op} {v0 v : Value} (hc : (Region.noSelect all.toArray && Region.free .any all.toArray listed i && (Region.ready .any all.toArray listed).contains i) = true)
    (ho : all[i]? = some ⟨some d, op, ty, pos, aft, some (j, want)⟩) (hg : gcond all E j want = some true) (hv : Gives c E LS ⟨some d, op, ty, pos, aft, none⟩ v0) (he : v0 = v) (hd : Nat.blt d c.n = true)
    (h : Cont c (.held all f (listed.setIfInBounds i true) (fun w => St c.W0 LS w) :: k) ((d, .v v) :: E) L) (hQo : c.Qo = none := by rfl) : Cont c (.held all (f + 1) listed (fun w => St c.W0 LS w) :: k) E L := by
  subst he
  unfold Gives at hv
  refine h_take (x := .v v0) hc ho rfl hd (fun a hE => ?_) h hQo
  have hw := wanted_cond (o := ⟨some d, op, ty, pos, aft, some (j, want)⟩) rfl hg hE
  exact .inl ⟨hw, fun w hs => hv a w hE hs⟩
theorem q_sure {d j : Nat} {want : Bool} {op : Op} {v0 v : Value}
    (hg : gcond all E j want = some true) (h : Gives c E L ⟨some d, op, ty, pos, aft, none⟩ v0) (he : v0 = v) (hd : Nat.blt d c.n = true)
    (hk : QOps c all k L rest ((d, .v v) :: E)) : QOps c all k L (⟨some d, op, ty, pos, aft, some (j, want)⟩ :: rest) E := by
  subst he
  unfold QOps
  unfold Gives at h
  refine ⟨d, .v v0, rfl, hd, ?_, hk⟩
  unfold QGives
  intro a hE
  have hw := wanted_cond (o := ⟨some d, op, ty, pos, aft, some (j, want)⟩) rfl hg hE
  exact .inl ⟨hw, fun w hs => h a w hE hs⟩
theorem h_one {f i : Nat} {listed : Array Bool} {LS : List Atom} {o : Oper} (hr : Region.ready .any all.toArray listed = [i]) (ho : all[i]? = some o) (hL : Ent L LS) (h : Ops c all [o] (.held all f (listed.setIfInBounds i true) (fun w => St c.W0 LS w) :: k) E L) (hro : c.mode = none := by rfl) : Cont c (.held all (f + 1) listed (fun w => St c.W0 LS w) :: k) E L := by
  unfold Cont
  unfold Ops at h
  intro a w he hs
  refine ⟨hs.ent hL, wpAnyH_all hr (by simp) fun j hj => ?_⟩
  have hji : j = i := by simpa using hj
  subst hji
  have h1 := h a w he hs
  unfold Cx.wpL at h1
  rw [hro] at h1
  have h2 : (all.toArray)[j]? = some o := by simpa using ho
  unfold wpOp
  simp only [h2]
  simp only [wpList] at h1
  split
  · rename_i hw
    rw [if_pos hw] at h1
    refine h1.imp (fun h3 => ?_) (fun h3 => ⟨h3.1, ?_⟩)
    · unfold Oper.wp at h3 ⊢
      generalize (execOp a.eval o).run c.P w = r at *
      cases r with
      | ok n w' =>
        cases n <;> simp only [Oper.upon] at h3 ⊢ <;> first
          | exact h3
          | exact Calls.mono h3 (fun e w'' he => by cases e <;> first | exact he | (obtain ⟨a0, w0, hq⟩ := he; exact ⟨a0, w0, hq⟩))
      | halt x w' => cases x <;> simp only [Oper.upon] at h3 ⊢ <;> exact h3
    · obtain ⟨a0, w0, hq⟩ := h3.2; exact ⟨a0, w0, hq⟩
  · rename_i hw
    rw [if_neg hw] at h1
    exact h1
theorem h_two {f i j : Nat} {listed : Array Bool} {LS : List Atom} {o p : Oper} (hr : Region.ready .any all.toArray listed = [i, j]) (ho : all[i]? = some o) (hp : all[j]? = some p) (hL : Ent L LS) (h : Ops c all [o] (.held all f (listed.setIfInBounds i true) (fun w => St c.W0 LS w) :: k) E L)
    (h' : Ops c all [p] (.held all f (listed.setIfInBounds j true) (fun w => St c.W0 LS w) :: k) E L) (hro : c.mode = none := by rfl) : Cont c (.held all (f + 1) listed (fun w => St c.W0 LS w) :: k) E L := by
  unfold Cont
  unfold Ops at h h'
  intro a w he hs
  refine ⟨hs.ent hL, wpAnyH_all hr (by simp) fun q hq => ?_⟩
  have key : ∀ (q : Nat) (o : Oper), all[q]? = some o → wpList c.P all.toArray (kq c (.held all f (listed.setIfInBounds q true) (fun w => St c.W0 LS w) :: k) c.Q) [o] a w → wpOp c.P all.toArray (kq c k c.Q) q (fun a' w' => St c.W0 LS w' ∧ wpAnyH c.P .any all.toArray (kq c k c.Q) (fun w => St c.W0 LS w) f (listed.setIfInBounds q true) a' w') a w := by
    intro q o ho h1
    have h2 : (all.toArray)[q]? = some o := by simpa using ho
    unfold wpOp
    simp only [h2]
    simp only [wpList] at h1
    split
    · rename_i hw
      rw [if_pos hw] at h1
      refine h1.imp (fun h3 => ?_) (fun h3 => ⟨h3.1, ?_⟩)
      · unfold Oper.wp at h3 ⊢
        generalize (execOp a.eval o).run c.P w = r at *
        cases r with
        | ok n w' =>
          cases n <;> simp only [Oper.upon] at h3 ⊢ <;> first
            | exact h3
            | exact Calls.mono h3 (fun e w'' he => by cases e <;> first | exact he | (obtain ⟨a0, w0, hq⟩ := he; exact ⟨a0, w0, hq⟩))
        | halt x w' => cases x <;> simp only [Oper.upon] at h3 ⊢ <;> exact h3
      · obtain ⟨a0, w0, hq⟩ := h3.2; exact ⟨a0, w0, hq⟩
    · rename_i hw
      rw [if_neg hw] at h1
      exact h1
  rcases (by simpa using hq : q = i ∨ q = j) with rfl | rfl
  · have h1 := h a w he hs
    unfold Cx.wpL at h1
    rw [hro] at h1
    exact key _ o ho h1
  · have h1 := h' a w he hs
    unfold Cx.wpL at h1
    rw [hro] at h1
    exact key _ p hp h1
theorem h_done {f : Nat} {listed : Array Bool} {LS : List Atom} (hr : Region.ready .any all.toArray listed = []) (hL : Ent L LS) (h : Cont c k E L) : Cont c (.held all f listed (fun w => St c.W0 LS w) :: k) E L := by
  unfold Cont at *
  intro a w he hs
  exact ⟨hs.ent hL, wpAnyH_done hr (h a w he hs) f⟩
def zchk (all : List Oper) (listed : Array Bool) (i z : Nat) (U : List Nat) : Bool := U.contains z && U.all fun u => !(listed.getD u true) && !(Nat.beq u i) && (match all[u]? with | some ou => ou.after.any (fun e => Region.binds .any e && (Nat.beq e.on i || U.contains e.on)) | none => false)
theorem zchk_spec {all : List Oper} {listed : Array Bool} {i z : Nat} {U : List Nat} (h : zchk all listed i z U = true) : z ∈ U ∧ (∀ u ∈ U, listed.getD u true = false) ∧ ∀ u ∈ U, u ≠ i ∧ ∃ ou, all.toArray[u]? = some ou ∧ ∃ e ∈ ou.after, Region.binds .any e = true ∧ (e.on = i ∨ e.on ∈ U) := by
  unfold zchk at h
  rw [Bool.and_eq_true, List.all_eq_true] at h
  obtain ⟨h1, h2⟩ := h
  refine ⟨by simpa using h1, fun u hu => ?_, fun u hu => ?_⟩
  · have := h2 u hu
    simp only [Bool.and_eq_true, Bool.not_eq_true'] at this
    exact this.1.1
  · have := h2 u hu
    simp only [Bool.and_eq_true, Bool.not_eq_true'] at this
    obtain ⟨⟨_, h3⟩, h4⟩ := this
    refine ⟨Nat.ne_of_beq_eq_false h3, ?_⟩
    cases ho : all[u]? with
    | none => rw [ho] at h4; cases h4
    | some ou =>
      rw [ho] at h4
      obtain ⟨e, he, hb⟩ := Array.any_eq_true'.1 h4
      simp only [Bool.and_eq_true, Bool.or_eq_true] at hb
      refine ⟨ou, by simpa using ho, e, he, hb.1, ?_⟩
      rcases hb.2 with h5 | h5
      · exact .inl (Nat.eq_of_beq_eq_true h5)
      · exact .inr (by simpa using h5)
theorem r_heldz {id : Nat} {l : List Oper} (z : Nat) (LS : List Atom) (hm : c.P.follows .mixedOrders = true) (h : Cont c (.heldz l l.length (Array.replicate l.length false) (fun w => St c.W0 LS w) z :: k) E L) (hro : c.mode = none := by rfl) : Run c (.region id l.toArray true) k E L := by
  unfold Run Cont at *
  intro a w he hs
  unfold Cx.wp
  rw [hro]
  refine wp_region_any hm (wpAny_of_z (S := fun w => St c.W0 LS w) (z := z) _ _ _ _ ?_)
  have := (h a w.drew he hs.drew).2
  show wpAnyZ c.P .any l.toArray (kq c k c.Q) (fun w => St c.W0 LS w) z l.toArray.size (Array.replicate l.toArray.size false) a w.drew
  rw [List.size_toArray]
  exact this
theorem z_take {U : List Nat} {z f i d : Nat} {listed : Array Bool} {S : World → Prop} {o : Oper} {x : EV} (hc : (Region.noSelect all.toArray && Region.free .any all.toArray listed i && (Region.ready .any all.toArray listed).contains i && zchk all listed i z U) = true)
    (ho : all[i]? = some o) (hdst : o.dst = some d) (hd : Nat.blt d c.n = true) (hg : ∀ a, EnvOk c.D c.n E a → YieldsIf c.P all.toArray S o x.val a)
    (h : Cont c (.heldz all f (listed.setIfInBounds i true) S z :: k) ((d, x) :: E) L) (hQo : c.Qo = none := by rfl) : Cont c (.heldz all (f + 1) listed S z :: k) E L := by
  unfold Cont at *
  intro a w he hs
  simp only [Bool.and_eq_true] at hc
  obtain ⟨hzU, hz0, hU⟩ := zchk_spec hc.2
  obtain ⟨h1, h2⟩ := h _ w (he.put d x hd) hs
  have hiz : i ≠ z := fun e => (hU z hzU).1 e.symm
  have hS : S w := h1 (by rw [getD_set_ne true hiz]; exact hz0 z hzU)
  have hi : all.toArray[i]? = some o := by simpa using ho
  refine ⟨fun _ => hS, wpAnyZ_first (oi := o) (v := x.val) hi (Region.noSelect_spec hc.1.1.1) (fun ch a' w' hp => kq_panic (a := a'.put o.dst x.val) (fun hQ => panic_put hQo hQ) hp) hzU hU _ _ _ _ (Region.free_spec hi hc.1.1.2) (by simpa using hc.1.2) hz0 (hg a he) hS (by rw [hdst]; exact h2)⟩
theorem z_give {U : List Nat} {z f i d : Nat} {listed : Array Bool} {LS : List Atom} {op : Op} {v0 v : Value} (hc : (Region.noSelect all.toArray && Region.free .any all.toArray listed i && (Region.ready .any all.toArray listed).contains i && zchk all listed i z U) = true)
    (ho : all[i]? = some ⟨some d, op, ty, pos, aft, none⟩) (hg : Gives c E LS ⟨some d, op, ty, pos, aft, none⟩ v0) (he : v0 = v) (hd : Nat.blt d c.n = true)
    (h : Cont c (.heldz all f (listed.setIfInBounds i true) (fun w => St c.W0 LS w) z :: k) ((d, .v v) :: E) L) (hQo : c.Qo = none := by rfl) : Cont c (.heldz all (f + 1) listed (fun w => St c.W0 LS w) z :: k) E L := by
  subst he
  unfold Gives at hg
  exact z_take (x := .v v0) hc ho rfl hd (fun a hE => .inl ⟨wanted_none rfl, fun w hs => hg a w hE hs⟩) h hQo
theorem z_giveN {U : List Nat} {z f i d : Nat} {listed : Array Bool} {LS : List Atom} {op : Op} {kd : IntKind} {x : Int} (hc : (Region.noSelect all.toArray && Region.free .any all.toArray listed i && (Region.ready .any all.toArray listed).contains i && zchk all listed i z U) = true)
    (ho : all[i]? = some ⟨some d, op, ty, pos, aft, none⟩) (hg : Gives c E LS ⟨some d, op, ty, pos, aft, none⟩ (.int kd (kd.wrap x))) (hr : inR kd x) (hd : Nat.blt d c.n = true)
    (h : Cont c (.heldz all f (listed.setIfInBounds i true) (fun w => St c.W0 LS w) z :: k) ((d, .v (.int kd x)) :: E) L) (hQo : c.Qo = none := by rfl) : Cont c (.heldz all (f + 1) listed (fun w => St c.W0 LS w) z :: k) E L := z_give hc ho hg (by rw [wrap_in hr]) hd h hQo
theorem z_one {z f i : Nat} {listed : Array Bool} {LS : List Atom} {o : Oper} (hr : Region.ready .any all.toArray listed = [i]) (ho : all[i]? = some o) (hL : Ent L LS) (h : Ops c all [o] (.heldz all f (listed.setIfInBounds i true) (fun w => St c.W0 LS w) z :: k) E L) (hro : c.mode = none := by rfl) : Cont c (.heldz all (f + 1) listed (fun w => St c.W0 LS w) z :: k) E L := by
  unfold Cont
  unfold Ops at h
  intro a w he hs
  refine ⟨fun _ => hs.ent hL, wpAnyZ_all hr (by simp) fun j hj => ?_⟩
  have hji : j = i := by simpa using hj
  subst hji
  have h1 := h a w he hs
  unfold Cx.wpL at h1
  rw [hro] at h1
  have h2 : (all.toArray)[j]? = some o := by simpa using ho
  unfold wpOp
  simp only [h2]
  simp only [wpList] at h1
  split
  · rename_i hw
    rw [if_pos hw] at h1
    refine h1.imp (fun h3 => ?_) (fun h3 => ⟨h3.1, ?_⟩)
    · unfold Oper.wp at h3 ⊢
      generalize (execOp a.eval o).run c.P w = r at *
      cases r with
      | ok n w' =>
        cases n <;> simp only [Oper.upon] at h3 ⊢ <;> first
          | exact h3
          | exact Calls.mono h3 (fun e w'' he => by cases e <;> first | exact he | (obtain ⟨a0, w0, hq⟩ := he; exact ⟨a0, w0, hq⟩))
      | halt x w' => cases x <;> simp only [Oper.upon] at h3 ⊢ <;> exact h3
    · obtain ⟨a0, w0, hq⟩ := h3.2; exact ⟨a0, w0, hq⟩
  · rename_i hw
    rw [if_neg hw] at h1
    exact h1
theorem z_done {z f : Nat} {listed : Array Bool} {LS : List Atom} (hr : Region.ready .any all.toArray listed = []) (hz : listed.getD z true = true) (h : Cont c k E L) : Cont c (.heldz all f listed (fun w => St c.W0 LS w) z :: k) E L := by
  unfold Cont at *
  intro a w he hs
  exact ⟨fun h => absurd h (by rw [hz]; decide), wpAnyZ_done hr (h a w he hs) f⟩
theorem Ent.pick1 {α : Type} {K : α → Atom} {x : α} {g : Atom → List Atom} [p : Pick K L x g] : Ent L [K x] := by
  obtain ⟨R, h1, _⟩ := star_pick p
  exact h1.trans (Ent.cons (Ent.nil _))
class LenC {α : Type} (f : α → List Value) (sz : outParam Nat) : Prop where
  h : ∀ a, (f a).length = sz
end
section
variable {c : Cx} {k : List KI} {E : Env} {L : List Atom} {all rest : List Oper} {d : Nat} {do_ : Option Nat} {ty : TypeId} {pos : String} {aft : Array Edge} {gd : Option (Nat × Bool)}
theorem g_idxAN {t e : TypeId} {m : Nat} {i : TI} {x y : Operand} {b o : Nat} {kd : IntKind} {n : Nat} [tu : TyU c.P t (.array m e)] [ti : TyI c.P e i] (hx : Evs c E x (.pointer (some ⟨b, o, none⟩))) (hy : Evs c E y (.int kd (n : Int)))
    (h1 : (n : Int) < (m : Int)) : Gives c E L ⟨do_, .indexAddr t x y, ty, pos, aft, gd⟩ (.pointer (some ⟨b, o + n * i.size, none⟩)) := by
  have := g_idxA (L := L) (do_ := do_) (ty := ty) (pos := pos) (aft := aft) (gd := gd) (t := t) hx hy (by omega) h1
  simpa using this
theorem g_idxMN {α : Type} {f : α → Value} {t e e' : TypeId} {i : TI} {x y : Operand} {v : Value} {kd : IntKind} {n : Nat} {l : List α} [tu : TyU c.P t (.slice e)] [ti : TyI c.P e i] (hx : Evs c E x v) (hy : Evs c E y (.int kd (n : Int))) [rd : Rd L v (mrow f e' l)]
    (hsz : i.size = 1) (h1 : (n : Int) < (l.length : Int)) : Gives c E L ⟨do_, .indexAddr t x y, ty, pos, aft, gd⟩ (elemP v n) := by
  have := g_idxM (L := L) (do_ := do_) (ty := ty) (pos := pos) (aft := aft) (gd := gd) (t := t) (f := f) hx hy hsz (by omega) h1
  simpa using this
theorem g_idxFN {α : Type} {f : α → List Value} {sz : Nat} {t e e' : TypeId} {i : TI} {x y : Operand} {v : Value} {kd : IntKind} {n : Nat} {l : List α} [tu : TyU c.P t (.slice e)] [ti : TyI c.P e i] (hx : Evs c E x v) (hy : Evs c E y (.int kd (n : Int))) [rd : Rd L v (frow f sz e' l)]
    (hsz : i.size = sz) (hp : Nat.blt 0 sz = true) (h1 : (n : Int) < (l.length : Int)) : Gives c E L ⟨do_, .indexAddr t x y, ty, pos, aft, gd⟩ (elemP v (n * sz)) := by
  have := g_idxF (L := L) (do_ := do_) (ty := ty) (pos := pos) (aft := aft) (gd := gd) (t := t) (f := f) hx hy hsz hp (by omega) h1
  simpa using this
end
theorem envsub_v {t : Nat} {v v' : Value} {E' E : Env} (h : lk E t = some (.v v')) (e : v' = v) (k : EnvSub E' E) : EnvSub ((t, .v v) :: E') E := ⟨by rw [h, e], k⟩
theorem int_eq {k : IntKind} {a b : Int} (h : a = b) : Value.int k a = Value.int k b := h ▸ rfl
theorem bool_eq {a b : Bool} (h : a = b) : Value.bool a = Value.bool b := h ▸ rfl
theorem str_eq {a b : List UInt8} (h : a = b) : str a = str b := h ▸ rfl
theorem ptr_eq {b o o' : Nat} (h : o = o') : Value.pointer (some ⟨b, o, none⟩) = Value.pointer (some ⟨b, o', none⟩) := h ▸ rfl
class AsStr (v : Value) (l : outParam (List UInt8)) : Prop where
  h : v = str l
instance (l : List UInt8) : AsStr (str l) l := ⟨rfl⟩
instance (l : List UInt8) : AsStr (.string ⟨List.toArray l⟩) l := ⟨rfl⟩
class OfC {α : Type} (f : α → List Value) (vs : List Value) (a : outParam α) : Prop where
  h : vs = f a
instance (priority := high) OfC.same {α : Type} (f : α → List Value) (a : α) : OfC f (f a) a := ⟨rfl⟩
class SetF {α : Type} (f : α → List Value) (a : α) (q : Nat) (v : Value) (a' : outParam α) : Prop where
  h : (f a).set q v = f a'
theorem flat_set {α : Type} [Inhabited α] {f : α → List Value} {sz : Nat} {pre : List Value} {l : List α} {i q : Nat} {v : Value} {a' : α} (hf : ∀ a, (f a).length = sz) (hi : i < l.length) (hq : q < sz) (h : (f (l.getD i default)).set q v = f a') :
    (pre ++ l.flatMap f).set (pre.length + i * sz + q) v = pre ++ (l.set i a').flatMap f := by
  rw [List.set_append_right _ _ (by omega), show pre.length + i * sz + q - pre.length = i * sz + q by omega]
  congr 1
  induction l generalizing i with
  | nil => simp at hi
  | cons a l ih =>
    cases i with
    | zero =>
      simp only [Nat.zero_mul, Nat.zero_add, List.flatMap_cons, List.set_cons_zero]
      rw [List.set_append_left _ _ (by rw [hf]; exact hq)]
      rw [show f a' = (f a).set q v from h.symm]
    | succ i =>
      simp only [List.flatMap_cons, List.set_cons_succ]
      rw [show (i + 1) * sz + q = (f a).length + (i * sz + q) by rw [hf, Nat.add_mul]; omega, List.set_append_right _ _ (by omega), show (f a).length + (i * sz + q) - (f a).length = i * sz + q by omega]
      rw [ih (by simpa using hi) (by simpa using h)]
section
variable {c : Cx} {k : List KI} {E : Env} {L : List Atom} {all rest : List Oper} {d : Nat} {do_ : Option Nat} {ty : TypeId} {pos : String} {aft : Array Edge} {gd : Option (Nat × Bool)}
end
class TyC (P : Program) (t : TypeId) {α : outParam Type} (f : outParam (α → List Value)) : Prop where
  h : True
section
variable {c : Cx} {k : List KI} {E : Env} {L : List Atom} {all rest : List Oper} {d : Nat} {do_ : Option Nat} {ty : TypeId} {pos : String} {aft : Array Edge} {gd : Option (Nat × Bool)}
theorem o_litS {α : Type} {f : α → List Value} {sz : Nat} {t e : TypeId} {i : TI} {x : Operand} {vs : List Value} {a : α} [tu : TyU c.P t (.slice e)] [ti : TyI c.P e i] [TyC c.P e f] (hx : ev E x = some (agg vs)) [oc : OfC f vs a] [lc : LenC f sz] (hsz : i.size = sz) (h1 : AllOne L vs) (hn : Nat.ble i.size 65536 = true) (hd : Nat.blt d c.n = true)
    (hk : ∀ v, Ops c all rest k ((d, .v v) :: E) (sl v (frow f sz e [a]) :: L)) : Ops c all (⟨some d, .buildSlice t 1 #[(0, x)], ty, pos, aft, none⟩ :: rest) k E L := by
  have hvs := oc.h
  have hl : vs.length = i.size := by rw [hvs, lc.h, hsz]
  have hr : rngF vs.length vs = some vs := by
    have key : ∀ l : List Value, rngF l.length l = some l := by
      intro l
      induction l with
      | nil => rfl
      | cons a l ih => simp [rngF, ih]
    exact key vs
  have hcl : cellsL (agg vs) = vs := rfl
  refine o_lit (i := i) (vs := [agg vs]) (xs := vs) rfl (by simp [evs, hx]) (by simp only [catF, hcl, ← hl, hr]; simp) (fun _ w hs u hu => h1.h _ w hs u hu) (by simpa using hn) rfl hd fun v => ?_
  have : (⟨e, i.size, 1, vs⟩ : Row) = frow f sz e [a] := by simp [frow, hsz, hvs]
  rw [this]
  exact hk v
theorem o_lit0S {α : Type} {f : α → List Value} {sz : Nat} {t e : TypeId} {i : TI} [tu : TyU c.P t (.slice e)] [ti : TyI c.P e i] [TyC c.P e f] [LenC f sz] (hsz : i.size = sz) (hd : Nat.blt d c.n = true)
    (hk : ∀ v, Ops c all rest k ((d, .v v) :: E) (sl v (frow f sz e []) :: L)) : Ops c all (⟨some d, .buildSlice t 0 #[], ty, pos, aft, none⟩ :: rest) k E L := by
  refine o_lit (i := i) (vs := []) (xs := []) rfl rfl rfl (by intro _ _ _ u hu; simp at hu) (by simp) rfl hd fun v => ?_
  have : (⟨e, i.size, 0, []⟩ : Row) = frow f sz e [] := by rw [hsz]; rfl
  rw [this]
  exact hk v
theorem flatMap_set {α : Type} [Inhabited α] {f : α → List Value} {sz : Nat} {l : List α} {i q : Nat} {v : Value} {a' : α} (hf : ∀ a, (f a).length = sz) (hi : i < l.length) (hq : q < sz) (h : (f (l.getD i default)).set q v = f a') :
    (l.flatMap f).set (i * sz + q) v = (l.set i a').flatMap f := by
  have := flat_set (pre := []) hf hi hq h
  simpa using this
theorem o_storeFld {α : Type} [Inhabited α] {f : α → List Value} {sz : Nat} {t e : TypeId} {i : TI} {x y : Operand} {u v : Value} {l : List α} {a' : α} {j q : Nat} {g : Atom → List Atom} [ti : TyI c.P t i]
    (hx : Evs c E x (elemP v (j * sz + q))) (hy : Evs c E y u) [p : Pick (sl v) L (frow f sz e l) g] [h1 : OneC L u] (hn : i.size = 1) (hf : ∀ a, (f a).length = sz) [hs : SetF f (l.getD j default) q u a'] (hj : j < l.length) (hq : Nat.blt q sz = true)
    (hk : Ops c all rest k E (g (sl v (frow f sz e (l.set j a'))))) : Ops c all (⟨none, .store t x y, ty, pos, aft, none⟩ :: rest) k E L := by
  have hq : q < sz := of_decide_eq_true (by simpa [Nat.blt_eq] using hq)
  have hlen := flatMap_length hf l
  have hlt : j * sz + q < (l.flatMap f).length := by
    rw [hlen]
    have : (j + 1) * sz ≤ l.length * sz := Nat.mul_le_mul_right _ (by omega)
    rw [Nat.add_mul] at this; omega
  refine o_storeR (r := frow f sz e l) (vs := [u]) (xs' := (l.flatMap f).set (j * sz + q) u) hx hy (fun _ w hs => by simp [cellsL, cells_of_one (h1.h _ w hs)]) (by simp [hn]) (fun _ w hw z hz => by simp at hz; subst hz; exact h1.h _ w hw) (by simp only [frow]; omega) ?_ ?_
  · unfold SetsTo
    refine ⟨by simp only [frow, List.length_cons, List.length_nil]; omega, ?_⟩
    simp only [frow]
    rw [List.set_eq_take_append_cons_drop, if_pos hlt]
    simp
  · have : (⟨(frow f sz e l).e, (frow f sz e l).sz, (frow f sz e l).n, (l.flatMap f).set (j * sz + q) u⟩ : Row) = frow f sz e (l.set j a') := by
      rw [flatMap_set hf hj hq hs.h]; simp [frow]
    rw [this]
    exact hk
end
class EqS (P : Program) (t : TypeId) {α : Type} [DecidableEq α] (f : α → List Value) : Prop where
  h : ∀ (d : Nat) (a b : α) (w : World), (Op.equalIn (d + 8) t (agg (f a)) (agg (f b))).run P w = .ok (decide (a = b)) w
theorem eqF_cons {P : Program} {d : Nat} {xs ys : Array Value} {fs : List Field} {f : Field} {a b : Value} {p q : Prop} [Decidable p] [Decidable q] {w : World} (hn : f.name ≠ "_") (ha : (part f.type xs f.offset).run P w = .ok a w) (hb : (part f.type ys f.offset).run P w = .ok b w)
    (he : (Op.equalIn d f.type a b).run P w = .ok (decide p) w) (hr : (Op.eqFields d xs ys fs).run P w = .ok (decide q) w) : (Op.eqFields d xs ys (f :: fs)).run P w = .ok (decide (p ∧ q)) w := by
  simp only [Op.eqFields, hn, ne_eq, not_false_eq_true, if_true, Sem.run_bind, ha, hb, he, Result.andThen_ok]
  by_cases hp : p <;> simp [hp, hr]
theorem eqF_nil' {P : Program} {d : Nat} {xs ys : Array Value} {w : World} : (Op.eqFields d xs ys []).run P w = .ok (decide True) w := by simp [Op.eqFields]
theorem eq_int {P : Program} {t : TypeId} {k : IntKind} [tu : TyU P t (.int k)] (d : Nat) (a b : Int) (w : World) : (Op.equalIn (d + 1) t (.int k a) (.int k b)).run P w = .ok (decide (a = b)) w := run_equalIn_int w d t k k a b tu.h
theorem eq_str {P : Program} {t : TypeId} [tu : TyU P t .string] (d : Nat) (a b : List UInt8) (w : World) : (Op.equalIn (d + 1) t (str a) (str b)).run P w = .ok (decide (a = b)) w := by
  have := run_equalIn_string w d t ⟨a.toArray⟩ ⟨b.toArray⟩ tu.h
  simp only [str]
  rw [this, toList_ofL, toList_ofL]
  congr 1
  by_cases h : a = b <;> simp [h]
theorem part_one {P : Program} {t : TypeId} {ud : TypeDesc} {xs : List Value} {o : Nat} {v : Value} {w : World} [tu : TyU P t ud] (hu : isAggD ud = false) (hv : xs[o]? = some v) : (part t xs.toArray o).run P w = .ok v w := run_partU tu hu (by simpa using hv) w
theorem part_agg {P : Program} {t : TypeId} {ud : TypeDesc} {i : TI} {xs us : List Value} {o : Nat} {w : World} [tu : TyU P t ud] [ti : TyI P t i] (hu : isAggD ud = true) (hv : (xs.drop o).take i.size = us) : (part t xs.toArray o).run P w = .ok (agg us) w := by
  subst hv
  simp [part, run_isAggU tu, hu, run_sizeOfI ti, agg]
section
variable {c : Cx} {k : List KI} {E : Env} {L : List Atom} {do_ : Option Nat} {ty : TypeId} {pos : String} {aft : Array Edge} {gd : Option (Nat × Bool)}
theorem g_eqS {α : Type} [DecidableEq α] {f : α → List Value} {op : BinOp} {t t' : TypeId} {x y : Operand} {a b : α} {v : Value} [es : EqS c.P t f] (hg : c.P.eqGuardType c.P.depth t = false) (hx : Evs c E x (agg (f a))) (hy : Evs c E y (agg (f b)))
    (h : (match op with | .eql => some (Value.bool (decide (a = b))) | .neq => some (Value.bool (!decide (a = b))) | _ => none) = some v) :
    Gives c E L ⟨do_, .binOp op t x y t', ty, pos, aft, gd⟩ v := by
  intro a' w he _
  have hgd : (eqGuard op t x y (agg (f a)) (agg (f b))).run c.P w = .ok () w := by cases op <;> simp [eqGuard, agg, hg]
  simp only [execOp, hx a' he, hy a' he, Sem.run_bind, hgd, Result.andThen_ok, Sem.run_pure]
  have hr : ∀ w, (Op.equal t (.agg (f a).toArray) (.agg (f b).toArray)).run c.P w = .ok (decide (a = b)) w := fun w => es.h 9992 a b w
  cases op <;> simp at h <;> subst h <;> simp [binOp, agg, hr]
end
end VK
/- Own framework, part 10: memory that is only read, arrays of plain values, full slice expressions, slices against nil. No conditions. -/
namespace VK
open Go
def RdH (h : Heap) (v : Value) (r : Row) : Prop :=
  r.xs.length = r.n * r.sz ∧ (∀ u ∈ r.xs, u.oneCell' = true) ∧ ∃ a cap, v = .slice a r.n cap ∧ r.n ≤ cap ∧ cap ≤ maxLen ∧
    (r.xs = [] ∨ ∃ b o cs t fr, a = some ⟨b, o, none⟩ ∧ h b = some (.cells cs t fr) ∧ ∀ j u, r.xs[j]? = some u → cs[o + j]? = some u)
theorem RdH.mono {h h' : Heap} {v : Value} {r : Row} (l : HLe h h') (k : RdH h v r) : RdH h' v r := by
  obtain ⟨h1, h2, a, cap, h3, h4, h5, h6⟩ := k
  refine ⟨h1, h2, a, cap, h3, h4, h5, ?_⟩
  rcases h6 with h6 | ⟨b, o, cs, t, fr, e1, e2, e3⟩
  · exact .inl h6
  · exact .inr ⟨b, o, cs, t, fr, e1, l _ _ e2, e3⟩
theorem RdH.rd {w : World} {v : Value} {r : Row} (k : RdH (fun b => w.heap[b]?) v r) : RdW w v r := by
  obtain ⟨h1, h2, a, cap, h3, h4, h5, h6⟩ := k
  refine ⟨h1, h2, a, cap, h3, h4, h5, ?_⟩
  rcases h6 with h6 | ⟨b, o, cs, t, fr, e1, e2, e3⟩
  · exact .inl h6
  · exact .inr ⟨b, o, e1, fun j u hj => by rw [cell_of_row w b (o + j) cs t fr e2]; exact e3 j u hj⟩
def rom (l : List (Value × Row)) : Atom := fun h => ∀ x ∈ l, RdH h x.1 x.2
class InR (l : List (Value × Row)) (v : Value) (r : outParam Row) : Prop where
  h : ∀ h, rom l h → RdH h v r
instance (priority := high) InR.head (v : Value) (r : Row) (l : List (Value × Row)) : InR ((v, r) :: l) v r := ⟨fun _ k => k _ (List.mem_cons_self ..)⟩
instance (priority := low) InR.tail (x : Value × Row) (v : Value) (r : Row) (l : List (Value × Row)) [k : InR l v r] : InR (x :: l) v r := ⟨fun h q => k.h h fun y hy => q y (List.mem_cons_of_mem _ hy)⟩
instance (priority := high) Rd.rom (l : List (Value × Row)) (L : List Atom) (v : Value) (r : Row) [k : InR l v r] : Rd (rom l :: L) v r := ⟨fun _ w hs => by
  obtain ⟨h1, hl, ha⟩ := star_at (Pick.head VK.rom L l) hs.heap
  exact ((k.h h1 ha).mono hl).rd⟩
theorem star_join {A B C : Atom} {L : List Atom} (hC : ∀ g a b, HLe a g → HLe b g → A a → B b → C g) {h : Heap} (hs : star (A :: B :: L) h) : star (C :: L) h := by
  obtain ⟨h1, h2, s, ha, hb⟩ := star_app (A := [A, B]) (B := L) hs
  obtain ⟨g1, g2, ⟨_, i1, i2⟩, hA, hr⟩ := ha
  obtain ⟨k1, k2, ⟨_, j1, _⟩, hB, _⟩ := hr
  exact ⟨h1, h2, s, hC h1 g1 k1 i1 (fun b o e => i2 b o (j1 b o e)) hA hB, hb⟩
theorem sl_rdh {v : Value} {r : Row} {h : Heap} (k : sl v r h) : RdH h v r := by
  obtain ⟨h1, h2, h3⟩ := k
  rcases h3 with ⟨rfl, hn⟩ | ⟨b, cap, cur, fr, rfl, hb, _, hn, hm, hc, ht⟩
  · exact ⟨h1, h2, none, 0, by rw [hn], by omega, by simp [maxLen], .inl (List.eq_nil_of_length_eq_zero (by rw [h1, hn]; simp))⟩
  · refine ⟨h1, h2, _, cap, rfl, hn, hm, .inr ⟨b, 0, cur, r.e, fr, rfl, hb, fun j u hj => ?_⟩⟩
    rw [← ht, List.getElem?_take] at hj
    split at hj
    · rw [Nat.zero_add]; simpa using hj
    · cases hj
theorem Ent.romIn {v : Value} {r : Row} {l : List (Value × Row)} {L : List Atom} : Ent (sl v r :: rom l :: L) (rom ((v, r) :: l) :: L) := fun _ hs => star_join (fun g a b ha hb hA hB => by
  intro x hx
  rcases List.mem_cons.1 hx with rfl | hx
  · exact (sl_rdh hA).mono ha
  · exact (hB x hx).mono hb) hs
theorem Ent.romNil {L : List Atom} : Ent L (rom [] :: L) := fun h hs => ⟨fun _ => none, h, ⟨fun _ => .inl rfl, fun _ _ e => (by cases e), fun _ _ e => e⟩, (fun x hx => by cases hx), hs⟩
theorem Ent.romSub {l l' : List (Value × Row)} {L : List Atom} (k : ∀ h, rom l h → rom l' h) : Ent (rom l :: L) (rom l' :: L) := Ent.atom k
def clipV : Value → Value
  | .slice a n _ => .slice a n n
  | v => v
theorem add_zero' (a : Addr) : a.add 0 = a := by simp [Addr.add]
theorem RdW.clip {w : World} {v : Value} {r : Row} (k : RdW w v r) : RdW w (clipV v) r ∧ ∃ a, clipV v = .slice a r.n r.n := by
  obtain ⟨h1, h2, a, cap, rfl, h4, h5, h6⟩ := k
  exact ⟨⟨h1, h2, a, r.n, rfl, Nat.le_refl _, Nat.le_trans h4 h5, h6⟩, a, rfl⟩
theorem RdH.clip {h : Heap} {v : Value} {r : Row} (k : RdH h v r) : RdH h (clipV v) r := by
  obtain ⟨h1, h2, a, cap, rfl, h4, h5, h6⟩ := k
  exact ⟨h1, h2, a, r.n, rfl, Nat.le_refl _, Nat.le_trans h4 h5, h6⟩
instance {L : List Atom} {v : Value} {r : Row} [rd : Rd L v r] : Rd L (clipV v) r := ⟨fun W0 w hs => (rd.rd W0 w hs).clip.1⟩
instance {l : List (Value × Row)} {v : Value} {r : Row} [k : InR l v r] : InR l (clipV v) r := ⟨fun h q => (k.h h q).clip⟩
section
variable {c : Cx} {k : List KI} {E : Env} {L : List Atom} {all rest : List Oper} {d : Nat} {do_ : Option Nat} {ty : TypeId} {pos : String} {aft : Array Edge} {gd : Option (Nat × Bool)}
theorem g_clip {t e : TypeId} {i : TI} {x xh xm : Operand} {v : Value} {r : Row} {kd kd' : IntKind} [tu : TyU c.P t (.slice e)] [ti : TyI c.P e i] (hx : Evs c E x v) (hh : Evs c E xh (.int kd (r.n : Int))) (hm : Evs c E xm (.int kd' (r.n : Int))) [rd : Rd L v r] :
    Gives c E L ⟨do_, .slice t x none (some xh) (some xm), ty, pos, aft, gd⟩ (clipV v) := fun a w he hs => by
  obtain ⟨_, _, ad, cap, rfl, h4, _, _⟩ := rd.rd _ w hs
  have : ∀ (ad : Option Addr), (if r.n = 0 then ad else ad.map (·.add 0)) = ad := fun ad => by split <;> simp [add_zero']
  have h4' : (r.n : Int) ≤ (cap : Int) := by omega
  simp [execOp, hx a he, hh a he, hm a he, Instr.sliceAt, Instr.slice, run_underlying tu.h, Instr.sliceBounds, Instr.sliceBound, asIntOf, run_sizeOfI ti, clipV, this, h4]
def isNilV : Value → Bool
  | .slice a _ _ => a.isNone
  | _ => false
theorem g_snil {op : BinOp} {t t' e : TypeId} {x y : Operand} {v u : Value} {r : Row} [tu : TyU c.P t (.slice e)] (hx : Evs c E x v) (hy : Evs c E y (.slice none 0 0)) [rd : Rd L v r]
    (h : (match op with | .eql => some (Value.bool (isNilV v)) | .neq => some (Value.bool (!isNilV v)) | _ => none) = some u) :
    Gives c E L ⟨do_, .binOp op t x y t', ty, pos, aft, gd⟩ u := fun a w he hs => by
  obtain ⟨_, _, ad, cap, rfl, h4, _, _⟩ := rd.rd _ w hs
  have hr0 : ∀ z w, (Op.equalIn (z + 1) t (.slice ad r.n cap) (.slice none 0 0)).run c.P w = .ok ad.isNone w := fun z w => by
    cases ad <;> simp [Op.equalIn, run_underlying tu.h]
  have hr : ∀ w, (Op.equal t (.slice ad r.n cap) (.slice none 0 0)).run c.P w = .ok ad.isNone w := fun w => hr0 9999 w
  have hgd : (eqGuard op t x y (.slice ad r.n cap) (.slice none 0 0)).run c.P w = .ok () w := by cases op <;> simp [eqGuard]
  simp only [execOp, hx a he, hy a he, Sem.run_bind, hgd, Result.andThen_ok, Sem.run_pure]
  cases op <;> simp only [Option.some.injEq, reduceCtorEq] at h <;> subst h <;> simp [binOp, hr, isNilV]
theorem r_isnil {α : Type} {f : α → Value} {e : TypeId} {v : Value} {l : List α} {x : Code} (rd : Rd L v (mrow f e l)) (h0 : isNilV v = true) (h : l = [] → Run c x k E L) : Run c x k E L := fun a w he hs => by
  obtain ⟨_, _, ad, cap, rfl, _, _, h6⟩ := rd.rd _ w hs
  refine h ?_ a w he hs
  rcases h6 with h6 | ⟨b, o, rfl, _⟩
  · simpa [mrow] using h6
  · simp [isNilV] at h0
theorem run_append_rd {P : Program} {W0 w : World} {L : List Atom} {t u e : TypeId} {ty : TypeId} {i : TI} {v x : Value} {r : Row} {m : Nat} {ys : List Value}
    (tu : TyU P t (.slice e)) (ti : TyI P e i) (hs : St W0 L w) (rd : RdW w v r) (hcap : ∃ a, v = .slice a r.n r.n) (hsz : i.size = r.sz) (hzs : (cellsL i.zero).length = i.size)
    (src : Src P u r.sz x m ys w) (hb : (r.n + m) * i.bytes ≤ 140737488355328) (hb0 : 0 < i.bytes) :
    (m = 0 ∧ (Builtin.append_ #[t, u] ty #[v, x]).run P w = .ok v w) ∨ (0 < m ∧ ∃ v' w', (Builtin.append_ #[t, u] ty #[v, x]).run P w = .ok v' w' ∧ St W0 (sl v' ⟨e, r.sz, r.n + m, r.xs ++ ys⟩ :: L) w') := by
  obtain ⟨info, hi, hi1, hi2, hi3⟩ := ti.h
  obtain ⟨du, hdu, hint⟩ := src.noint
  obtain ⟨a, rfl⟩ := hcap
  have g1 := rd.1
  have g2 := rd.2.1
  have hmax : r.n + m ≤ 140737488355328 := Nat.le_trans (Nat.le_mul_of_pos_right _ hb0) hb
  rcases Nat.eq_zero_or_pos m with hm | hm
  · subst hm
    refine .inl ⟨rfl, ?_⟩
    have hy0 : ys = [] := List.eq_nil_of_length_eq_zero (by rw [src.size]; simp)
    have hc := src.cells w (fun _ => rfl)
    cases a with
    | none => rcases hint with rfl | ⟨e', rfl⟩ <;> simp [Builtin.append_, run_underlying tu.h, run_underlying hdu, run_sizeOfI ti, hsz, src.len, hc, hy0]
    | some ad => rcases hint with rfl | ⟨e', rfl⟩ <;> simp [Builtin.append_, run_underlying tu.h, run_underlying hdu, run_sizeOfI ti, hsz, src.len, hc, hy0, storeCells]
  · refine .inr ⟨hm, ?_⟩
    have hone : ∀ y ∈ r.xs ++ ys, y.oneCell' = true := fun y hy => by
      rcases List.mem_append.1 hy with hy | hy
      · exact g2 y hy
      · exact src.one y hy
    have hlen : (r.xs ++ ys).length = (r.n + m) * r.sz := by rw [List.length_append, g1, src.size, Nat.add_mul]
    have hge := grownCap_ge w (r.n + m) r.n e
    have hle : grownCap w (r.n + m) r.n e ≤ maxLen := grownCap_le_maxLen w _ r.n e (by simp only [maxLen]; omega)
    have hzc : (Builtin.zeroCells i.zero.cells (grownCap w (r.n + m) r.n e - (r.n + m))).size = (grownCap w (r.n + m) r.n e - (r.n + m)) * r.sz := by
      rw [size_zeroCells', ← hsz, ← hzs]; simp [cellsL]
    have hcs : ((r.xs ++ ys).toArray ++ Builtin.zeroCells i.zero.cells (grownCap w (r.n + m) r.n e - (r.n + m))).size = grownCap w (r.n + m) r.n e * r.sz := by
      rw [Array.size_append, List.size_toArray, hlen, hzc, ← Nat.add_mul]
      congr 1; omega
    have hgf := growslice_fits (need := r.n + m) (old := r.n) (by omega) hb
    refine ⟨.slice (some ⟨w.heap.size, 0, none⟩) (r.n + m) (grownCap w (r.n + m) r.n e), w.drew.alloc (.cells ((r.xs ++ ys).toArray ++ Builtin.zeroCells i.zero.cells (grownCap w (r.n + m) r.n e - (r.n + m))) e), ?_, ?_⟩
    · have hc := src.cells w.drew (fun _ => rfl)
      have hold : (Builtin.firstCells r.sz r.n (.slice a r.n r.n)).run P w.drew = .ok r.xs.toArray w.drew := by
        have rd' : RdW w.drew (.slice a r.n r.n) r := by
          obtain ⟨k1, k2, a', cap', k3, k4, k5, k6⟩ := rd
          refine ⟨k1, k2, a', cap', k3, k4, k5, ?_⟩
          rcases k6 with k6 | ⟨b, o, k6, k7⟩
          · exact .inl k6
          · exact .inr ⟨b, o, k6, fun j u hj => by rw [World.cell?_drew]; exact k7 j u hj⟩
        have := run_firstCells_rd (P := P) rd' (Nat.le_refl r.n)
        rw [this, List.take_of_length_le (by rw [g1]; exact Nat.le_refl _)]
      have hroom : ¬ r.n + m ≤ r.n := by omega
      have h48 : ¬ (281474976710656 < Builtin.nextslicecap (r.n + m) r.n * i.bytes) := by omega
      have h63 : ¬ ((9223372036854775807 : Int) < ((r.n + m : Nat) : Int)) := by omega
      have h63' : ¬ ((9223372036854775807 : Int) < (r.n : Int) + (m : Int)) := by omega
      have assoc : ∀ (a b : List Value) (z : Array Value), a.toArray ++ (b.toArray ++ z) = (a ++ b).toArray ++ z := fun a b z => by
        apply Array.toList_inj.1; simp
      rcases hint with rfl | ⟨e', rfl⟩ <;> simp [Builtin.append_, run_underlying tu.h, run_underlying hdu, run_sizeOfI ti, run_zeroI ti, typeInfo, hi, hi2, hsz, src.len, hc, hroom, h48, h63', Question.forced, hold, newRow, grownCap, assoc]
    · refine hs.drew.alloc _ ⟨hlen, hone, .inr ⟨w.heap.size, grownCap w (r.n + m) r.n e, _, (0, 0), rfl, by simp, .inl rfl, hge, hle, hcs, ?_⟩⟩
      rw [Array.toList_append, ← hlen]
      simp only [List.take_left]
theorem o_appRom {α : Type} {f : α → Value} {t u e e' e2 : TypeId} {i : TI} {x y : Operand} {v vy : Value} {l m : List α} {rs : List (Value × Row)} {g : Atom → List Atom} [tu : TyU c.P t (.slice e)] [uu : TyU c.P u (.slice e')] [ti : TyI c.P e i]
    (hx : Evs c E x (clipV v)) (hy : Evs c E y vy) [p : Pick rom L rs g] [ir : InR rs v (mrow f e l)] [rd : Rd L vy (mrow f e2 m)] (hsz : i.size = 1) (hzs : (cellsL i.zero).length = i.size) (hb0 : Nat.blt 0 i.bytes = true)
    (hb : (l.length + m.length) * i.bytes ≤ 140737488355328) (hd : Nat.blt d c.n = true)
    (hk : ∀ v', Ops c all rest k ((d, .v v') :: E) (g (rom ((v', mrow f e (l ++ m)) :: rs)))) :
    Ops c all (⟨some d, .call { callee := .builtin .append, args := #[x, y], argTypes := #[t, u] }, ty, pos, aft, none⟩ :: rest) k E L := by
  refine o_run (fun a w hE hs => ?_) hd
  obtain ⟨R, hin, hout⟩ := star_pick p
  have hs' := hs.ent hin
  obtain ⟨h1, hl, ha⟩ := star_at p hs.heap
  have rdv : RdW w v (mrow f e l) := ((ir.h h1 ha).mono hl).rd
  obtain ⟨rdc, hcap⟩ := rdv.clip
  have src := src_rd (P := c.P) uu (rd.rd _ w hs)
  rcases run_append_rd (ty := ty) (i := i) tu ti hs' rdc hcap (by rw [hsz]; rfl) hzs (by exact src) hb (by simpa using hb0) with ⟨hm, hr⟩ | ⟨hm, v', w', hr, hst⟩
  · have hm0 : m = [] := List.eq_nil_of_length_eq_zero hm
    subst hm0
    refine ⟨clipV v, w, g (rom ((clipV v, mrow f e (l ++ [])) :: rs)), by simp [execOp, resolve, invoke, builtin, hx a hE, hy a hE, hr], hs'.ent ((Ent.atom fun h q => ?_).trans (hout _)), hk _⟩
    intro z hz
    rcases List.mem_cons.1 hz with rfl | hz
    · simp only [List.append_nil]; exact (ir.h h q).clip
    · exact q z hz
  · refine ⟨v', w', g (rom ((v', mrow f e (l ++ m)) :: rs)), by simp [execOp, resolve, invoke, builtin, hx a hE, hy a hE, hr], (hst.ent ?_).ent (hout _), hk _⟩
    have e1 : (⟨e, (mrow f e l).sz, (mrow f e l).n + m.length, (mrow f e l).xs ++ (mrow f e2 m).xs⟩ : Row) = mrow f e (l ++ m) := by simp [mrow]
    rw [e1]
    exact Ent.romIn
theorem o_appRomF {α : Type} {f : α → List Value} {sz : Nat} {t u e e' e2 : TypeId} {i : TI} {x y : Operand} {v vy : Value} {l m : List α} {rs : List (Value × Row)} {g : Atom → List Atom} [tu : TyU c.P t (.slice e)] [uu : TyU c.P u (.slice e')] [ti : TyI c.P e i]
    (hx : Evs c E x (clipV v)) (hy : Evs c E y vy) [p : Pick rom L rs g] [ir : InR rs v (frow f sz e l)] [rd : Rd L vy (frow f sz e2 m)] (hsz : i.size = sz) (hzs : (cellsL i.zero).length = i.size) (hb0 : Nat.blt 0 i.bytes = true)
    (hb : (l.length + m.length) * i.bytes ≤ 140737488355328) (hd : Nat.blt d c.n = true)
    (hk : ∀ v', Ops c all rest k ((d, .v v') :: E) (g (rom ((v', frow f sz e (l ++ m)) :: rs)))) :
    Ops c all (⟨some d, .call { callee := .builtin .append, args := #[x, y], argTypes := #[t, u] }, ty, pos, aft, none⟩ :: rest) k E L := by
  refine o_run (fun a w hE hs => ?_) hd
  obtain ⟨R, hin, hout⟩ := star_pick p
  have hs' := hs.ent hin
  obtain ⟨h1, hl, ha⟩ := star_at p hs.heap
  have rdv : RdW w v (frow f sz e l) := ((ir.h h1 ha).mono hl).rd
  obtain ⟨rdc, hcap⟩ := rdv.clip
  have src := src_rd (P := c.P) uu (rd.rd _ w hs)
  rcases run_append_rd (ty := ty) (i := i) tu ti hs' rdc hcap hsz hzs (by exact src) hb (by simpa using hb0) with ⟨hm, hr⟩ | ⟨hm, v', w', hr, hst⟩
  · have hm0 : m = [] := List.eq_nil_of_length_eq_zero hm
    subst hm0
    refine ⟨clipV v, w, g (rom ((clipV v, frow f sz e (l ++ [])) :: rs)), by simp [execOp, resolve, invoke, builtin, hx a hE, hy a hE, hr], hs'.ent ((Ent.atom fun h q => ?_).trans (hout _)), hk _⟩
    intro z hz
    rcases List.mem_cons.1 hz with rfl | hz
    · simp only [List.append_nil]; exact (ir.h h q).clip
    · exact q z hz
  · refine ⟨v', w', g (rom ((v', frow f sz e (l ++ m)) :: rs)), by simp [execOp, resolve, invoke, builtin, hx a hE, hy a hE, hr], (hst.ent ?_).ent (hout _), hk _⟩
    have e1 : (⟨e, (frow f sz e l).sz, (frow f sz e l).n + m.length, (frow f sz e l).xs ++ (frow f sz e2 m).xs⟩ : Row) = frow f sz e (l ++ m) := by simp [frow]
    rw [e1]
    exact Ent.romIn
class AsM {α : Type} (f : α → Value) (v : Value) (a : outParam α) : Prop where
  h : v = f a
def i64v (n : Int) : Value := .int .i64 n
instance (n : Int) : AsM i64v (.int .i64 n) n := ⟨rfl⟩
instance (l : List UInt8) : AsM str (str l) l := ⟨rfl⟩
instance (L : List Atom) (n : Int) : OneC L (i64v n) := ⟨fun _ _ _ => rfl⟩
end
section
variable {c : Cx} {k : List KI} {E : Env} {L : List Atom} {all ops : List Oper}
theorem o_sure {t : Nat} {g : Bool} {v : Value} (h : lk E t = some (.gv g v)) (hg : g = true) (hk : Ops c all ops k ((t, .v v) :: E) L) : Ops c all ops k E L := by
  unfold Ops at *
  intro a w he hs
  refine hk a w ⟨he.size, he.defers, fun t' x hx => ?_⟩ hs
  simp only [lk] at hx
  cases hb : Nat.beq t t' with
  | true =>
    rw [hb] at hx
    have : t = t' := Nat.eq_of_beq_eq_true hb
    subst this
    simp at hx
    subst hx
    have := he.known t _ h
    rw [this]
    simp [EV.val, hg]
  | false => rw [hb] at hx; exact he.known t' x (by simpa using hx)
end
section
variable {c : Cx} {k : List KI} {E : Env} {L : List Atom} {all rest : List Oper} {d : Nat} {ty : TypeId} {pos : String} {aft : Array Edge}
end
def pcV (p : Value × List UInt8) : Value := p.1
instance : Inhabited (Value × List UInt8) := ⟨(.slice none 0 0, [])⟩
class PickR {α : Type} (K : α → Atom) (L : List Atom) (x : outParam α) (R : outParam (List Atom)) : Prop where
  perm : L.Perm (K x :: R)
instance (priority := high) PickR.head {α : Type} (K : α → Atom) (L : List Atom) (x : α) : PickR K (K x :: L) x L := ⟨.refl _⟩
instance (priority := low) PickR.tail {α : Type} (K : α → Atom) (A : Atom) (L R : List Atom) (x : α) [h : PickR K L x R] : PickR K (A :: L) x (A :: R) := ⟨(h.perm.cons A).trans (.swap _ _ _)⟩
theorem PickR.ent {α : Type} {K : α → Atom} {L R : List Atom} {x : α} [h : PickR K L x R] : Ent L (K x :: R) := Ent.perm h.perm
theorem pick3 {α β γ : Type} {K1 : α → Atom} {K2 : β → Atom} {K3 : γ → Atom} {L R1 R2 R3 : List Atom} {x : α} {y : β} {z : γ} [h1 : PickR K1 L x R1] [h2 : PickR K2 R1 y R2] [h3 : PickR K3 R2 z R3] : Ent L (K1 x :: K2 y :: K3 z :: R3) :=
  (Ent.perm h1.perm).trans (Ent.cons ((Ent.perm h2.perm).trans (Ent.cons (Ent.perm h3.perm))))
end VK
/- Own framework, part 11: ranges over functions: their record, their rounds, calls of yield. No conditions. -/
namespace VK
open Go
def objA (b : Nat) (o : Obj) : Atom := fun h => h b = some o
structure RecD where
  fn : FuncId
  tmps : Array Value
  ps : Array Tmp
  asg : Code
  body : Code
  d : Nat
def endR (R : Value → List Atom → Prop) (W0 : World) : Ending → World → Prop := fun e w => ∃ v L, e = .returned v ∧ R v L ∧ St W0 L w
def Yields (P : Program) (l : Nat) (args : List Value) (L : List Atom) (R : Value → List Atom → Prop) : Prop :=
  ∀ W0 w, St W0 L w → ∃ fn tmps assign body, (Instr.yield l args.toArray).run P w = .ok (.round l fn tmps assign body) w ∧ RoundIn Fence.wide 0 P l fn tmps assign body w (endR R W0)
section
variable {c : Cx} {k : List KI} {E : Env} {L : List Atom} {all rest : List Oper} {d : Nat} {ty : TypeId} {pos : String} {aft : Array Edge}
theorem kq_D {D : List Deferred} : ∀ (k : List KI) (Q : Exit → Act → World → Prop), kq { c with D := D } k Q = kq c k Q
  | [], _ => rfl
  | .code _ :: k, Q => by simp only [kq, kq_D k Q]; rfl
  | .blk _ :: k, Q => by simp only [kq, kq_D k Q]
  | .loop _ :: k, Q => by simp only [kq, kq_D k Q]
  | .draw _ _ _ :: k, Q => by simp only [kq, kq_D k Q]
  | .held _ _ _ _ :: k, Q => by simp only [kq, kq_D k Q]
  | .heldz _ _ _ _ _ :: k, Q => by simp only [kq, kq_D k Q]
end
end VK
/- Own framework, part 12: panics that leave a function, deferred calls, recover. No conditions. -/
namespace VK
open Go
def FnP (P : Program) (f : FuncId) (args : List Value) (L : List Atom) (R : Value → List Atom → Prop) (RP : List PanicEntry → List Atom → Prop) : Prop :=
  ∀ W0 w, St W0 L w → Calls P f args.toArray w fun e w' => (∃ v L', e = .returned v ∧ R v L' ∧ St W0 L' w') ∨ ∃ ch L', e = .panicked ch ∧ RP ch L' ∧ St W0 L' w'
section
variable {P : Program} {f : FuncId} {args : List Value} {L L' : List Atom} {R R' : Value → List Atom → Prop} {RP RP' : List PanicEntry → List Atom → Prop}
theorem Fn.toP (h : Fn P f args L R) : FnP P f args L R RP := fun W0 w hs => (h W0 w hs).mono fun _ _ h => .inl h
theorem FnP.mono (h : FnP P f args L R RP) (hr : ∀ v L', R v L' → R' v L') (hp : ∀ c L', RP c L' → RP' c L') : FnP P f args L R' RP' := fun W0 w hs => (h W0 w hs).mono fun _ _ h => by
  rcases h with ⟨v, L', he, hR, hS⟩ | ⟨c, L', he, hR, hS⟩
  · exact .inl ⟨v, L', he, hr _ _ hR, hS⟩
  · exact .inr ⟨c, L', he, hp _ _ hR, hS⟩
theorem FnP.pre (h : FnP P f args L' R RP) (e : Ent L L') : FnP P f args L R RP := fun W0 w hs => h W0 w (hs.ent e)
theorem FnP.exA {α : Type} {X : α → List Atom} (h : ∀ x, FnP P f args (X x ++ L) R RP) : FnP P f args (exA X :: L) R RP := fun W0 w hs => by
  obtain ⟨x, hx⟩ := star_exA.1 hs.heap
  exact h x W0 w ⟨hs.os, hs.tape, hs.output, hx⟩
theorem FnP.atPick {r : Nat} {c : Blk} {g : Atom → List Atom} [pk : Pick (blk r) L c g] (h : FnP P f args (g (blk r c)) R RP) : FnP P f args L R RP := by rw [pk.eq]; exact h
end
theorem fn_introP {P : Program} {f : FuncId} {fn : Func} {n : Nat} {code : Code} {args : List Value} {L : List Atom} {R : Value → List Atom → Prop} {RP : List PanicEntry → List Atom → Prop}
    (hf : P.funcs[f]? = some fn) (hb : fn.body = some code) (hn : fn.ntmps = n) (ha : Nat.ble args.length n = true)
    (h : ∀ W0, Run { P := P, n := n, fn := fn, R := R, W0 := W0, RP := RP } code [] (argE 0 args) L) : FnP P f args L R RP := by
  intro W0 w hs
  refine (fn_callsP (c := { P := P, n := n, fn := fn, R := R, W0 := W0, RP := RP }) hf hb rfl ?_).mono fun e w' h => h
  refine h W0 _ w ⟨?_, rfl, fun t v hv => ?_⟩ hs
  · have : args.length ≤ n := by simpa using ha
    simp only [hn, Array.size_append, List.size_toArray, Array.size_replicate]
    omega
  · obtain ⟨_, h2⟩ := lk_argE hv
    simp only [Nat.sub_zero] at h2
    have hlt : t < args.length := (List.getElem?_eq_some_iff.1 h2).1
    simp only [Array.getD_eq_getD_getElem?]
    rw [Array.getElem?_append_left (by simpa using hlt)]
    simp [h2]
def Pan (c : Cx) (E : Env) (ch : List PanicEntry) (L : List Atom) : Prop := ∀ a w, EnvOk c.D c.n E a → St c.W0 L w → c.Q (.panic ch) a w
section
variable {c : Cx} {k : List KI} {E : Env} {L : List Atom} {all rest : List Oper} {d : Nat} {do_ : Option Nat} {ty : TypeId} {pos : String} {aft : Array Edge} {gd : Option (Nat × Bool)}
theorem pan_here {ch : List PanicEntry} {L' : List Atom} (hL : Ent L L') (h : c.RP ch L') (hD : c.D = [] := by rfl) (hQ : c.Qo = none := by rfl) : Pan c E ch L := by
  intro a w he hs
  unfold Cx.Q
  rw [hQ]
  exact ⟨he.defers.trans hD, L', h, hs.ent hL⟩
theorem Pan.ent {ch : List PanicEntry} {L' : List Atom} (hL : Ent L L') (h : Pan c E ch L') : Pan c E ch L := fun a w he hs => h a w he (hs.ent hL)
theorem kq_pan {Q : Exit → Act → World → Prop} {ch : List PanicEntry} {a : Act} {w : World} (h : Q (.panic ch) a w) : ∀ {k : List KI}, kq c k Q (.panic ch) a w
  | [] => h
  | .blk _ :: k => kq_pan (k := k) h
  | .code _ :: k => kq_pan (k := k) h
  | .loop _ :: k => kq_pan (k := k) h
  | .draw _ _ _ :: k => kq_pan (k := k) h
  | .held _ _ _ _ :: k => kq_pan (k := k) h
  | .heldz _ _ _ _ _ :: k => kq_pan (k := k) h
theorem m_enterP {Q : Exit → Act → World → Prop} {a : Act} {w : World} {o : Oper} {f : FuncId} {args : Array Value} {w' : World} (hg : o.guard = none) (hr : (execOp a.eval o).run c.P w = .ok (.enter f args) w') {R : Ending → World → Prop} (hc : Calls c.P f args w' R)
    (h : ∀ e w'', R e w'' → (∃ v, e = .returned v ∧ c.wpL all Q rest (a.put o.dst v) w'') ∨ ∃ ch, e = .panicked ch ∧ Q (.panic ch) a w'') (hm : c.mode = none) : c.wpL all Q (o :: rest) a w := by
  unfold Cx.wpL at *
  simp only [hm] at h ⊢
  refine wpList_plain hg fun K hK => ?_
  simp only [Oper.wp, hr, Oper.upon]
  refine hc.mono fun e w'' he => ?_
  rcases h e w'' he with ⟨v, rfl, hk⟩ | ⟨ch, rfl, hk⟩
  · exact hK _ _ hk
  · exact hk
theorem o_callP {f : FuncId} {as : Array Operand} {ats : Array TypeId} {vs : List Value} {R : Value → List Atom → Prop} {RP : List PanicEntry → List Atom → Prop} [co : CallOk c.P f] (ha : evs E as.toList = some vs) (L1 : List Atom) (hL : Ent L L1) (hf : FnP c.P f vs L1 R RP) (hd : Nat.blt d c.n = true)
    (hp : ∀ ch L', RP ch L' → Pan c E ch L') (hk : ∀ v L', R v L' → Ops c all rest k ((d, .v v) :: E) L') (hm : c.mode = none := by rfl) : Ops c all (⟨some d, .call { callee := .value (.func f), args := as, argTypes := ats }, ty, pos, aft, none⟩ :: rest) k E L := by
  intro a w he hs
  have hargs : as.map a.eval = vs.toArray := by
    have := he.evs ha
    apply Array.toList_inj.1
    simpa using this
  have hr : (execOp a.eval ⟨some d, .call { callee := .value (.func f), args := as, argTypes := ats }, ty, pos, aft, none⟩).run c.P w = .ok (.enter f vs.toArray) w := by
    rw [execOp_call_go, hargs, co.h]
    simp
  refine m_enterP rfl hr (hf c.W0 w (hs.ent hL)) ?_ hm
  rintro e w' (⟨v, L', he', hR, hS⟩ | ⟨ch, L', he', hR, hS⟩)
  · exact .inl ⟨v, he', hk v L' hR _ w' (he.put d (.v v) hd) hS⟩
  · exact .inr ⟨ch, he', kq_pan (hp ch L' hR a w' he hS)⟩
theorem o_callVP {f : FuncId} {x : Operand} {fs cs : Array Value} {as : Array Operand} {ats : Array TypeId} {vs : List Value} {R : Value → List Atom → Prop} {RP : List PanicEntry → List Atom → Prop} [co : CallOk c.P f] (hx : ev E x = some (.func (.func f) fs cs)) (ha : evs E as.toList = some vs) (L1 : List Atom) (hL : Ent L L1) (hf : FnP c.P f (fs.toList ++ vs ++ cs.toList) L1 R RP) (hd : Nat.blt d c.n = true)
    (hp : ∀ ch L', RP ch L' → Pan c E ch L') (hk : ∀ v L', R v L' → Ops c all rest k ((d, .v v) :: E) L') (hm : c.mode = none := by rfl) : Ops c all (⟨some d, .call { callee := .value x, args := as, argTypes := ats }, ty, pos, aft, none⟩ :: rest) k E L := by
  intro a w he hs
  have hargs : as.map a.eval = vs.toArray := by
    have := he.evs ha
    apply Array.toList_inj.1
    simpa using this
  have hx' := he.ev hx
  have hargs2 : fs ++ vs.toArray ++ cs = (fs.toList ++ vs ++ cs.toList).toArray := by
    apply Array.toList_inj.1
    simp
  have hr : (execOp a.eval ⟨some d, .call { callee := .value x, args := as, argTypes := ats }, ty, pos, aft, none⟩).run c.P w = .ok (.enter f (fs.toList ++ vs ++ cs.toList).toArray) w := by
    simp only [execOp, resolve, hx', hargs, Deferred.ofValue, invoke, Sem.run_bind, Sem.run_pure, Result.andThen_ok, hargs2, co.h]
  refine m_enterP rfl hr (hf c.W0 w (hs.ent hL)) ?_ hm
  rintro e w' (⟨v, L', he', hR, hS⟩ | ⟨ch, L', he', hR, hS⟩)
  · exact .inl ⟨v, he', hk v L' hR _ w' (he.put d (.v v) hd) hS⟩
  · exact .inr ⟨ch, he', kq_pan (hp ch L' hR a w' he hS)⟩
theorem o_panic {x : Operand} {t : TypeId} {v : Value} (hx : Evs c E x (.iface t v)) (hp : Pan c E [{ v := .iface t v, recovered := false }] L) (hm : c.mode = none := by rfl) : Ops c all (⟨do_, .panic x, ty, pos, aft, none⟩ :: rest) k E L := by
  intro a w he hs
  have h := hp a w he hs
  unfold Cx.wpL
  simp only [hm]
  refine wpList_plain rfl fun K hK => ?_
  have hr : (execOp a.eval ⟨do_, .panic x, ty, pos, aft, none⟩).run c.P w = .halt (.panic (.iface t v)) w := by
    have e : (Instr.panic (Value.iface t v)).run c.P w = .halt (.panic (.iface t v)) w := rfl
    simp [execOp, hx a he, e]
  simp only [Oper.wp, hr, Oper.upon]
  exact kq_pan h
def noIface : TypeDesc → Bool
  | .interface _ => false
  | _ => true
theorem g_iface {t : TypeId} {ud : TypeDesc} {x : Operand} {v : Value} [tu : TyU c.P t ud] (hx : Evs c E x v) (hu : noIface ud = true) : Gives c E L ⟨do_, .makeInterface t x, ty, pos, aft, gd⟩ (.iface t v) := fun a w he _ => by
  cases ud <;> first
    | (simp [noIface] at hu; done)
    | simp [execOp, hx a he, Instr.makeInterface, run_underlying tu.h]
theorem g_assert {t t' : TypeId} {ud : TypeDesc} {x : Operand} {v : Value} [tu : TyU c.P t ud] (hx : Evs c E x (.iface t v)) (hu : noIface ud = true) : Gives c E L ⟨do_, .typeAssert x t' t true, ty, pos, aft, gd⟩ (.tuple #[v, .bool true]) := fun a w he _ => by
  cases ud <;> first
    | (simp [noIface] at hu; done)
    | simp [execOp, hx a he, Instr.typeAssert, run_underlying tu.h]
theorem o_defer {cc : Call} {df : Deferred} (hr : ∀ a w, EnvOk c.D c.n E a → (resolve a.eval cc ty).run c.P w = .ok df w) (hk : Ops { c with D := df :: c.D } all rest k E L) (hm : c.mode = none := by rfl) : Ops c all (⟨none, .defer cc, ty, pos, aft, none⟩ :: rest) k E L := by
  intro a w he hs
  have h := hk { a with defers := df :: a.defers } w ⟨he.size, by show df :: a.defers = _; rw [he.defers], he.known⟩ hs
  rw [kq_D] at h
  unfold Cx.wpL at h ⊢
  simp only [hm] at h ⊢
  refine wpList_plain rfl fun K hK => ?_
  have hr : (execOp a.eval ⟨none, .defer cc, ty, pos, aft, none⟩).run c.P w = .ok (.defer df) w := by
    simp [execOp, hr a w he]
  simp only [Oper.wp, hr, Oper.upon]
  exact hK _ _ h
end
theorem fn_introD {P : Program} {f : FuncId} {fn : Func} {n : Nat} {code : Code} {args : List Value} {L : List Atom} {R : Value → List Atom → Prop}
    (hf : P.funcs[f]? = some fn) (hb : fn.body = some code) (hn : fn.ntmps = n) (ha : Nat.ble args.length n = true)
    (h : ∀ W0, Run { P := P, n := n, fn := fn, R := R, W0 := W0, Qo := some (bodyPostD P fn (endR R W0)) } code [] (argE 0 args) L) : Fn P f args L R := by
  intro W0 w hs
  refine calls_of_wp_defers hf hb ?_
  refine h W0 _ w ⟨?_, rfl, fun t v hv => ?_⟩ hs
  · have : args.length ≤ n := by simpa using ha
    simp only [hn, Array.size_append, List.size_toArray, Array.size_replicate]
    omega
  · obtain ⟨_, h2⟩ := lk_argE hv
    simp only [Nat.sub_zero] at h2
    have hlt : t < args.length := (List.getElem?_eq_some_iff.1 h2).1
    simp only [Array.getD_eq_getD_getElem?]
    rw [Array.getElem?_append_left (by simpa using hlt)]
    simp [h2]
def FnD (P : Program) (f : FuncId) (args : List Value) (u : FrameMode) (L : List Atom) (R : FrameMode → List Atom → Prop) : Prop :=
  ∀ W0 w, St W0 L w → CallsD P f args.toArray u w fun e u' w' => ∃ v L', e = .returned v ∧ R u' L' ∧ St W0 L' w'
section
variable {c : Cx} {k : List KI} {E : Env} {L : List Atom}
theorem leave_one {a : Act} {w : World} {u : FrameMode} {g : FuncId} {cap : List Value} {L2 : List Atom} {rs : List ResultVar} {vs : List Value} [co : CallOk c.P g] (hD : a.defers = [{ target := .fn (.func g) cap.toArray, args := #[] }]) (hu : u ≠ .run)
    (hf : FnD c.P g cap u L (fun u' L' => settle u' = .returning ∧ L' = L2)) (hs : St c.W0 L w) (hr : c.fn.results = rs.toArray) (he : EnvOk c.D c.n E a) (hv : ResOk c E L2 rs vs) (L' : List Atom) (hL : Ent L2 L') (h : c.R (tupV vs) L') :
    Leaves c.P c.fn a.tmps (endR c.R c.W0) a.defers u w := by
  rw [hD]
  refine leaves_cons (f := g) (args := cap.toArray) hu ?_ ((hf c.W0 w hs).mono ?_)
  · simp only [invoke, co.h]
    simp
  · rintro e u' w' ⟨v, L3, rfl, ⟨h1, rfl⟩, hS⟩
    show Leaves _ _ _ _ [] (settle u') w'
    rw [h1]
    exact ⟨_, resOk_run hr hv he hS, _, L', rfl, h, hS.ent hL⟩
theorem r_retF {g : FuncId} {cap : List Value} {L1 L2 : List Atom} {rs : List ResultVar} {vs : List Value} [co : CallOk c.P g] (hL1 : Ent L L1) (hf : FnD c.P g cap .returning L1 (fun u' L' => settle u' = .returning ∧ L' = L2)) (hr : c.fn.results = rs.toArray) (hv : ResOk c E L2 rs vs) (L' : List Atom) (hL : Ent L2 L') (h : c.R (tupV vs) L')
    (hD : c.D = [{ target := .fn (.func g) cap.toArray, args := #[] }] := by rfl) (hQ : c.Qo = some (bodyPostD c.P c.fn (endR c.R c.W0)) := by rfl) : Run c .ret k E L := by
  intro a w he hs
  refine m_ret (kq_ret ?_)
  unfold Cx.Q
  rw [hQ]
  exact leave_one (he.defers.trans hD) (by simp) hf (hs.ent hL1) hr he hv L' hL h
theorem pan_F {ch : List PanicEntry} {g : FuncId} {cap : List Value} {L1 L2 : List Atom} {rs : List ResultVar} {vs : List Value} [co : CallOk c.P g] (hL1 : Ent L L1) (hf : FnD c.P g cap (.panicking ch) L1 (fun u' L' => settle u' = .returning ∧ L' = L2)) (hr : c.fn.results = rs.toArray) (hv : ResOk c E L2 rs vs) (L' : List Atom) (hL : Ent L2 L') (h : c.R (tupV vs) L')
    (hD : c.D = [{ target := .fn (.func g) cap.toArray, args := #[] }] := by rfl) (hQ : c.Qo = some (bodyPostD c.P c.fn (endR c.R c.W0)) := by rfl) : Pan c E ch L := by
  intro a w he hs
  unfold Cx.Q
  rw [hQ]
  exact leave_one (he.defers.trans hD) (by simp) hf (hs.ent hL1) hr he hv L' hL h
end
end VK
/- Own framework, the end: what is not to be opened from here on. No conditions. -/
namespace VK
attribute [irreducible] FnP FnD Pan Run Ops Cont Gives Pures Evs QOps QGives Fn Ent sl blk exA SetsTo RdW elemP ResOk subV rom clipV isNilV objA Yields
end VK
