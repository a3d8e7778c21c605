/- Nodes, plain: which are right, their bytes, what bytes mean. Conditions: none. -/
import Derived.Test.YtpknikpkepcbcaaWireL
import Derived.Test.YtpknikpkepcbcaaVp
namespace VK
open Go Go.Proofs
set_option linter.unusedSimpArgs false
set_option linter.unusedVariables false
set_option maxRecDepth 100000
set_option maxHeartbeats 40000000
/-! ### the order of texts -/
theorem bl_total : ∀ x y : List UInt8, (!Op.bytesLess x y) = (Op.bytesLess y x || decide (y = x))
  | [], [] => by simp [Op.bytesLess]
  | [], _ :: _ => by simp [Op.bytesLess]
  | _ :: _, [] => by simp [Op.bytesLess]
  | a :: x, b :: y => by
    have ih := bl_total x y
    simp only [Op.bytesLess]
    by_cases h1 : a < b
    · have h2 : ¬ b < a := fun h => by have := UInt8.lt_asymm h1; exact this h
      have h3 : a ≠ b := UInt8.ne_of_lt h1
      simp [h1, h2, h3, Ne.symm h3]
    · by_cases h2 : b < a
      · have h3 : b ≠ a := UInt8.ne_of_lt h2
        simp [h1, h2, h3, Ne.symm h3]
      · have h3 : a = b := UInt8.toNat_inj.1 (by have : ¬ a.toNat < b.toNat := h1; have : ¬ b.toNat < a.toNat := h2; omega)
        subst h3
        simpa [h1] using ih
theorem bl_nil {x : List UInt8} : Op.bytesLess [] x = decide (x ≠ []) := by cases x <;> simp [Op.bytesLess]
/-! ### what a node is -/
abbrev Dig := {l : List UInt8 // l.length = 32}
instance : Inhabited Dig := ⟨⟨List.replicate 32 0, by simp⟩⟩
def digC (d : Dig) : List Value := bys d.1
structure Itm where
  name : List UInt8
  kind : Int
  sum : Dig
  deriving DecidableEq, Inhabited
def itmC (a : Itm) : List Value := str a.name :: .int .i64 a.kind :: bys a.sum.1
def Itm.ok (a : Itm) : Prop := a.name.length ≤ 9223372036854775807 ∧ inR .i64 a.kind
structure NodeS where
  kind : Int
  data : List UInt8
  size : Int
  parts : List Dig
  items : List Itm
  deriving DecidableEq, Inhabited
def NodeS.ok (n : NodeS) : Prop := inR .i64 n.kind ∧ n.data.length ≤ 9223372036854775807 ∧ inR .i64 n.size ∧ ∀ x ∈ n.items, x.ok
def zeroNode : NodeS := ⟨0, [], 0, [], []⟩
def lastOf (l : List Itm) (i : Nat) : List UInt8 := if i = 0 then [] else (l.getD (i - 1) default).name
def itOk (l : List Itm) (i : Nat) : Prop := Op.bytesLess (lastOf l i) (l.getD i default).name = true ∧ nameP (l.getD i default).name ∧ ((l.getD i default).kind = 2 ∨ (l.getD i default).kind = 3)
instance (l : List Itm) (i : Nat) : Decidable (itOk l i) := by unfold itOk; infer_instance
def rises (l : List Itm) : Prop := ∀ i : Fin l.length, itOk l i.1
instance (l : List Itm) : Decidable (rises l) := by unfold rises; infer_instance
def cnt (z : Int) : Nat := ((z + 63) / 64).toNat
def nodeOk (n : NodeS) : Prop :=
  (n.kind = 1 ∧ 0 < n.data.length ∧ n.data.length ≤ 64 ∧ n.size = 0 ∧ n.parts = [] ∧ n.items = []) ∨
  (n.kind = 2 ∧ n.data = [] ∧ 0 ≤ n.size ∧ n.size ≤ 1024 ∧ n.parts.length = cnt n.size ∧ n.items = []) ∨
  (n.kind = 3 ∧ n.data = [] ∧ n.size = 0 ∧ n.parts = [] ∧ n.items.length ≤ 64 ∧ rises n.items)
instance (n : NodeS) : Decidable (nodeOk n) := by unfold nodeOk; infer_instance
def itmB (x : Itm) : List UInt8 := textB x.name ++ (num x.kind.toNat ++ x.sum.1)
def encN (n : NodeS) : List UInt8 := num n.kind.toNat ++ (if n.kind = 1 then textB n.data else if n.kind = 2 then num n.size.toNat ++ n.parts.flatMap (·.1) else num n.items.length ++ n.items.flatMap itmB)
/-! ### reading -/
abbrev digG (s : InS) : Dig := ⟨(digestR s).1, digestR_len s⟩
def partsGo : Nat → InS → List Dig × InS
  | 0, s => ([], s)
  | k + 1, s => (digG s :: (partsGo k (digestR s).2).1, (partsGo k (digestR s).2).2)
abbrev itmG (s : InS) : Itm × InS :=
  (⟨(textR 16 s).1, ((min (numR (textR 16 s).2).1 9 : Nat) : Int), digG (numR (textR 16 s).2).2⟩, (digestR (numR (textR 16 s).2).2).2)
def itmsGo : Nat → InS → List Itm × InS
  | 0, s => ([], s)
  | k + 1, s => ((itmG s).1 :: (itmsGo k (itmG s).2).1, (itmsGo k (itmG s).2).2)
def readN (s : InS) : NodeS × InS :=
  let k := min (numR s).1 9
  let s1 := (numR s).2
  if k = 1 then (⟨1, (textR 64 s1).1, 0, [], []⟩, (textR 64 s1).2)
  else if k = 2 then (⟨2, [], ((min (numR s1).1 1025 : Nat) : Int), (partsGo (cnt ((min (numR s1).1 1025 : Nat) : Int)) (numR s1).2).1, []⟩, (partsGo (cnt ((min (numR s1).1 1025 : Nat) : Int)) (numR s1).2).2)
  else if k = 3 then (⟨3, [], 0, [], (itmsGo (min (numR s1).1 65) (numR s1).2).1⟩, (itmsGo (min (numR s1).1 65) (numR s1).2).2)
  else (⟨k, [], 0, [], []⟩, s1)
def decN (b : List UInt8) : Option NodeS := if (readN ⟨b, 0⟩).2.err = 0 ∧ (readN ⟨b, 0⟩).2.bs.length = 0 ∧ nodeOk (readN ⟨b, 0⟩).1 then some (readN ⟨b, 0⟩).1 else none
theorem partsGo_len : ∀ (k : Nat) (s : InS), (partsGo k s).1.length = k
  | 0, _ => rfl
  | k + 1, s => by simp [partsGo, partsGo_len k]
theorem itmsGo_len : ∀ (k : Nat) (s : InS), (itmsGo k s).1.length = k
  | 0, _ => rfl
  | k + 1, s => by simp [itmsGo, itmsGo_len k]
theorem partsGo_back : ∀ (ps : List Dig) (r : List UInt8), partsGo ps.length ⟨ps.flatMap (·.1) ++ r, 0⟩ = (ps, ⟨r, 0⟩)
  | [], r => rfl
  | p :: ps, r => by
    have e := digestR_back (d := p.1) (r := ps.flatMap (·.1) ++ r) p.2
    rw [List.flatMap_cons, List.append_assoc, List.length_cons, partsGo, e, partsGo_back ps r]
    simp only [Prod.mk.injEq, List.cons.injEq, and_true]
    exact Subtype.ext (by show (digestR _).1 = p.1; rw [e])
theorem itmsGo_back : ∀ (xs : List Itm) (r : List UInt8), (∀ x ∈ xs, x.name.length ≤ 16 ∧ 0 ≤ x.kind ∧ x.kind ≤ 9) → itmsGo xs.length ⟨xs.flatMap itmB ++ r, 0⟩ = (xs, ⟨r, 0⟩)
  | [], r, _ => rfl
  | x :: xs, r, h => by
    obtain ⟨h1, h2, h3⟩ := h x (by simp)
    have e1 := textR_back (s := x.name) (r := num x.kind.toNat ++ (x.sum.1 ++ (xs.flatMap itmB ++ r))) (most := 16) (by omega) (by omega)
    have e2 := numR_num (m := x.kind.toNat) (x.sum.1 ++ (xs.flatMap itmB ++ r)) (by omega)
    have e3 := digestR_back (d := x.sum.1) (r := xs.flatMap itmB ++ r) x.sum.2
    have e : itmG ⟨itmB x ++ (xs.flatMap itmB ++ r), 0⟩ = (x, ⟨xs.flatMap itmB ++ r, 0⟩) := by
      simp only [itmG, itmB, List.append_assoc, e1, e2, e3, Prod.mk.injEq, and_true]
      obtain ⟨n, k, d⟩ := x
      simp only [Itm.mk.injEq, true_and]
      simp only at h2 h3
      exact ⟨by omega, Subtype.ext (by show (digestR _).1 = d.1; rw [e3])⟩
    rw [List.flatMap_cons, List.append_assoc, List.length_cons, itmsGo, e, itmsGo_back xs r (fun y hy => h y (by simp [hy]))]
theorem rises_mem {l : List Itm} (h : rises l) {x : Itm} (hx : x ∈ l) : nameP x.name ∧ (x.kind = 2 ∨ x.kind = 3) := by
  obtain ⟨i, hi, rfl⟩ := List.getElem_of_mem hx
  have := h ⟨i, hi⟩
  simp only [itOk, List.getD_eq_getElem?_getD, List.getElem?_eq_getElem hi, Option.getD_some] at this
  exact this.2
theorem readN_back {n : NodeS} (h : nodeOk n) (r : List UInt8) : readN ⟨encN n ++ r, 0⟩ = (n, ⟨r, 0⟩) := by
  obtain ⟨kind, data, size, parts, items⟩ := n
  rcases h with ⟨h1, h2, h3, h4, h5, h6⟩ | ⟨h1, h2, h3, h4, h5, h6⟩ | ⟨h1, h2, h3, h4, h5, h6⟩ <;> simp only at h1 h2 h3 h4 h5 h6 <;> subst h1
  · subst h4 h5 h6
    have e1 := numR_num (m := 1) (textB data ++ r) (by omega)
    have e2 := textR_back (s := data) (r := r) (most := 64) (by omega) (by omega)
    simp [readN, encN, e1, e2]
  · subst h2 h6
    have e1 := numR_num (m := 2) (num size.toNat ++ (parts.flatMap (·.1) ++ r)) (by omega)
    have e2 := numR_num (m := size.toNat) (parts.flatMap (·.1) ++ r) (by omega)
    have e3 := partsGo_back parts r
    rw [h5] at e3
    have e4 : ((min size.toNat 1025 : Nat) : Int) = size := by omega
    simp only [readN, encN, if_true, if_neg (show ¬ (2 : Int) = 1 by decide), show Int.toNat 2 = 2 from rfl, List.append_assoc, e1, e2, e4, e3]
    simp
  · subst h2 h3 h4
    have e1 := numR_num (m := 3) (num items.length ++ (items.flatMap itmB ++ r)) (by omega)
    have e2 := numR_num (m := items.length) (items.flatMap itmB ++ r) (by omega)
    have e3 := itmsGo_back items r (fun x hx => by
      have := rises_mem h6 hx
      obtain ⟨⟨_, h, _⟩, h'⟩ := this
      exact ⟨h, by omega, by omega⟩)
    have e4 : min items.length 65 = items.length := by omega
    simp only [readN, encN, if_neg (show ¬ (3 : Int) = 1 by decide), if_neg (show ¬ (3 : Int) = 2 by decide), show Int.toNat 3 = 3 from rfl, List.append_assoc, e1, e2, e4, e3]
    simp
theorem dec_encN {n : NodeS} (h : nodeOk n) : decN (encN n) = some n := by
  have := readN_back h []
  rw [List.append_nil] at this
  unfold decN
  rw [this, if_pos ⟨rfl, rfl, h⟩]
theorem partsGo_canon : ∀ (k : Nat) (s : InS) (ps : List Dig) (r : List UInt8), partsGo k s = (ps, ⟨r, 0⟩) → s = ⟨ps.flatMap (·.1) ++ r, 0⟩
  | 0, s, ps, r, h => by
    simp only [partsGo, Prod.mk.injEq] at h
    obtain ⟨rfl, rfl⟩ := h
    rfl
  | k + 1, s, ps, r, h => by
    simp only [partsGo, Prod.mk.injEq] at h
    obtain ⟨rfl, h⟩ := h
    have h1 := partsGo_canon k (digestR s).2 _ r (Prod.ext rfl h)
    obtain ⟨h2, _⟩ := digest_canon (s := s) (Prod.ext rfl h1)
    refine h2.trans ?_
    rw [List.flatMap_cons, List.append_assoc]
    first | done | rfl
theorem itmsGo_canon : ∀ (k : Nat) (s : InS) (xs : List Itm) (r : List UInt8), itmsGo k s = (xs, ⟨r, 0⟩) → (∀ x ∈ xs, x.kind ≤ 8) → s = ⟨xs.flatMap itmB ++ r, 0⟩
  | 0, s, xs, r, h, _ => by
    simp only [itmsGo, Prod.mk.injEq] at h
    obtain ⟨rfl, rfl⟩ := h
    rfl
  | k + 1, s, xs, r, h, hk => by
    simp only [itmsGo, Prod.mk.injEq] at h
    obtain ⟨rfl, h⟩ := h
    have h1 := itmsGo_canon k (itmG s).2 _ r (Prod.ext rfl h) (fun x hx => hk x (by simp [hx]))
    have h0 := hk (itmG s).1 (by simp)
    simp only [itmG] at h1 h0
    obtain ⟨h2, _⟩ := digest_canon (s := (numR (textR 16 s).2).2) (Prod.ext rfl h1)
    have h3 := num_canon (s := (textR 16 s).2) (Prod.ext rfl h2)
    obtain ⟨h4, _⟩ := text_canon (s := s) (Prod.ext rfl h3)
    refine h4.trans ?_
    have e : ((min (numR (textR 16 s).2).1 9 : Nat) : Int).toNat = (numR (textR 16 s).2).1 := by omega
    rw [List.flatMap_cons]
    simp only [itmB, itmG, e, List.append_assoc, digG]
theorem readN_canon {b r : List UInt8} {n : NodeS} (h : readN ⟨b, 0⟩ = (n, ⟨r, 0⟩)) (ho : nodeOk n) : b = encN n ++ r := by
  have key : ∀ {k : Nat} {r' : List UInt8}, numR ⟨b, 0⟩ = (k, ⟨r', 0⟩) → b = num k ++ r' := fun h => by have := congrArg InS.bs (num_canon h); exact this
  unfold readN at h
  dsimp only at h
  split at h
  · rename_i hk
    simp only [Prod.mk.injEq] at h
    obtain ⟨rfl, h⟩ := h
    obtain ⟨h2, _⟩ := text_canon (s := (numR ⟨b, 0⟩).2) (Prod.ext rfl h)
    refine (key (k := (numR ⟨b, 0⟩).1) (Prod.ext rfl h2)).trans ?_
    rw [show (numR ⟨b, 0⟩).1 = 1 by omega]
    simp [encN]
  · split at h
    · rename_i hk
      simp only [Prod.mk.injEq] at h
      obtain ⟨rfl, h⟩ := h
      have h2 := partsGo_canon _ _ _ _ (Prod.ext rfl h)
      have h3 := num_canon (s := (numR ⟨b, 0⟩).2) (Prod.ext rfl h2)
      refine (key (k := (numR ⟨b, 0⟩).1) (Prod.ext rfl h3)).trans ?_
      rw [show (numR ⟨b, 0⟩).1 = 2 by omega]
      rcases ho with ho | ho | ho
      · exact absurd ho.1 (show ¬ (2 : Int) = 1 by decide)
      · have h5 := ho.2.2.2.1
        dsimp only at h5
        have e : ((min (numR (numR ⟨b, 0⟩).2).1 1025 : Nat) : Int).toNat = (numR (numR ⟨b, 0⟩).2).1 := by omega
        simp only [encN, if_neg (show ¬ (2 : Int) = 1 by decide), if_true, e, List.append_assoc]
        rfl
      · exact absurd ho.1 (show ¬ (2 : Int) = 3 by decide)
    · split at h
      · rename_i hk
        simp only [Prod.mk.injEq] at h
        obtain ⟨rfl, h⟩ := h
        rcases ho with ho | ho | ho
        · exact absurd ho.1 (show ¬ (3 : Int) = 1 by decide)
        · exact absurd ho.1 (show ¬ (3 : Int) = 2 by decide)
        · obtain ⟨_, _, _, _, h5, h6⟩ := ho
          dsimp only at h5 h6
          have hl := itmsGo_len (min (numR (numR ⟨b, 0⟩).2).1 65) (numR (numR ⟨b, 0⟩).2).2
          have h2 := itmsGo_canon _ _ _ _ (Prod.ext rfl h) (fun x hx => by have := (rises_mem h6 hx).2; omega)
          have h3 := num_canon (s := (numR ⟨b, 0⟩).2) (Prod.ext rfl h2)
          refine (key (k := (numR ⟨b, 0⟩).1) (Prod.ext rfl h3)).trans ?_
          rw [show (numR ⟨b, 0⟩).1 = 3 by omega]
          have e : (itmsGo (min (numR (numR ⟨b, 0⟩).2).1 65) (numR (numR ⟨b, 0⟩).2).2).1.length = (numR (numR ⟨b, 0⟩).2).1 := by rw [hl] at h5 ⊢; omega
          simp only [encN, if_neg (show ¬ (3 : Int) = 1 by decide), if_neg (show ¬ (3 : Int) = 2 by decide), e, List.append_assoc]
          rfl
      · rename_i g1 g2 g3
        simp only [Prod.mk.injEq] at h
        obtain ⟨rfl, _⟩ := h
        exfalso
        rcases ho with ho | ho | ho <;> have := ho.1 <;> dsimp only at this <;> omega
theorem decN_canon {b : List UInt8} {n : NodeS} (h : decN b = some n) : b = encN n ∧ nodeOk n := by
  unfold decN at h
  split at h
  · rename_i hc
    cases h
    obtain ⟨h1, h2, h3⟩ := hc
    refine ⟨?_, h3⟩
    have h2 := List.eq_nil_of_length_eq_zero h2
    have := readN_canon (b := b) (r := []) (n := (readN ⟨b, 0⟩).1) (Prod.ext rfl (by
      generalize (readN ⟨b, 0⟩).2 = s at *
      cases s
      simp only at h1 h2
      rw [h1, h2])) h3
    rwa [List.append_nil] at this
  · cases h
theorem encN_inj {m n : NodeS} (hm : nodeOk m) (hn : nodeOk n) (h : encN m = encN n) : m = n := by
  have := dec_encN hm
  rw [h, dec_encN hn] at this
  exact (Option.some.inj this).symm
theorem nodeOk.ok {n : NodeS} (h : nodeOk n) : n.ok := by
  rcases h with h | h | ⟨h1, h2, h3, h4, h5, h6⟩
  · exact ⟨by rw [h.1]; simp only [inR]; omega, by omega, by rw [h.2.2.2.1]; simp only [inR]; omega, by rw [h.2.2.2.2.2]; simp⟩
  · exact ⟨by rw [h.1]; simp only [inR]; omega, by rw [h.2.1]; simp, by have := h.2.2.1; have := h.2.2.2.1; simp only [inR]; omega, by rw [h.2.2.2.2.2]; simp⟩
  · refine ⟨by rw [h1]; simp only [inR]; omega, by rw [h2]; simp, by rw [h3]; simp only [inR]; omega, fun x hx => ?_⟩
    obtain ⟨⟨_, h, _⟩, h'⟩ := rises_mem h6 hx
    exact ⟨by omega, by simp only [inR]; omega⟩
theorem flat_len {α : Type} {f : α → List UInt8} {q : Nat} : ∀ (l : List α), (∀ a ∈ l, (f a).length ≤ q) → (l.flatMap f).length ≤ q * l.length
  | [], _ => by simp
  | a :: l, h => by
    have h1 := h a (by simp)
    have h2 := flat_len l (fun b hb => h b (by simp [hb]))
    rw [List.flatMap_cons, List.length_append, List.length_cons, Nat.mul_succ]
    omega
theorem num_le1 {n : Nat} (h : n ≤ 127) : (num n).length = 1 := by rw [num_small (by omega)]; rfl
theorem num_le2 {n : Nat} (h : n ≤ 16383) : (num n).length ≤ 2 := by
  by_cases hb : 127 < n
  · rw [num_big hb, num_small (by omega)]; simp
  · rw [num_small hb]; simp
theorem itmB_len {x : Itm} (h1 : x.name.length ≤ 16) (h2 : x.kind = 2 ∨ x.kind = 3) : (itmB x).length ≤ 50 := by
  have := num_le1 (n := x.name.length) (by omega)
  have := num_le1 (n := x.kind.toNat) (by omega)
  have := x.sum.2
  simp only [itmB, textB, List.length_append]
  omega
theorem encN_len {n : NodeS} (h : nodeOk n) : 1 ≤ (encN n).length ∧ (encN n).length ≤ 4096 := by
  rcases h with ⟨h1, h2, h3, h4, h5, h6⟩ | ⟨h1, h2, h3, h4, h5, h6⟩ | ⟨h1, h2, h3, h4, h5, h6⟩
  · have := num_le1 (n := n.data.length) (by omega)
    have := num_le1 (n := n.kind.toNat) (by omega)
    simp only [encN, h1, if_true, textB, List.length_append] at this ⊢
    simp only [show Int.toNat 1 = 1 from rfl] at this ⊢
    omega
  · have := num_le2 (n := n.size.toNat) (by omega)
    have e1 := num_le1 (n := n.kind.toNat) (by omega)
    have e2 := flat_len (f := fun d : Dig => d.1) (q := 32) n.parts (fun a _ => by have := a.2; omega)
    have : n.parts.length ≤ 16 := by rw [h5, cnt]; omega
    simp only [encN, h1, if_neg (show ¬ (2 : Int) = 1 by decide), if_true, List.length_append] at e1 ⊢
    simp only [show Int.toNat 2 = 2 from rfl] at e1 ⊢
    omega
  · have := num_le1 (n := n.items.length) (by omega)
    have e1 := num_le1 (n := n.kind.toNat) (by omega)
    have e2 := flat_len (f := itmB) (q := 50) n.items (fun a ha => by obtain ⟨⟨_, h, _⟩, h'⟩ := rises_mem h6 ha; exact itmB_len h h')
    simp only [encN, h1, if_neg (show ¬ (3 : Int) = 1 by decide), if_neg (show ¬ (3 : Int) = 2 by decide), List.length_append] at e1 ⊢
    simp only [show Int.toNat 3 = 3 from rfl] at e1 ⊢
    omega
end VK
