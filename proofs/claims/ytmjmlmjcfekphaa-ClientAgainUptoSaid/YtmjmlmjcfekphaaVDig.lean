/- Structs that hold digests (32 bytes, not written out cell by cell): their cells read, written, built. No conditions. -/
import Derived.Test.YtmjmlmjcfekphaaT
namespace VK
open Go
set_option linter.unusedSimpArgs false
set_option linter.unusedVariables false
set_option maxRecDepth 100000
set_option maxHeartbeats 40000000
class AtC {α : Type} (l : List α) (i : Nat) (a : outParam α) : Prop where
  h : l[i]? = some a
instance AtC.zero {α : Type} (a : α) (l : List α) : AtC (a :: l) 0 a := ⟨rfl⟩
instance AtC.succ {α : Type} (b : α) (l : List α) (i : Nat) (a : α) [k : AtC l i a] : AtC (b :: l) (i + 1) a := ⟨by simpa using k.h⟩
class GetC (cs : List Value) (o : Nat) (v : outParam Value) : Prop where
  h : cs[o]? = some v
instance GetC.zero (v : Value) (l : List Value) : GetC (v :: l) 0 v := ⟨rfl⟩
instance GetC.succ (u v : Value) (l : List Value) (o : Nat) [k : GetC l o v] : GetC (u :: l) (o + 1) v := ⟨by simpa using k.h⟩
instance (a : UInt8) : LenIs (List.replicate 32 a) 32 := ⟨by simp, by decide⟩
theorem bys_len {d : List UInt8} {n : Nat} (h : LenIs d n) : (bys d).length = n := by simp [bys, h.h.1]
instance GetC.dig (d : List UInt8) (v : Value) (l : List Value) (o : Nat) [hd : LenIs d 32] [k : GetC l o v] : GetC (bys d ++ l) (o + 32) v :=
  ⟨by rw [List.getElem?_append_right (by rw [bys_len hd]; omega), bys_len hd, Nat.add_sub_cancel]; exact k.h⟩
instance (L : List Atom) (d : List UInt8) : AllOne L (bys d) := ⟨fun _ _ _ u hu => by
  simp only [bys, List.mem_map] at hu
  obtain ⟨b, _, rfl⟩ := hu
  rfl⟩
instance (L : List Atom) (v : Value) (l : List Value) [h : OneC L v] [k : AllOne L l] : AllOne L (v :: l) := ⟨fun W0 w hs u hu => by
  rcases List.mem_cons.1 hu with rfl | hu
  · exact h.h W0 w hs
  · exact k.h W0 w hs u hu⟩
instance (L : List Atom) (l m : List Value) [h : AllOne L l] [k : AllOne L m] : AllOne L (l ++ m) := ⟨fun W0 w hs u hu => by
  rcases List.mem_append.1 hu with hu | hu
  · exact h.h W0 w hs u hu
  · exact k.h W0 w hs u hu⟩
class DropC (cs : List Value) (n : Nat) (r : outParam (List Value)) : Prop where
  h : cs.drop n = r ∧ n ≤ cs.length
instance DropC.zero (z : List Value) : DropC z 0 z := ⟨rfl, Nat.zero_le _⟩
instance DropC.succ (u : Value) (z r : List Value) (n : Nat) [k : DropC z n r] : DropC (u :: z) (n + 1) r := ⟨by simpa using k.h.1, by simpa using k.h.2⟩
instance DropC.last (d : List UInt8) [hd : LenIs d 32] : DropC (bys d) 32 [] := ⟨List.drop_of_length_le (by rw [bys_len hd]; exact Nat.le_refl _), by rw [bys_len hd]; exact Nat.le_refl _⟩
instance DropC.dig (d : List UInt8) (z r : List Value) (n : Nat) [hd : LenIs d 32] [k : DropC z n r] : DropC (bys d ++ z) (n + 32) r :=
  ⟨by rw [List.drop_append, List.drop_of_length_le (by rw [bys_len hd]; omega), bys_len hd, Nat.add_sub_cancel, List.nil_append]; exact k.h.1, by rw [List.length_append, bys_len hd]; have := k.h.2; omega⟩
/-- the cells from place o on, as many as vs, are vs -/
class PartC (cs : List Value) (o n : Nat) (vs : outParam (List Value)) : Prop where
  h : (cs.drop o).take n = vs ∧ vs.length = n
instance PartC.last (d : List UInt8) [hd : LenIs d 32] : PartC (bys d) 0 32 (bys d) := ⟨List.take_of_length_le (by rw [List.drop_zero, bys_len hd]; exact Nat.le_refl _), bys_len hd⟩
instance PartC.here (d : List UInt8) (l : List Value) [hd : LenIs d 32] : PartC (bys d ++ l) 0 32 (bys d) := ⟨by rw [List.drop_zero, List.take_append, bys_len hd, Nat.sub_self, List.take_zero, List.append_nil]; exact List.take_of_length_le (by rw [bys_len hd]; exact Nat.le_refl _), bys_len hd⟩
instance PartC.succ (u : Value) (l vs : List Value) (o n : Nat) [k : PartC l o n vs] : PartC (u :: l) (o + 1) n vs := ⟨by simpa using k.h.1, k.h.2⟩
instance (priority := low) PartC.dig (d : List UInt8) (l vs : List Value) (o n : Nat) [hd : LenIs d 32] [k : PartC l o n vs] : PartC (bys d ++ l) (o + 32) n vs :=
  ⟨by rw [List.drop_append, List.drop_of_length_le (by rw [bys_len hd]; omega), bys_len hd, Nat.add_sub_cancel, List.nil_append]; exact k.h.1, k.h.2⟩
/-- the cells with vs from place o on -/
class PutC (z : List Value) (o : Nat) (vs : List Value) (z' : outParam (List Value)) : Prop where
  h : z' = z.take o ++ vs ++ z.drop (o + vs.length) ∧ o + vs.length ≤ z.length
instance PutC.one (u v : Value) (z : List Value) : PutC (u :: z) 0 [v] (v :: z) := ⟨by simp, by simp⟩
instance PutC.succ (u : Value) (z vs z' : List Value) (o : Nat) [k : PutC z o vs z'] : PutC (u :: z) (o + 1) vs (u :: z') :=
  ⟨by rw [k.h.1, show o + 1 + vs.length = o + vs.length + 1 by omega]; rfl, by have := k.h.2; simp only [List.length_cons]; omega⟩
instance (priority := high) PutC.dlast (d : List UInt8) (z : List Value) [hd : LenIs d 32] [k : DropC z 32 []] : PutC z 0 (bys d) (bys d) :=
  ⟨by rw [Nat.zero_add, bys_len hd, k.h.1]; simp, by rw [bys_len hd]; have := k.h.2; omega⟩
instance PutC.dig (d : List UInt8) (z r : List Value) [hd : LenIs d 32] [k : DropC z 32 r] : PutC z 0 (bys d) (bys d ++ r) :=
  ⟨by rw [Nat.zero_add, bys_len hd, k.h.1]; simp, by rw [bys_len hd]; have := k.h.2; omega⟩
instance (priority := low) PutC.past (d : List UInt8) (z vs z' : List Value) (o : Nat) [hd : LenIs d 32] [k : PutC z o vs z'] : PutC (bys d ++ z) (o + 32) vs (bys d ++ z') :=
  ⟨by
    have e1 : (bys d ++ z).take (o + 32) = bys d ++ z.take o := by
      rw [List.take_append, bys_len hd, Nat.add_sub_cancel, List.take_of_length_le (by rw [bys_len hd]; omega)]
    have e2 : (bys d ++ z).drop (o + 32 + vs.length) = z.drop (o + vs.length) := by
      rw [List.drop_append, List.drop_of_length_le (l := bys d) (by rw [bys_len hd]; omega), bys_len hd, List.nil_append, show o + 32 + vs.length - 32 = o + vs.length by omega]
    rw [k.h.1, e1, e2]
    simp, by rw [List.length_append, bys_len hd]; have := k.h.2; omega⟩
theorem setF_key : ∀ (z : List Value) (o : Nat) (vs : List Value), o + vs.length ≤ z.length → setF z o vs = some (z.take o ++ vs ++ z.drop (o + vs.length))
  | z, o, [], _ => by cases z <;> cases o <;> simp [setF]
  | [], o, v :: vs, h => by simp at h
  | c :: z, 0, v :: vs, h => by
    have := setF_key z 0 vs (by simp only [List.length_cons] at h; omega)
    simp only [setF, this]
    simp
  | c :: z, o + 1, v :: vs, h => by
    have := setF_key z o (v :: vs) (by simp only [List.length_cons] at h ⊢; omega)
    simp only [setF, this]
    simp only [List.take_succ_cons, List.cons_append, List.length_cons, show o + 1 + (vs.length + 1) = o + (vs.length + 1) + 1 by omega, List.drop_succ_cons]
theorem setF_put {z z' vs : List Value} {o : Nat} (h : PutC z o vs z') : setF z o vs = some z' := by
  obtain ⟨h1, h2⟩ := h.h
  subst h1
  exact setF_key z o vs h2
class LenL (vs : List Value) (n : Nat) : Prop where
  h : vs.length = n
instance LenL.nil : LenL [] 0 := ⟨rfl⟩
instance LenL.cons (v : Value) (l : List Value) (n : Nat) [k : LenL l n] : LenL (v :: l) (n + 1) := ⟨by simp [k.h]⟩
instance LenL.dig (d : List UInt8) (n : Nat) [k : LenIs d n] : LenL (bys d) n := ⟨bys_len k⟩
class BuildC (pl : List (Nat × Nat)) (z : List Value) (is : List Nat) (css : List (List Value)) (cs : outParam (List Value)) : Prop where
  h : buildG pl z is css = some cs
instance BuildC.nil (pl : List (Nat × Nat)) (z : List Value) : BuildC pl z [] [] z := ⟨rfl⟩
instance BuildC.cons (pl : List (Nat × Nat)) (z z' vs cs : List Value) (i o n : Nat) (is : List Nat) (css : List (List Value)) [a : AtC pl i (o, n)] [l : LenL vs n] [p : PutC z o vs z'] [b : BuildC pl z' is css cs] : BuildC pl z (i :: is) (vs :: css) cs :=
  ⟨by
    have h1 := p.h.2
    have h2 := l.h
    simp only [buildG, a.h]
    rw [setF_put p, show Nat.beq vs.length n = true by rw [h2]; exact Nat.beq_refl n, show Nat.ble o z.length = true by simp; omega]
    exact b.h⟩
section
variable {c : Cx} {k : List KI} {E : Env} {L : List Atom} {all rest : List Oper} {d : Nat} {do_ : Option Nat} {ty : TypeId} {pos : String} {aft : Array Edge} {gd : Option (Nat × Bool)}
theorem g_loadPt {t : TypeId} {ud : TypeDesc} {i : TI} {x : Operand} {b o : Nat} {cs vs : List Value} {bt : Nat} {f : Atom → List Atom} [tu : TyU c.P t ud] [ti : TyI c.P t i] (hx : Evs c E x (.pointer (some ⟨b, o, none⟩))) [p : Pick (blk b) L ⟨cs, bt⟩ f]
    (hu : isAggD ud = true) [pc : PartC cs o i.size vs] : Gives c E L ⟨do_, .load t x, ty, pos, aft, gd⟩ (agg vs) :=
  g_loadA (i := i) hx hu pc.h.2 fun j u hj => by
    have h1 := pc.h.1
    rw [← h1, List.getElem?_take] at hj
    split at hj
    · rw [List.getElem?_drop] at hj; exact hj
    · cases hj
theorem g_loadGt {t : TypeId} {ud : TypeDesc} {x : Operand} {b o : Nat} {cs : List Value} {v : Value} {bt : Nat} {f : Atom → List Atom} [tu : TyU c.P t ud] (hx : Evs c E x (.pointer (some ⟨b, o, none⟩))) [p : Pick (blk b) L ⟨cs, bt⟩ f]
    (hu : isAggD ud = false) [pc : GetC cs o v] : Gives c E L ⟨do_, .load t x, ty, pos, aft, gd⟩ v := g_load hx hu pc.h
theorem o_storePt {t : TypeId} {i : TI} {x y : Operand} {vs : List Value} {b o : Nat} {cs cs' : List Value} {bt : Nat} {f : Atom → List Atom} [ti : TyI c.P t i]
    (hx : Evs c E x (.pointer (some ⟨b, o, none⟩))) (hy : Evs c E y (agg vs)) [p : Pick (blk b) L ⟨cs, bt⟩ f] [ll : LenL vs i.size] (h1 : ∀ W0 w, St W0 L w → ∀ u ∈ vs, u.oneCell' = true)
    [pc : PutC cs o vs cs'] (hk : Ops c all rest k E (f (blk b ⟨cs', bt⟩))) : Ops c all (⟨none, .store t x y, ty, pos, aft, none⟩ :: rest) k E L :=
  o_store hx hy rfl ll.h h1 (setsTo_F (setF_put pc) (by have := pc.h.2; omega)) hk
theorem o_storeGt {t : TypeId} {i : TI} {x y : Operand} {v : Value} {b o : Nat} {cs cs' : List Value} {bt : Nat} {f : Atom → List Atom} [ti : TyI c.P t i]
    (hx : Evs c E x (.pointer (some ⟨b, o, none⟩))) (hy : Evs c E y v) [p : Pick (blk b) L ⟨cs, bt⟩ f] [h1 : OneC L v] (hn : i.size = 1)
    [pc : PutC cs o [v] cs'] (hk : Ops c all rest k E (f (blk b ⟨cs', bt⟩))) : Ops c all (⟨none, .store t x y, ty, pos, aft, none⟩ :: rest) k E L :=
  o_store1 hx hy hn (setF_put pc) (by have := pc.h.2; simp only [List.length_cons, List.length_nil] at this; simp; omega) hk
theorem g_buildX {t : TypeId} {i : TI} {pl : List (Nat × Nat)} {parts : Array (Nat × Operand)} {is : List Nat} {vs cs z : List Value} {css : List (List Value)} [tp : TyP c.P t pl] [ti : TyI c.P t i] (hx : evs E (parts.toList.map (·.2)) = some vs)
    (hi : parts.toList.map (·.1) = is) (hz : cellsL i.zero = z) [cv : CellsVs L vs css] [hb : BuildC pl z is css cs] : Gives c E L ⟨do_, .build t parts, ty, pos, aft, gd⟩ (agg cs) :=
  g_buildC hx (by rw [hi, hz]; exact hb.h)
/-- an array that lies in a slice's element, as a slice -/
def arrV : Value → Nat → Nat → Value
  | .slice (some a) _ _, k, n => .slice (some ⟨a.block, a.off + k, none⟩) n n
  | _, _, _ => undef
theorem rd_some {α : Type} [Inhabited α] {f : α → List Value} {sz : Nat} {e' : TypeId} {v : Value} {l : List α} {j : Nat} {W : World} (h : RdW W v (frow f sz e' l)) (hf : ∀ a, (f a).length = sz) (hp : 0 < sz) (hj : j < l.length) :
    ∃ b o cap, v = .slice (some ⟨b, o, none⟩) l.length cap ∧ ∀ q u, (f (l.getD j default))[q]? = some u → W.cell? ⟨b, o + (j * sz + q), none⟩ = some u := by
  unfold RdW at h
  obtain ⟨_, _, a, cap, rfl, _, _, hr⟩ := h
  rcases hr with hr | ⟨b, o, rfl, hc⟩
  · exfalso
    have h0 := flatMap_at hf hj 0 ((f (l.getD j default))[0]'(by rw [hf]; exact hp)) (by simp [hf, hp])
    simp only [frow] at hr
    rw [hr] at h0
    cases h0
  · exact ⟨b, o, cap, rfl, fun q u hq => hc _ _ (flatMap_at hf hj q u hq)⟩
theorem g_arrE {α : Type} [Inhabited α] {f : α → List Value} {sz j q : Nat} {t e e' : TypeId} {x : Operand} {v : Value} {l : List α} {n : Nat} {i : TI} [tu : TyU c.P t (.array n e)] [ti : TyI c.P e i] [rd : Rd L v (frow f sz e' l)] [lc : LenC f sz] (hx : Evs c E x (elemP v (j * sz + q)))
    (hp : Nat.blt 0 sz = true) (hj : j < l.length) : Gives c E L ⟨do_, .slice t x none none none, ty, pos, aft, gd⟩ (arrV v (j * sz + q) n) := by
  unfold Gives
  unfold Evs at hx
  intro a w he hs
  obtain ⟨b, o, cap, rfl, _⟩ := rd_some (rd.rd _ w hs) lc.h (by simpa [Nat.blt_eq] using hp) hj
  have hx' := hx a he
  simp only [elemP] at hx'
  simp [execOp, hx', Instr.sliceAt, run_underlying tu.h, Instr.sureAddr, Instr.sliceBounds, run_sizeOfI ti, Addr.add, arrV]
theorem g_arrE0 {α : Type} [Inhabited α] {f : α → List Value} {sz j : Nat} {t e e' : TypeId} {x : Operand} {v : Value} {l : List α} {n : Nat} {i : TI} [tu : TyU c.P t (.array n e)] [ti : TyI c.P e i] [rd : Rd L v (frow f sz e' l)] [lc : LenC f sz] (hx : Evs c E x (elemP v (j * sz)))
    (hp : Nat.blt 0 sz = true) (hj : j < l.length) : Gives c E L ⟨do_, .slice t x none none none, ty, pos, aft, gd⟩ (arrV v (j * sz) n) := g_arrE (q := 0) (rd := rd) hx hp hj
theorem Rd.arr {α : Type} [Inhabited α] {f : α → List Value} {sz j q k : Nat} {e' : TypeId} {v : Value} {l : List α} {d : List UInt8} {n : Nat} (e : TypeId) (rd : Rd L v (frow f sz e' l)) [lc : LenC f sz] (hp : 0 < sz) (hj : j < l.length) (pc : PartC (f (l.getD j default)) q n (bys d)) (hn : n ≤ maxLen) (hk : k = j * sz + q) :
    Rd L (arrV v k n) (mrow by8 e d) := ⟨fun W0 w hs => by
  subst hk
  obtain ⟨b, o, cap, rfl, hc⟩ := rd_some (rd.rd _ w hs) lc.h hp hj
  have hd : d.length = n := by have := pc.h.2; simpa [bys] using this
  unfold RdW
  refine ⟨by simp [mrow], fun u hu => by simp only [mrow, List.mem_map] at hu; obtain ⟨b, _, rfl⟩ := hu; rfl, some ⟨b, o + (j * sz + q), none⟩, n, by simp [arrV, mrow, hd], by simp [mrow, hd], hn, .inr ⟨b, o + (j * sz + q), rfl, fun k u hk => ?_⟩⟩
  have hk2 : (bys d)[k]? = some u := by simpa [mrow, bys] using hk
  rw [← pc.h.1, List.getElem?_take] at hk2
  split at hk2
  · rw [List.getElem?_drop] at hk2
    have := hc _ _ hk2
    rw [← this]
    congr 2
    omega
  · cases hk2⟩
end
end VK
