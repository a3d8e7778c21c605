/- Own framework, part 8: what the rows of statements need: memory ahead of the call, arguments read. No conditions. -/
import Derived.Test.YtmjmlmjcfekphaaV1
import Derived.Below
import Derived.Carry
import Derived.ChangeArms
import Derived.OpenShut
namespace VK
open Go Go.ChangeShapes Go.RowKit

/-! ### the memory ahead of the call -/
def base (W : World) : Atom := fun h => ∀ b o, W.heap[b]? = some o → h b = some o
theorem st_base (W : World) : St W [base W] W := ⟨rfl, rfl, rfl, fun b => W.heap[b]?, fun _ => none, ⟨fun _ => .inr rfl, fun _ _ e => e, fun _ _ e => (by cases e)⟩, fun _ _ e => e, trivial⟩
theorem base_heap {W W' : World} {L : List Atom} (hs : St W (base W :: L) W') : ∀ (b : Nat) (o : Obj), W.heap[b]? = some o → W'.heap[b]? = some o := fun b o e => by
  obtain ⟨h1, h2, ⟨_, i1, _⟩, ha, _⟩ := hs.heap
  exact i1 b o (ha b o e)
theorem below_of {W W' : World} {L : List Atom} (hs : St W (base W :: L) W') : Below W.heap.size W W' := by
  have hh := base_heap hs
  refine ⟨hs.os, hs.tape, hs.output, ?_, fun k hk => ?_⟩
  · by_cases h0 : W.heap.size = 0
    · omega
    · have := hh (W.heap.size - 1) (W.heap[W.heap.size - 1]'(by omega)) (by simp)
      have := (Array.getElem?_eq_some_iff.1 this).1
      omega
  · have e : W.heap[k]? = some W.heap[k] := by simp [hk]
    rw [e]
    exact hh k _ e
theorem rd_base {W : World} {v : Value} {r : Row} (h : RdW W v r) : Rd [base W] v r := ⟨fun W0 w hs => by
  have hh : ∀ (b : Nat) (o : Obj), W.heap[b]? = some o → w.heap[b]? = some o := fun b o e => by
    obtain ⟨h1, h2, ⟨_, i1, _⟩, ha, _⟩ := hs.heap
    exact i1 b o (ha b o e)
  unfold RdW at h ⊢
  obtain ⟨h1, h2, a, cap, h3, h4, h5, h6⟩ := h
  refine ⟨h1, h2, a, cap, h3, h4, h5, h6.imp id ?_⟩
  rintro ⟨b, o, rfl, hc⟩
  refine ⟨b, o, rfl, fun j u hj => ?_⟩
  have := hc j u hj
  simp only [World.cell?] at this ⊢
  cases hb : W.heap[b]? with
  | none => rw [hb] at this; cases this
  | some x => rw [hb] at this; rw [hh b x hb]; exact this⟩
theorem law_calls {P : Program} {f : FuncId} {args : List Value} {W : World} (h : Fn P f args [base W] fun v L' => v = .bool true ∧ L' = [base W]) :
    Calls P f args.toArray W fun e W' => e = .returned (.bool true) ∧ Below W.heap.size W W' := by
  unfold Fn at h
  refine (h W W (st_base W)).mono ?_
  rintro e W' ⟨v, L', rfl, ⟨rfl, rfl⟩, hs⟩
  exact ⟨rfl, below_of hs⟩

/-! ### what is asked of the end -/
section
variable {H : Type} {enc : TypeId × Value → H} {P : Program}
theorem trodAll_below (hl : laidOutB P = true) {W W' : World} (hb : Below W.heap.size W W') : ∀ {ts : List TypeId} {vs : List Value} {ds : List (DataW H)} {ps : List MemPlace}, ts.all (fun t => P.readableRec t && decide (t < P.types.size)) = true →
    DataW.TrodAll enc P W 0 (fun _ => true) true ts vs ds ps → (∀ x ∈ ps, x.block < W.heap.size) → DataW.TrodAll enc P W' 0 (fun b => decide (b < W.heap.size)) true ts vs ds ps
  | [], [], [], _, _, h, _ => h
  | t :: ts, v :: vs, d :: ds, ps, hr, h, hlt => by
    obtain ⟨p, q, h1, h2, rfl⟩ := h
    simp only [List.all_cons, Bool.and_eq_true, decide_eq_true_eq] at hr
    exact ⟨p, q, Below.trod hl hr.1.1 hr.1.2 h1 hb (fun x hx => hlt x (List.mem_append_left _ hx)), trodAll_below hl hb hr.2 h2 (fun x hx => hlt x (List.mem_append_right _ hx)), rfl⟩
  | [], _ :: _, _, _, _, h, _ => h.elim
  | [], [], _ :: _, _, _, h, _ => h.elim
  | _ :: _, [], _, _, _, h, _ => h.elim
  | _ :: _, _ :: _, [], _, _, h, _ => h.elim
theorem law_post {f : Func} {s : ChangeSpec} {apart fresh handsOn : Bool} {W W' : World} {args : Array Value} {ds gs : List (DataW H)} {before : List MemPlace} {tb : TypeId}
    (hW : DataW.Whole enc P f.params.toList s.vars apart W args.toList ds gs before) (hb : Below W.heap.size W W') (hl : laidOutB P = true) (hr : f.params.toList.all (fun t => P.readableRec t && decide (t < P.types.size)) = true)
    (hv : s.vars = []) (hres : f.resultTypes = #[tb]) (htb : P.underlying tb = some .bool) (hs1 : (s.fn H (ds ++ [])).results = [.lit (.bool true)]) (hs2 : (s.fn H (ds ++ [])).args = ds) (hs3 : (s.fn H (ds ++ [])).vars = []) :
    s.post enc P f apart fresh handsOn false W args (.bool true) W' := by
  have hW' := hW
  obtain ⟨p, q, hA, hV, hps, hfz, hnd⟩ := hW
  have hq : gs = [] ∧ q = [] := by
    rw [hv] at hV
    cases gs with
    | nil => exact ⟨rfl, hV⟩
    | cons => exact hV.elim
  obtain ⟨rfl, rfl⟩ := hq
  have hlt : ∀ x ∈ p, x.block < W.heap.size := fun x hx => hW'.lt x (by rw [hps]; exact List.mem_append_left _ hx)
  refine ⟨ds, [], before, [], p, [], hW', ?_, ?_, ?_, Below.frame hb _, fun h => by cases h⟩
  · rw [hs1, hres]
    exact trodAll_cons_mk (shut_bool htb _) trodAll_mk0
  · rw [hs2]
    exact trodAll_below hl hb hr hA hlt
  · rw [hs3, hv]
    rfl
end

/-! ### reading the arguments -/
class BulkC (B : {H : Type} → DataW H → Nat) (BA : {H : Type} → List (DataW H) → Nat) : Prop where
  str : ∀ {H : Type} (b : List UInt8), B (H := H) (.lit (.string b)) = b.length + 1
  lit : ∀ {H : Type} (l : Lit), 1 ≤ B (H := H) (.lit l)
  dnil : ∀ {H : Type}, B (H := H) .nil = 1
  ptr : ∀ {H : Type} (d : DataW H), B (.ptr d) = B d + 1
  slice : ∀ {H : Type} (e s : List (DataW H)), B (.slice e s) = BA e + BA s + 1
  agg : ∀ {H : Type} (p : List (DataW H)), B (.agg p) = BA p + 1
  nil : ∀ {H : Type}, BA (H := H) [] = 0
  cons : ∀ {H : Type} (d : DataW H) (r : List (DataW H)), BA (d :: r) = B d + BA r
/-- what of type t is read: as f a, of some a that is good, of weight w a -/
structure Dec (B : {H : Type} → DataW H → Nat) (P : Program) (W : World) (t : TypeId) {α : Type} (f : α → List Value) (n : Nat) (good : α → Prop) (wt : α → Nat) : Prop where
  size : P.cellsOf t = n
  len : ∀ a, (f a).length = n
  one : ∀ a, good a → ∀ u ∈ f a, u.oneCell' = true
  dec : ∀ {H : Type} (enc : TypeId × Value → H) (fuel : Nat) (cs : List Value) (x : DataW H × List MemPlace), DataW.trod enc P W 0 (fun _ => true) true fuel t cs = some x → ∃ a, cs = f a ∧ good a ∧ wt a ≤ B x.1
section
variable {B : {H : Type} → DataW H → Nat} {BA : {H : Type} → List (DataW H) → Nat} (bc : BulkC B BA) {P : Program} {W : World} {t e : TypeId}
include bc
theorem Dec.int {k : IntKind} (ht : P.underlying t = some (.int k)) (hs : P.cellsOf t = 1) : Dec B P W t (fun z : Int => [.int k z]) 1 (inR k) (fun _ => 1) where
  size := hs
  len _ := rfl
  one _ _ u hu := by simp at hu; subst hu; rfl
  dec enc fuel cs x h := by
    obtain ⟨n, rfl, rfl, hw⟩ := DataW.trod_int ht h
    refine ⟨n, rfl, ?_, bc.lit _⟩
    simp only [Lit.wf, Bool.and_eq_true, decide_eq_true_eq] at hw
    cases k <;> simp [IntKind.min, IntKind.max, IntKind.bits, IntKind.signed] at hw <;> simp only [inR] <;> omega
theorem Dec.bool (ht : P.underlying t = some .bool) (hs : P.cellsOf t = 1) : Dec B P W t (fun b : Bool => [.bool b]) 1 (fun _ => True) (fun _ => 1) where
  size := hs
  len _ := rfl
  one _ _ u hu := by simp at hu; subst hu; rfl
  dec enc fuel cs x h := by
    obtain ⟨b, rfl, rfl⟩ := DataW.trod_bool ht h
    exact ⟨b, rfl, trivial, bc.lit _⟩
theorem Dec.str (ht : P.underlying t = some .string) (hs : P.cellsOf t = 1) : Dec B P W t (fun l : List UInt8 => [str l]) 1 (fun l => l.length ≤ maxLen) (fun l => l.length + 1) where
  size := hs
  len _ := rfl
  one _ _ u hu := by simp at hu; subst hu; rfl
  dec enc fuel cs x h := by
    obtain ⟨s, rfl, rfl, hm⟩ := DataW.trod_string ht h
    have hl : s.data.toList.length = s.size := by rw [Array.length_toList]; rfl
    refine ⟨s.data.toList, by simp [VK.str], by rw [hl]; exact hm, by rw [bc.str]; exact Nat.le_refl _⟩
theorem bulk_app {H : Type} (l m : List (DataW H)) : BA (l ++ m) = BA l + BA m := by
  induction l with
  | nil => simp [bc.nil]
  | cons d l ih => simp [bc.cons, ih]; omega
omit bc in
theorem RdW.mk {v : Value} {r : Row} (h1 : r.xs.length = r.n * r.sz) (h2 : ∀ u ∈ r.xs, u.oneCell' = true) (h3 : ∃ a cap, v = .slice a r.n cap ∧ r.n ≤ cap ∧ cap ≤ maxLen ∧
    (r.xs = [] ∨ ∃ b o, a = some ⟨b, o, none⟩ ∧ ∀ j u, r.xs[j]? = some u → W.cell? ⟨b, o + j, none⟩ = some u)) : RdW W v r := by
  unfold RdW
  exact ⟨h1, h2, h3⟩
theorem Dec.slice {β : Type} {g : β → List Value} {n : Nat} {good : β → Prop} {w : β → Nat} (ht : P.underlying t = some (.slice e)) (hs : P.cellsOf t = 1) (hn : 0 < n) (D : Dec B P W e g n good w) :
    Dec B P W t (fun p : Value × List β => [p.1]) 1 (fun p => RdW W p.1 (frow g n e p.2) ∧ ∀ b ∈ p.2, good b) (fun p => (p.2.map w).sum + 1) where
  size := hs
  len _ := rfl
  one a ha u hu := by
    simp at hu; subst hu
    have := ha.1
    unfold RdW at this
    obtain ⟨_, _, a', cap, h, _⟩ := this
    rw [h]; rfl
  dec enc fuel cs x h := by
    rcases DataW.trod_slice ht h with ⟨rfl, rfl⟩ | ⟨a, len, cap, elems, rest, m, rfl, rfl, rfl, _, hlc, hcm, hel, hx, _, _⟩
    · refine ⟨(.slice none 0 0, []), rfl, ⟨RdW.mk (by simp [frow]) (by simp [frow]) ⟨none, 0, rfl, by simp [frow], by simp [maxLen], .inl (by simp [frow])⟩, by simp⟩, ?_⟩
      rw [bc.dnil]; simp
    · have key : ∀ k, k ≤ len → ∃ l : List β, l.length = k ∧ (∀ i (hi : i < l.length), good l[i] ∧ W.cells? 0 (a.add (i * P.cellsOf e)) (P.cellsOf e) = some (g l[i])) ∧ (l.map w).sum ≤ BA ((elems.take k).map (·.1)) := by
        intro k
        induction k with
        | zero => intro _; exact ⟨[], rfl, fun i hi => absurd hi (by simp), by simp⟩
        | succ k ih =>
          intro hk
          obtain ⟨l, hl, h1, h2⟩ := ih (by omega)
          have hk' : k < elems.length := by omega
          have hxk := hx k (by omega)
          rw [List.getElem?_eq_getElem hk'] at hxk
          cases hc : W.cells? 0 (a.add (k * P.cellsOf e)) (P.cellsOf e) with
          | none => rw [hc] at hxk; simp at hxk
          | some cs =>
            rw [hc] at hxk
            obtain ⟨b, rfl, hg, hw⟩ := D.dec enc m cs _ hxk
            refine ⟨l ++ [b], by simp [hl], fun i hi => ?_, ?_⟩
            · by_cases hik : i < l.length
              · rw [List.getElem_append_left hik]; exact h1 i hik
              · have : i = k := by simp at hi; omega
                subst this
                rw [List.getElem_append_right (by omega)]
                simp only [show i - l.length = 0 by omega, List.getElem_singleton]
                exact ⟨hg, hc⟩
            · rw [List.take_succ_eq_append_getElem hk']
              simp only [List.map_append, bulk_app bc, List.sum_append, List.map_cons, List.map_nil, List.sum_cons, List.sum_nil, bc.cons, bc.nil]
              omega
      obtain ⟨l, hl, h1, h2⟩ := key len (Nat.le_refl _)
      have hsz := D.size
      rw [hsz] at h1
      have hflen : ∀ l : List β, (l.flatMap g).length = l.length * n := by
        intro l
        induction l with
        | nil => simp
        | cons b l ih => simp [ih, D.len, Nat.add_mul]; omega
      refine ⟨(.slice (some a) len cap, l), rfl, ⟨RdW.mk ?_ ?_ ⟨some a, cap, by simp [frow, hl], by simp [frow, hl]; exact hlc, hcm, ?_⟩, fun b hb => ?_⟩, ?_⟩
      · simp [frow, hflen]
      · intro u hu
        simp only [frow, List.mem_flatMap] at hu
        obtain ⟨b, hb, hu⟩ := hu
        obtain ⟨i, hi, rfl⟩ := List.getElem_of_mem hb
        exact D.one _ (h1 i hi).1 u hu
      · by_cases h0 : l = []
        · left; simp [frow, h0]
        · right
          have hl0 : 0 < l.length := List.length_pos_iff.2 h0
          have hcell : ∀ i (hi : i < l.length) r, r < n → W.cell? ((a.add (i * n)).add r) = (g l[i])[r]? := fun i hi r hr => (World.cells?_some (h1 i hi).2).2.2 r hr
          have hspot : a.spot = none := by
            have := hcell 0 hl0 0 hn
            simp only [Nat.zero_mul, Addr.add, if_true] at this
            have hg0 : (g l[0])[0]? ≠ none := by simp [D.len]; omega
            rw [← this] at hg0
            unfold World.cell? at hg0
            split at hg0
            · cases hsp : a.spot with
              | none => rfl
              | some s => rw [hsp] at hg0; simp at hg0
            · exact absurd rfl hg0
          refine ⟨a.block, a.off, by cases a; simp at hspot; subst hspot; rfl, fun j u hj => ?_⟩
          simp only [frow] at hj
          have hjl : j < l.length * n := by rw [← hflen]; exact (List.getElem?_eq_some_iff.1 hj).1
          have hi : j / n < l.length := (Nat.div_lt_iff_lt_mul hn).2 hjl
          have hr : j % n < n := Nat.mod_lt _ hn
          haveI : Inhabited β := ⟨l[0]⟩
          have hat := flatMap_at D.len hi (j % n) ((g l[j / n])[j % n]'(by rw [D.len]; exact hr)) (by
            rw [show l.getD (j / n) default = l[j / n] by simp [hi]]; simp [D.len, hr])
          have hj2 : j / n * n + j % n = j := Nat.div_add_mod' j n
          rw [hj2, hj] at hat
          cases hat
          have hc := hcell (j / n) hi (j % n) hr
          rw [List.getElem?_eq_getElem (by rw [D.len]; exact hr)] at hc
          rw [← hc]
          congr 1
          obtain ⟨ab, ao, asp⟩ := a
          simp only at hspot
          subst hspot
          have hadd : ∀ (o q : Nat), (⟨ab, o, none⟩ : Addr).add q = ⟨ab, o + q, none⟩ := fun o q => add_at ab o q
          rw [hadd, hadd, Nat.add_assoc, hj2]
      · obtain ⟨i, hi, rfl⟩ := List.getElem_of_mem hb
        exact (h1 i hi).1
      · rw [bc.slice]
        rw [List.take_of_length_le (by omega)] at h2
        simp only
        omega
omit bc in
theorem Dec.map {α β : Type} {f : α → List Value} {f' : β → List Value} {n : Nat} {good : α → Prop} {good' : β → Prop} {w : α → Nat} {w' : β → Nat} (φ : α → β) (D : Dec B P W t f n good w) (hl : ∀ b, (f' b).length = n) (h1 : ∀ b, good' b → ∀ u ∈ f' b, u.oneCell' = true)
    (hf : ∀ a, good a → f a = f' (φ a)) (hg : ∀ a, good a → good' (φ a)) (hw : ∀ a, w' (φ a) ≤ w a) : Dec B P W t f' n good' w' where
  size := D.size
  len := hl
  one := h1
  dec enc fuel cs x h := by
    obtain ⟨a, rfl, h2, h3⟩ := D.dec enc fuel cs x h
    exact ⟨φ a, hf a h2, hg a h2, Nat.le_trans (hw a) h3⟩
end
/-- fields, one behind the other -/
structure DecF (B : {H : Type} → DataW H → Nat) (BA : {H : Type} → List (DataW H) → Nat) (P : Program) (W : World) (fs : List Field) (off : Nat) {α : Type} (f : α → List Value) (n : Nat) (good : α → Prop) (wt : α → Nat) : Prop where
  len : ∀ a, (f a).length = n
  one : ∀ a, good a → ∀ u ∈ f a, u.oneCell' = true
  dec : ∀ {H : Type} (enc : TypeId × Value → H) (m : Nat) (cs : List Value) (xs : List (DataW H × List MemPlace)), cs.length = off + n → xs.length = fs.length →
    (∀ (i : Nat) (fld : Field), fs[i]? = some fld → DataW.trod enc P W 0 (fun _ => true) true m fld.type ((cs.drop fld.offset).take (P.cellsOf fld.type)) = xs[i]?) → ∃ a, cs.drop off = f a ∧ good a ∧ wt a ≤ BA (xs.map (·.1))
section
variable {B : {H : Type} → DataW H → Nat} {BA : {H : Type} → List (DataW H) → Nat} (bc : BulkC B BA) {P : Program} {W : World} {t e : TypeId}
theorem DecF.nil {off : Nat} : DecF B BA P W [] off (fun _ : Unit => []) 0 (fun _ => True) (fun _ => 0) where
  len _ := rfl
  one _ _ u hu := by cases hu
  dec enc m cs xs hl _ _ := ⟨(), List.drop_eq_nil_of_le (by omega), trivial, Nat.zero_le _⟩
include bc
theorem DecF.cons {fld : Field} {fs : List Field} {off : Nat} {α β : Type} {g : α → List Value} {f : β → List Value} {k n : Nat} {good : α → Prop} {good' : β → Prop} {w : α → Nat} {w' : β → Nat} (ho : fld.offset = off) (D : Dec B P W fld.type g k good w) (F : DecF B BA P W fs (off + k) f n good' w') :
    DecF B BA P W (fld :: fs) off (fun p : α × β => g p.1 ++ f p.2) (k + n) (fun p => good p.1 ∧ good' p.2) (fun p => w p.1 + w' p.2) where
  len p := by rw [List.length_append, D.len, F.len]
  one p hp u hu := by
    rcases List.mem_append.1 hu with hu | hu
    · exact D.one _ hp.1 u hu
    · exact F.one _ hp.2 u hu
  dec {H} enc m cs xs hl hx h := by
    cases xs with
    | nil => simp at hx
    | cons x xs =>
      have h0 := h 0 fld rfl
      rw [ho, D.size] at h0
      obtain ⟨a, ha, hg, hw⟩ := D.dec enc m _ x (by simpa using h0)
      obtain ⟨b, hb, hg', hw'⟩ := F.dec enc m cs xs (by omega) (by simpa using hx) fun i f' hf' => by simpa using h (i + 1) f' (by simpa using hf')
      refine ⟨(a, b), ?_, ⟨hg, hg'⟩, ?_⟩
      · rw [← ha, ← hb, ← List.drop_drop]
        exact (List.take_append_drop k _).symm
      · simp only [List.map_cons, bc.cons]
        omega
theorem Dec.struct {fs : Array Field} {α : Type} {f : α → List Value} {n : Nat} {good : α → Prop} {w : α → Nat} (ht : P.underlying t = some (.struct fs)) (hs : P.cellsOf t = n) (F : DecF B BA P W fs.toList 0 f n good w) : Dec B P W t f n good (fun a => w a + 1) where
  size := hs
  len := F.len
  one := F.one
  dec {H} enc fuel cs x h := by
    obtain ⟨xs, m, rfl, rfl, hl, hxl, hx⟩ := DataW.trod_struct ht h
    obtain ⟨a, ha, hg, hw⟩ := F.dec enc m cs xs (by omega) (by simpa using hxl) fun i fld hf => hx i fld (by simpa using hf)
    refine ⟨a, by simpa using ha, hg, ?_⟩
    rw [bc.agg]
    omega
end
end VK
