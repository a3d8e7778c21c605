/- How a law's arguments are read. Conditions: none. -/
import Derived.Test.YtmjmlmjcfekphaaRows
import Derived.Test.YtmjmlmjcfekphaaT
import Derived.Test.YtmjmlmjcfekphaaV2
import Derived.WalkKit
import Derived.ProofKit
import Derived.OpenShut
import Derived.JoinedCond
namespace VK
open Go Go.Proofs Go.WideShapes
set_option linter.unusedSimpArgs false
set_option linter.unusedVariables false
set_option maxRecDepth 100000
set_option maxHeartbeats 40000000
theorem bulkC : BulkC (fun {H} => @Go.Proofs.Ytmjmlmjcfekphaa.Rows.uptoBulk H) (fun {H} => @Go.Proofs.Ytmjmlmjcfekphaa.Rows.uptoBulkAll H) where
  str _ := rfl
  lit l := by cases l <;> first | exact Nat.le_refl _ | exact Nat.succ_le_succ (Nat.zero_le _)
  dnil := rfl
  ptr _ := rfl
  slice _ _ := rfl
  agg _ := rfl
  nil := rfl
  cons _ _ := rfl
theorem frow_one {α : Type} {f : α → Value} {e : TypeId} (l : List α) : frow (fun b => [f b]) 1 e l = mrow f e l := by
  unfold frow mrow
  congr 1
  induction l with
  | nil => rfl
  | cons a l ih => simp only [List.flatMap_cons, List.map_cons, ih, List.singleton_append]
section
variable {H : Type} {enc : TypeId × Value → H} {W : World} {bs : Nat} {v : Value} {d : DataW H} {p : List MemPlace} {t e : TypeId}
theorem openSl {α : Type} {g : α → List Value} {n : Nat} {good : α → Prop} {wt : α → Nat} (tu : Try.prog.underlying t = some (.slice e)) (hs : Try.prog.cellsOf t = 1) (hn : 0 < n) (D : Dec (fun {H} => @Go.Proofs.Ytmjmlmjcfekphaa.Rows.uptoBulk H) Try.prog W e g n good wt)
    (hv : Value.okWide Try.prog W .any bs t v) (h : DataW.Trod enc Try.prog W 0 (fun _ => true) true t v d p) :
    ∃ l, Rd [base W] v (frow g n e l) ∧ (∀ a ∈ l, good a) ∧ (l.map wt).sum + 1 ≤ Go.Proofs.Ytmjmlmjcfekphaa.Rows.uptoBulk d := by
  obtain ⟨fuel, h⟩ := h
  obtain ⟨⟨u, l⟩, hc, ⟨hrd, hok⟩, hw⟩ := (Dec.slice bulkC tu hs hn D).dec enc fuel _ _ h
  obtain ⟨a0, n0, c0, rfl⟩ := okWide_slice tu hv
  obtain rfl : Value.slice a0 n0 c0 = u := by simpa [Value.cells] using hc
  exact ⟨l, rd_base hrd, hok, hw⟩
theorem openSt {α : Type} {g : α → List Value} {n : Nat} {good : α → Prop} {wt : α → Nat} {fs : Array Field} (tu : Try.prog.underlying t = some (.struct fs)) (D : Dec (fun {H} => @Go.Proofs.Ytmjmlmjcfekphaa.Rows.uptoBulk H) Try.prog W t g n good wt)
    (hv : Value.okWide Try.prog W .any bs t v) (h : DataW.Trod enc Try.prog W 0 (fun _ => true) true t v d p) : ∃ a, v = agg (g a) ∧ good a ∧ wt a ≤ Go.Proofs.Ytmjmlmjcfekphaa.Rows.uptoBulk d := by
  obtain ⟨fuel, h⟩ := h
  obtain ⟨a, hc, hg, hw⟩ := D.dec enc fuel _ _ h
  obtain ⟨cs, rfl, _⟩ := okWide_struct tu hv
  refine ⟨a, ?_, hg, hw⟩
  have hc : cs.toList = g a := hc
  rw [agg, ← hc]
theorem openInt {k : IntKind} (tu : Try.prog.underlying t = some (.int k)) (hs : Try.prog.cellsOf t = 1) (hv : Value.okWide Try.prog W .any bs t v) (h : DataW.Trod enc Try.prog W 0 (fun _ => true) true t v d p) : ∃ z, v = .int k z ∧ inR k z := by
  obtain ⟨fuel, h⟩ := h
  obtain ⟨z, hc, hg, _⟩ := (Dec.int bulkC tu hs : Dec _ Try.prog W t _ _ _ _).dec enc fuel _ _ h
  obtain ⟨n, rfl⟩ := okWide_int tu hv
  have : n = z := by simpa [Value.cells] using hc
  subst this
  exact ⟨n, rfl, hg⟩
theorem openBool (tu : Try.prog.underlying t = some .bool) (hs : Try.prog.cellsOf t = 1) (hv : Value.okWide Try.prog W .any bs t v) (h : DataW.Trod enc Try.prog W 0 (fun _ => true) true t v d p) : ∃ b, v = .bool b := by
  obtain ⟨fuel, h⟩ := h
  obtain ⟨z, hc, hg, _⟩ := (Dec.bool bulkC tu hs : Dec _ Try.prog W t _ _ _ _).dec enc fuel _ _ h
  obtain ⟨n, rfl⟩ := okWide_bool tu hv
  exact ⟨n, rfl⟩
theorem openStr (tu : Try.prog.underlying t = some .string) (hs : Try.prog.cellsOf t = 1) (hv : Value.okWide Try.prog W .any bs t v) (h : DataW.Trod enc Try.prog W 0 (fun _ => true) true t v d p) : ∃ s, v = str s ∧ s.length + 1 ≤ Go.Proofs.Ytmjmlmjcfekphaa.Rows.uptoBulk d := by
  obtain ⟨fuel, h⟩ := h
  obtain ⟨z, hc, hg, hw⟩ := (Dec.str bulkC tu hs : Dec _ Try.prog W t _ _ _ _).dec enc fuel _ _ h
  obtain ⟨n, rfl⟩ := okWide_string tu hv
  have : Value.string n = str z := by simpa [Value.cells] using hc
  exact ⟨z, this, hw⟩
/-- bytes -/
theorem decByte (tu : Try.prog.underlying t = some (.int .u8)) (hs : Try.prog.cellsOf t = 1) : Dec (fun {H} => @Go.Proofs.Ytmjmlmjcfekphaa.Rows.uptoBulk H) Try.prog W t (fun b : UInt8 => [by8 b]) 1 (fun _ => True) (fun _ => 1) :=
  (Dec.int bulkC tu hs).map (fun z => UInt8.ofNat z.toNat) (fun _ => rfl) (fun b _ u hu => by simp at hu; subst hu; rfl)
    (fun z hz => by simp only [inR] at hz; rw [by8_of (by omega) (by omega)]) (fun _ _ => trivial) (fun _ => Nat.le_refl _)
theorem openBytes (tu : Try.prog.underlying t = some (.slice e)) (hs : Try.prog.cellsOf t = 1) (te : Try.prog.underlying e = some (.int .u8)) (hes : Try.prog.cellsOf e = 1)
    (hv : Value.okWide Try.prog W .any bs t v) (h : DataW.Trod enc Try.prog W 0 (fun _ => true) true t v d p) : ∃ l : List UInt8, Rd [base W] v (mrow by8 e l) ∧ l.length + 1 ≤ Go.Proofs.Ytmjmlmjcfekphaa.Rows.uptoBulk d := by
  obtain ⟨l, h1, _, h2⟩ := openSl tu hs (by decide) (decByte te hes) hv h
  refine ⟨l, h1.as (frow_one l), ?_⟩
  have : ∀ l : List UInt8, (l.map fun _ => 1).sum = l.length := fun l => by
    induction l with
    | nil => rfl
    | cons a l ih => simp only [List.map_cons, List.sum_cons, ih, List.length_cons]; omega
  have := this l
  omega
end
theorem sum_le {α : Type} {f g : α → Nat} (h : ∀ a, f a ≤ g a) : ∀ l : List α, (l.map f).sum ≤ (l.map g).sum
  | [] => by simp
  | a :: l => by
    have := sum_le h l
    have := h a
    simp only [List.map_cons, List.sum_cons]
    omega
theorem le_sum {α : Type} {f : α → Nat} {l : List α} {a : α} (h : a ∈ l) : f a ≤ (l.map f).sum := by
  induction l with
  | nil => cases h
  | cons b l ih =>
    simp only [List.map_cons, List.sum_cons]
    rcases List.mem_cons.1 h with rfl | h
    · omega
    · have := ih h; omega
end VK
