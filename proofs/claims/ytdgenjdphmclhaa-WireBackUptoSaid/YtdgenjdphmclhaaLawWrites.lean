/- The row WireWrites (bulk bounded). Conditions: none. -/
import Derived.Test.YtdgenjdphmclhaaRows
import Derived.Test.YtdgenjdphmclhaaWrites
import Derived.Test.YtdgenjdphmclhaaV2
import Derived.WalkKit
import Derived.ProofKit
import Derived.OpenShut
import Derived.JoinedCond
namespace VK
open Go Go.Proofs
set_option linter.unusedSimpArgs false
set_option linter.unusedVariables false
set_option maxRecDepth 100000
set_option maxHeartbeats 2000000
theorem bulkC : BulkC (fun {H} => @Go.Proofs.Ytdgenjdphmclhaa.Rows.uptoBulk H) (fun {H} => @Go.Proofs.Ytdgenjdphmclhaa.Rows.uptoBulkAll H) where
  str _ := rfl
  lit l := by cases l <;> first | exact Nat.le_refl _ | exact Nat.succ_le_succ (Nat.zero_le _)
  dnil := rfl
  ptr _ := rfl
  slice _ _ := rfl
  agg _ := rfl
  nil := rfl
  cons _ _ := rfl
theorem decFld (W : World) : Dec (fun {H} => @Go.Proofs.Ytdgenjdphmclhaa.Rows.uptoBulk H) Try.prog W 31 fldC 4 Fld.ok (fun f => f.s.length + 4) :=
  (Dec.struct bulkC Try.underlying31 (by kernel_rfl)
    (DecF.cons bulkC rfl (Dec.int bulkC Try.underlying3 (by kernel_rfl)) (DecF.cons bulkC rfl (Dec.int bulkC Try.underlying29 (by kernel_rfl)) (DecF.cons bulkC rfl (Dec.str bulkC Try.underlying9 (by kernel_rfl)) (DecF.cons bulkC rfl (Dec.int bulkC Try.underlying3 (by kernel_rfl)) DecF.nil))))).map
    (fun p => ⟨p.1, p.2.1.toNat, p.2.2.1, p.2.2.2.1⟩) (fun _ => rfl) (fun f _ u hu => by simp [fldC] at hu; rcases hu with rfl | rfl | rfl | rfl <;> rfl)
    (fun p hp => by
      have := hp.2.1
      simp only [inR] at this
      simp [fldC]; omega)
    (fun p hp => by
      have h1 := hp.1
      have h2 := hp.2.1
      have h3 := hp.2.2.2.1
      simp only [inR] at h1 h2 h3
      exact ⟨h1, by simp; omega, h3⟩)
    (fun p => by simp; omega)
theorem sum_le {α : Type} {f g : α → Nat} {k : Nat} (h : ∀ a, f a ≤ k * g a) : ∀ l : List α, (l.map f).sum ≤ k * (l.map g).sum
  | [] => by simp
  | a :: l => by
    have := sum_le h l
    have := h a
    simp only [List.map_cons, List.sum_cons, Nat.mul_add]
    omega
theorem le_sum {α : Type} {f : α → Nat} {l : List α} {a : α} (h : a ∈ l) : f a ≤ (l.map f).sum := by
  induction l with
  | nil => cases h
  | cons b l ih =>
    simp only [List.map_cons, List.sum_cons]
    rcases List.mem_cons.1 h with rfl | h
    · omega
    · have := ih h; omega
end VK
namespace Go.Proofs.Ytdgenjdphmclhaa.wireWrites
open Go.ChangeShapes Go.WideShapes Go.ChangeAt Go.RowKit

theorem own : ownKnob Try.prog.godebug = none := by kernel_rfl
theorem contract (H : Type) (enc : TypeId × Value → H) (W : World) (base : Nat) (args : Array Value) (ds gs : List (DataW H)) (before : List MemPlace)
    (hval : ∀ (j : Nat) t v, Try.f3.params[j]? = some t → args[j]? = some v → Value.okWide Try.prog W .any base t v)
    (hW : DataW.Whole enc Try.prog Try.f3.params.toList Rows.wireWritesSpec.vars false W args.toList ds gs before) (hk : Rows.uptoSmall H (ds ++ gs) = true) :
    Calls Try.prog 3 args W fun e W' => ∃ v, e = .returned v ∧ Rows.wireWritesSpec.post enc Try.prog Try.f3 false true false false W args v W' := by
  have hW' := hW
  obtain ⟨p, q, hA, hV, rfl, hfz, hnd⟩ := hW
  rw [Try.params3] at hA hval
  obtain ⟨v0, vs0, d0, ds0, p0, q0, hargs, rfl, rfl, h0, r0⟩ := trodAll_cons hA
  obtain ⟨rfl, rfl, rfl⟩ := trodAll_nil r0
  obtain rfl : args = #[v0] := by cases args; simp_all
  obtain ⟨rfl, rfl⟩ := trodVars_none hV
  obtain ⟨fuel, h0⟩ := h0
  obtain ⟨⟨u, l⟩, hc, ⟨hrd, hok⟩, hw⟩ := (VK.Dec.slice VK.bulkC Try.underlying22 (by kernel_rfl) (by decide) (VK.decFld W)).dec enc fuel _ _ h0
  obtain ⟨a0, n0, c0, rfl⟩ := okWide_slice Try.underlying22 (hval 0 22 v0 rfl rfl)
  obtain rfl : Value.slice a0 n0 c0 = u := by simpa [Value.cells] using hc
  have hb : Rows.uptoBulkAll [d0] ≤ 1048576 := by simpa using of_decide_eq_true hk
  have hb' : Rows.uptoBulkAll [d0] = Rows.uptoBulk d0 := by simp [Rows.uptoBulkAll]
  dsimp only at hw
  have hs : (l.map fun f => f.s.length + 4).sum ≤ 1048576 := by omega
  haveI := VK.rd_base hrd
  have hl : ∀ f ∈ l, f.ok ∧ f.s.length ≤ 1048576 := fun f hf => ⟨hok f hf, by have := VK.le_sum (f := fun f : VK.Fld => f.s.length + 4) hf; omega⟩
  have hwt : VK.wt l ≤ 140737480000000 := by
    have := VK.sum_le (f := fun f : VK.Fld => 42 + f.s.length) (g := fun f => f.s.length + 4) (k := 42) (fun f => by omega) l
    unfold VK.wt; omega
  refine (VK.law_calls (VK.WireWrites_c [VK.base W] _ l hl hwt)).mono fun e W' ⟨he, hg⟩ => ?_
  subst he
  exact ⟨_, rfl, VK.law_post hW' hg (by kernel_rfl) (by kernel_rfl) rfl rfl Try.underlying4 rfl rfl rfl⟩
set_option maxRecDepth 100000 in
theorem lifted (os : Os) (started : os.Started) (H : Type) (enc : TypeId × Value → H) (F : Stop.Interp) :
    ReturnsInHanded {} Try.checked os 3 .any ((Rows.OpenSpec.upto Rows.wireWritesSpec).pre6 enc Try.prog Try.f3 Rows.wireWritesUptoRow.domain false) (((Rows.OpenSpec.upto Rows.wireWritesSpec).at F).post enc Try.prog Try.f3 false true false false) := by
  refine returnsInHanded_of_cond (C := Try.checked) (s := Rows.OpenSpec.upto Rows.wireWritesSpec) (k := Rows.uptoSmall) rfl own started (by kernel_rfl) Try.func3
    (OpenSpec.witness (enc := enc) (C := Try.checked) (s := Rows.OpenSpec.upto Rows.wireWritesSpec) (k := Rows.uptoSmall) rfl false ⟨#[], #[.slice none 0 0], []⟩ 8 (by kernel_rfl) (by kernel_rfl) (by kernel_rfl)
      (x := ([.nil], [], [])) (by kernel_rfl) rfl (by kernel_rfl)) ?_
  intro W base args ds gs before hval hW _ hk _
  exact contract H enc W base args ds gs before hval hW hk

theorem proved : Rows.WireWritesUptoSaid :=
  OpenClaim.holds_of_cond 3 Try.f3 rfl rfl rfl rfl rfl rfl rfl ⟨rfl, rfl, rfl, rfl, rfl⟩ rfl rfl rfl rfl rfl (by kernel_rfl) Try.func3 (by kernel_rfl)
    (of_decide_eq_true (by kernel_rfl)) (by unfold Func.isWrapper; first | (rw [if_pos (by decide +kernel)]; kernel_rfl) | (rw [if_neg (by decide +kernel)]; exact ⟨rfl, rfl⟩))
    (fun os started H enc _ F => lifted os started H enc F)
end Go.Proofs.Ytdgenjdphmclhaa.wireWrites
