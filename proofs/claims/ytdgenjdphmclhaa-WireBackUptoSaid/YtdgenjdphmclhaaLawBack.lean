/- The row WireBack (bulk bounded). Conditions: none. -/
import Derived.Test.YtdgenjdphmclhaaLawWrites
import Derived.Test.YtdgenjdphmclhaaBack
namespace VK
open Go Go.Proofs Go.WideShapes
set_option linter.unusedSimpArgs false
set_option linter.unusedVariables false
set_option maxRecDepth 100000
set_option maxHeartbeats 2000000
theorem openFlds {H : Type} {enc : TypeId × Value → H} {W : World} {bs : Nat} {v : Value} {d : DataW H} {p : List MemPlace} (hv : Value.okWide Try.prog W .any bs 22 v) (h : DataW.Trod enc Try.prog W 0 (fun _ => true) true 22 v d p) (hb : Go.Proofs.Ytdgenjdphmclhaa.Rows.uptoBulk d ≤ 1048576) :
    ∃ l, Rd [base W] v (frow fldC 4 31 l) ∧ (∀ f ∈ l, f.ok ∧ f.s.length ≤ 1048576) ∧ wt l ≤ 140737480000000 := by
  obtain ⟨fuel, h⟩ := h
  obtain ⟨⟨u, l⟩, hc, ⟨hrd, hok⟩, hw⟩ := (Dec.slice bulkC Try.underlying22 (by kernel_rfl) (by decide) (decFld W)).dec enc fuel _ _ h
  obtain ⟨a0, n0, c0, rfl⟩ := okWide_slice Try.underlying22 hv
  obtain rfl : Value.slice a0 n0 c0 = u := by simpa [Value.cells] using hc
  dsimp only at hw
  have hs : (l.map fun f => f.s.length + 4).sum ≤ 1048576 := by omega
  refine ⟨l, rd_base hrd, fun f hf => ⟨hok f hf, by have := le_sum (f := fun f : Fld => f.s.length + 4) hf; omega⟩, ?_⟩
  have := sum_le (f := fun f : Fld => 42 + f.s.length) (g := fun f => f.s.length + 4) (k := 42) (fun f => by omega) l
  unfold wt; omega
theorem openInt {H : Type} {enc : TypeId × Value → H} {W : World} {bs : Nat} {v : Value} {d : DataW H} {p : List MemPlace} (hv : Value.okWide Try.prog W .any bs 3 v) (h : DataW.Trod enc Try.prog W 0 (fun _ => true) true 3 v d p) :
    ∃ z, v = .int .i64 z ∧ -9223372036854775808 ≤ z ∧ z ≤ 9223372036854775807 := by
  obtain ⟨fuel, h⟩ := h
  obtain ⟨z, hc, hg, _⟩ := (Dec.int bulkC Try.underlying3 (by kernel_rfl) : Dec _ Try.prog W 3 _ _ _ _).dec enc fuel _ _ h
  obtain ⟨n, rfl⟩ := okWide_int Try.underlying3 hv
  have : n = z := by simpa [Value.cells] using hc
  subst this
  exact ⟨n, rfl, hg⟩
end VK
namespace Go.Proofs.Ytdgenjdphmclhaa.wireBack
open Go.ChangeShapes Go.WideShapes Go.ChangeAt Go.RowKit

theorem own : ownKnob Try.prog.godebug = none := by kernel_rfl
theorem contract (H : Type) (enc : TypeId × Value → H) (W : World) (base : Nat) (args : Array Value) (ds gs : List (DataW H)) (before : List MemPlace)
    (hval : ∀ (j : Nat) t v, Try.f8.params[j]? = some t → args[j]? = some v → Value.okWide Try.prog W .any base t v)
    (hW : DataW.Whole enc Try.prog Try.f8.params.toList Rows.wireBackSpec.vars false W args.toList ds gs before) (hk : Rows.uptoSmall H (ds ++ gs) = true) :
    Calls Try.prog 8 args W fun e W' => ∃ v, e = .returned v ∧ Rows.wireBackSpec.post enc Try.prog Try.f8 false true false false W args v W' := by
  have hW' := hW
  obtain ⟨p, q, hA, hV, rfl, hfz, hnd⟩ := hW
  rw [Try.params8] at hA hval
  obtain ⟨v0, vs0, d0, ds0, p0, q0, hargs, rfl, rfl, h0, r0⟩ := trodAll_cons hA
  obtain ⟨v1, vs1, d1, ds1, p1, q1, rfl, rfl, rfl, h1, r1⟩ := trodAll_cons r0
  obtain ⟨rfl, rfl, rfl⟩ := trodAll_nil r1
  obtain rfl : args = #[v0, v1] := by cases args; simp_all
  obtain ⟨rfl, rfl⟩ := trodVars_none hV
  have hb : Rows.uptoBulkAll [d0, d1] ≤ 1048576 := by simpa using of_decide_eq_true hk
  simp only [Rows.uptoBulkAll] at hb
  obtain ⟨l, hrd, hl, hwt⟩ := VK.openFlds (hval 0 _ v0 rfl rfl) h0 (by omega)
  obtain ⟨z, rfl, hz⟩ := VK.openInt (hval 1 _ v1 rfl rfl) h1
  refine (VK.law_calls (VK.WireBack_c [VK.base W] v0 l z hz hl hwt)).mono fun e W' ⟨he, hg⟩ => ?_
  subst he
  exact ⟨_, rfl, VK.law_post hW' hg (by kernel_rfl) (by kernel_rfl) rfl rfl Try.underlying4 rfl rfl rfl⟩

set_option maxRecDepth 100000 in
theorem lifted (os : Os) (started : os.Started) (H : Type) (enc : TypeId × Value → H) (F : Stop.Interp) :
    ReturnsInHanded {} Try.checked os 8 .any ((Rows.OpenSpec.upto Rows.wireBackSpec).pre6 enc Try.prog Try.f8 Rows.wireBackUptoRow.domain false) (((Rows.OpenSpec.upto Rows.wireBackSpec).at F).post enc Try.prog Try.f8 false true false false) := by
  refine returnsInHanded_of_cond (C := Try.checked) (s := Rows.OpenSpec.upto Rows.wireBackSpec) (k := Rows.uptoSmall) rfl own started (by kernel_rfl) Try.func8
    (OpenSpec.witness (enc := enc) (C := Try.checked) (s := Rows.OpenSpec.upto Rows.wireBackSpec) (k := Rows.uptoSmall) rfl false ⟨#[], #[.slice none 0 0, .int .i64 0], []⟩ 8 (by kernel_rfl) (by kernel_rfl) (by kernel_rfl)
      (x := ([.nil, .lit (.int .i64 0)], [], [])) (by kernel_rfl) rfl (by kernel_rfl)) ?_
  intro W base args ds gs before hval hW _ hk _
  exact contract H enc W base args ds gs before hval hW hk

theorem proved : Rows.WireBackUptoSaid :=
  OpenClaim.holds_of_cond 8 Try.f8 rfl rfl rfl rfl rfl rfl rfl ⟨rfl, rfl, rfl, rfl, rfl⟩ rfl rfl rfl rfl rfl (by kernel_rfl) Try.func8 (by kernel_rfl)
    (of_decide_eq_true (by kernel_rfl)) (by unfold Func.isWrapper; first | (rw [if_pos (by decide +kernel)]; kernel_rfl) | (rw [if_neg (by decide +kernel)]; exact ⟨rfl, rfl⟩))
    (fun os started H enc _ F => lifted os started H enc F)
end Go.Proofs.Ytdgenjdphmclhaa.wireBack
