/- The row WireReads (bulk bounded): out of any bytes any fields are read as the document says, and the first thing that is wrong is told. Conditions: none. -/
import Derived.Test.YtdgenjdphmclhaaRow
import Derived.Test.YtdgenjdphmclhaaReads
namespace VK
open Go Go.Proofs
set_option linter.unusedSimpArgs false
set_option linter.unusedVariables false
set_option maxRecDepth 100000
set_option maxHeartbeats 40000000
theorem decOf31 (W : World) : Dec (fun {H} => @Go.Proofs.Ytdgenjdphmclhaa.Rows.uptoBulk H) Try.prog W 31 fldC 4 Fld.ok (fun f => f.s.length + 4) :=
  (Dec.struct bulkC Try.underlying31 (by kernel_rfl)
    (DecF.cons bulkC rfl (Dec.int bulkC Try.underlying3 (by kernel_rfl)) (DecF.cons bulkC rfl (Dec.int bulkC Try.underlying29 (by kernel_rfl)) (DecF.cons bulkC rfl (Dec.str bulkC Try.underlying9 (by kernel_rfl)) (DecF.cons bulkC rfl (Dec.int bulkC Try.underlying3 (by kernel_rfl)) DecF.nil))))).map
    (fun p => ⟨p.1, p.2.1.toNat, p.2.2.1, p.2.2.2.1⟩) (fun _ => rfl) (fun f _ u hu => by simp [fldC] at hu; rcases hu with rfl | rfl | rfl | rfl <;> rfl)
    (fun p hp => by
      have := hp.2.1
      simp only [inR] at this
      simp [fldC]; omega)
    (fun p hp => by
      have h1 := hp.1
      have h2 := hp.2.1
      have h3 := hp.2.2.2.1
      simp only [inR] at h1 h2 h3
      exact ⟨h1, by simp; omega, h3⟩)
    (fun p => by simp; omega)
end VK
open Go Go.Proofs
namespace Go.Proofs.Ytdgenjdphmclhaa.wireReads
open Go.ChangeShapes Go.WideShapes Go.ChangeAt Go.RowKit

theorem own : ownKnob Try.prog.godebug = none := by kernel_rfl
theorem contract (H : Type) (enc : TypeId × Value → H) (W : World) (base : Nat) (args : Array Value) (ds gs : List (DataW H)) (before : List MemPlace)
    (hval : ∀ (j : Nat) t v, Try.f7.params[j]? = some t → args[j]? = some v → Value.okWide Try.prog W .any base t v)
    (hW : DataW.Whole enc Try.prog Try.f7.params.toList Rows.wireReadsSpec.vars false W args.toList ds gs before) (hk : Rows.uptoSmall H (ds ++ gs) = true) :
    Calls Try.prog 7 args W fun e W' => ∃ v, e = .returned v ∧ Rows.wireReadsSpec.post enc Try.prog Try.f7 false true false false W args v W' := by
  have hW' := hW
  obtain ⟨p, q, hA, hV, rfl, hfz, hnd⟩ := hW
  rw [Try.params7] at hA hval
  obtain ⟨v0, vs0, d0, ds0, p0, q0, hargs, rfl, rfl, h0, r0⟩ := trodAll_cons hA
  obtain ⟨v1, vs1, d1, ds1, p1, q1, rfl, rfl, rfl, h1, r1⟩ := trodAll_cons r0
  obtain ⟨rfl, rfl, rfl⟩ := trodAll_nil r1
  obtain rfl : args = #[v0, v1] := by cases args; simp_all
  obtain ⟨rfl, rfl⟩ := trodVars_none hV
  have hb : Rows.uptoBulkAll [d0, d1] ≤ 1048576 := by simpa using of_decide_eq_true hk
  simp only [Rows.uptoBulkAll] at hb
  obtain ⟨l0, hrd0, hb0⟩ := VK.openBytes Try.underlying25 (by kernel_rfl) Try.underlying5 (by kernel_rfl) (hval 0 _ v0 rfl rfl) h0
  obtain ⟨l1, hrd1, hok1, hb1⟩ := VK.openSl Try.underlying22 (by kernel_rfl) (by decide) (VK.decOf31 W) (hval 1 _ v1 rfl rfl) h1
  refine (VK.law_calls ((haveI := hrd0; haveI := hrd1; VK.WireReads_c W v0 v1 l0 l1 (by omega) hok1))).mono fun e W' ⟨he, hg⟩ => ?_
  subst he
  exact ⟨_, rfl, VK.law_post hW' hg (by kernel_rfl) (by kernel_rfl) rfl rfl Try.underlying4 rfl rfl rfl⟩
set_option maxRecDepth 100000 in
theorem lifted (os : Os) (started : os.Started) (H : Type) (enc : TypeId × Value → H) (F : Stop.Interp) :
    ReturnsInHanded {} Try.checked os 7 .any ((Rows.OpenSpec.upto Rows.wireReadsSpec).pre6 enc Try.prog Try.f7 Rows.wireReadsUptoRow.domain false) (((Rows.OpenSpec.upto Rows.wireReadsSpec).at F).post enc Try.prog Try.f7 false true false false) := by
  refine returnsInHanded_of_cond (C := Try.checked) (s := Rows.OpenSpec.upto Rows.wireReadsSpec) (k := Rows.uptoSmall) rfl own started (by kernel_rfl) Try.func7
    (OpenSpec.witness (enc := enc) (C := Try.checked) (s := Rows.OpenSpec.upto Rows.wireReadsSpec) (k := Rows.uptoSmall) rfl false ⟨#[], #[.slice none 0 0, .slice none 0 0], []⟩ 8 (by kernel_rfl) (by kernel_rfl) (by kernel_rfl)
      (x := ([.nil, .nil], [], [])) (by kernel_rfl) rfl (by kernel_rfl)) ?_
  intro W base args ds gs before hval hW _ hk _
  exact contract H enc W base args ds gs before hval hW hk

theorem proved : Rows.WireReadsUptoSaid :=
  OpenClaim.holds_of_cond 7 Try.f7 rfl rfl rfl rfl rfl rfl rfl ⟨rfl, rfl, rfl, rfl, rfl⟩ rfl rfl rfl rfl rfl (by kernel_rfl) Try.func7 (by kernel_rfl)
    (of_decide_eq_true (by kernel_rfl)) (by unfold Func.isWrapper; first | (rw [if_pos (by decide +kernel)]; kernel_rfl) | (rw [if_neg (by decide +kernel)]; exact ⟨rfl, rfl⟩))
    (fun os started H enc _ F => lifted os started H enc F)
end Go.Proofs.Ytdgenjdphmclhaa.wireReads
