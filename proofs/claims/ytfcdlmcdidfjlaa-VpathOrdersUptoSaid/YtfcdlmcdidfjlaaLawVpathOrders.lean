/- The row VpathOrders (bulk bounded): which of two paths lies within the other, and which comes first, is told as the reference says. Conditions: none. -/
import Derived.Test.YtfcdlmcdidfjlaaRow
import Derived.Test.YtfcdlmcdidfjlaaVlaw
open Go Go.Proofs
set_option linter.unusedSimpArgs false
set_option linter.unusedVariables false
set_option maxRecDepth 100000
set_option maxHeartbeats 40000000
namespace Go.Proofs.Ytfcdlmcdidfjlaa.vpathOrders
open Go.ChangeShapes Go.WideShapes Go.ChangeAt Go.RowKit

theorem own : ownKnob Try.prog.godebug = none := by kernel_rfl
theorem contract (H : Type) (enc : TypeId × Value → H) (W : World) (base : Nat) (args : Array Value) (ds gs : List (DataW H)) (before : List MemPlace)
    (hval : ∀ (j : Nat) t v, Try.f6.params[j]? = some t → args[j]? = some v → Value.okWide Try.prog W .any base t v)
    (hW : DataW.Whole enc Try.prog Try.f6.params.toList Rows.vpathOrdersSpec.vars false W args.toList ds gs before) (hk : Rows.uptoSmall H (ds ++ gs) = true) :
    Calls Try.prog 6 args W fun e W' => ∃ v, e = .returned v ∧ Rows.vpathOrdersSpec.post enc Try.prog Try.f6 false true false false W args v W' := by
  have hW' := hW
  obtain ⟨p, q, hA, hV, rfl, hfz, hnd⟩ := hW
  rw [Try.params6] at hA hval
  obtain ⟨v0, vs0, d0, ds0, p0, q0, hargs, rfl, rfl, h0, r0⟩ := trodAll_cons hA
  obtain ⟨v1, vs1, d1, ds1, p1, q1, rfl, rfl, rfl, h1, r1⟩ := trodAll_cons r0
  obtain ⟨v2, vs2, d2, ds2, p2, q2, rfl, rfl, rfl, h2, r2⟩ := trodAll_cons r1
  obtain ⟨rfl, rfl, rfl⟩ := trodAll_nil r2
  obtain rfl : args = #[v0, v1, v2] := by cases args; simp_all
  obtain ⟨rfl, rfl⟩ := trodVars_none hV
  have hb : Rows.uptoBulkAll [d0, d1, d2] ≤ 1048576 := by simpa using of_decide_eq_true hk
  simp only [Rows.uptoBulkAll] at hb
  obtain ⟨l0, hrd0, hok0, hb0⟩ := VK.openSl Try.underlying23 (by kernel_rfl) (by decide) (VK.Dec.str VK.bulkC Try.underlying9 (by kernel_rfl)) (hval 0 _ v0 rfl rfl) h0
  obtain ⟨l1, hrd1, hok1, hb1⟩ := VK.openSl Try.underlying23 (by kernel_rfl) (by decide) (VK.Dec.str VK.bulkC Try.underlying9 (by kernel_rfl)) (hval 1 _ v1 rfl rfl) h1
  obtain ⟨l2, hrd2, hok2, hb2⟩ := VK.openSl Try.underlying23 (by kernel_rfl) (by decide) (VK.Dec.str VK.bulkC Try.underlying9 (by kernel_rfl)) (hval 2 _ v2 rfl rfl) h2
  refine (VK.law_calls ((haveI : VK.Rd [VK.base W] v0 (VK.mrow VK.str 9 l0) := hrd0.as (VK.frow_one (f := VK.str) l0); haveI : VK.Rd [VK.base W] v1 (VK.mrow VK.str 9 l1) := hrd1.as (VK.frow_one (f := VK.str) l1); haveI : VK.Rd [VK.base W] v2 (VK.mrow VK.str 9 l2) := hrd2.as (VK.frow_one (f := VK.str) l2); VK.VpathOrders_c W v0 v1 v2 l0 l1 l2))).mono fun e W' ⟨he, hg⟩ => ?_
  subst he
  exact ⟨_, rfl, VK.law_post hW' hg (by kernel_rfl) (by kernel_rfl) rfl rfl Try.underlying4 rfl rfl rfl⟩
set_option maxRecDepth 100000 in
theorem lifted (os : Os) (started : os.Started) (H : Type) (enc : TypeId × Value → H) (F : Stop.Interp) :
    ReturnsInHanded {} Try.checked os 6 .any ((Rows.OpenSpec.upto Rows.vpathOrdersSpec).pre6 enc Try.prog Try.f6 Rows.vpathOrdersUptoRow.domain false) (((Rows.OpenSpec.upto Rows.vpathOrdersSpec).at F).post enc Try.prog Try.f6 false true false false) := by
  refine returnsInHanded_of_cond (C := Try.checked) (s := Rows.OpenSpec.upto Rows.vpathOrdersSpec) (k := Rows.uptoSmall) rfl own started (by kernel_rfl) Try.func6
    (OpenSpec.witness (enc := enc) (C := Try.checked) (s := Rows.OpenSpec.upto Rows.vpathOrdersSpec) (k := Rows.uptoSmall) rfl false ⟨#[], #[.slice none 0 0, .slice none 0 0, .slice none 0 0], []⟩ 8 (by kernel_rfl) (by kernel_rfl) (by kernel_rfl)
      (x := ([.nil, .nil, .nil], [], [])) (by kernel_rfl) rfl (by kernel_rfl)) ?_
  intro W base args ds gs before hval hW _ hk _
  exact contract H enc W base args ds gs before hval hW hk

theorem proved : Rows.VpathOrdersUptoSaid :=
  OpenClaim.holds_of_cond 6 Try.f6 rfl rfl rfl rfl rfl rfl rfl ⟨rfl, rfl, rfl, rfl, rfl⟩ rfl rfl rfl rfl rfl (by kernel_rfl) Try.func6 (by kernel_rfl)
    (of_decide_eq_true (by kernel_rfl)) (by unfold Func.isWrapper; first | (rw [if_pos (by decide +kernel)]; kernel_rfl) | (rw [if_neg (by decide +kernel)]; exact ⟨rfl, rfl⟩))
    (fun os started H enc _ F => lifted os started H enc F)
end Go.Proofs.Ytfcdlmcdidfjlaa.vpathOrders
