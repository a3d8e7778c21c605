/- The row JournalChecks (bulk bounded): what may be kept is what the document says; without a platter, and without power, there is an error. Conditions: none. -/
import Derived.Test.YtafofdcccmidmaaM4
namespace VK
open Go Go.Proofs
set_option linter.unusedSimpArgs false
set_option linter.unusedVariables false
set_option maxRecDepth 100000
set_option maxHeartbeats 40000000
structure KeptW (W : World) (x : KeptS × Value) : Prop where
  rv : RdW W x.2 (entR x.1.ents)
  es : ∀ e ∈ x.1.ents, e.ok
theorem decOf28 (W : World) : Dec (fun {H} => @Go.Proofs.Ytafofdcccmidmaa.Rows.uptoBulk H) Try.prog W 28 (fun x : KeptS × Value => kC x.1.view x.1.normal x.1.base x.1.state x.2) 5 (KeptW W) (fun x => (x.1.ents.map fun e => e.op.wt).sum + x.1.state.length) :=
  (Dec.struct bulkC Try.underlying28 (by kernel_rfl)
      (DecF.cons bulkC rfl (Dec.int bulkC Try.underlying2 (by kernel_rfl)) (DecF.cons bulkC rfl (Dec.int bulkC Try.underlying2 (by kernel_rfl)) (DecF.cons bulkC rfl (Dec.int bulkC Try.underlying2 (by kernel_rfl))
      (DecF.cons bulkC rfl (Dec.str bulkC Try.underlying9 (by kernel_rfl)) (DecF.cons bulkC rfl (Dec.slice bulkC Try.underlying26 (by kernel_rfl) (by decide) (decEntJ W)) DecF.nil)))))).map
    (fun p => (⟨p.1, p.2.1, p.2.2.1, p.2.2.2.1, p.2.2.2.2.1.2⟩, p.2.2.2.2.1.1)) (fun _ => rfl)
    (fun c hc u hu => by
      have h1 := RdW_one hc.rv
      simp only [kC, List.mem_cons, List.not_mem_nil, or_false] at hu
      rcases hu with rfl | rfl | rfl | rfl | rfl
      all_goals first | rfl | exact h1)
    (fun p hp => rfl)
    (fun p hp => by
      obtain ⟨h0, h1, h2, h3, ⟨h4, h5⟩, _⟩ := hp
      exact ⟨h4, h5⟩)
    (fun p => by simp only; omega)
theorem checks_l (W : World) (x : KeptS × Value) (h : KeptW W x) (hb : (x.1.ents.map fun e => e.op.wt).sum + x.1.state.length ≤ 1048576) :
    Fn Try.prog 4 [agg (kC x.1.view x.1.normal x.1.base x.1.state x.2)] [base W] fun w L' => w = .bool true ∧ L' = [base W] := by
  haveI := rd_base h.rv
  have h4 := len_wt x.1.ents
  exact JournalChecks_c W x.1 x.2 h.es (by omega) (by omega)
end VK
open Go Go.Proofs
namespace Go.Proofs.Ytafofdcccmidmaa.journalChecks
open Go.ChangeShapes Go.WideShapes Go.ChangeAt Go.RowKit

theorem own : ownKnob Try.prog.godebug = none := by kernel_rfl
set_option maxRecDepth 100000 in
theorem contract (H : Type) (enc : TypeId × Value → H) (W : World) (base : Nat) (args : Array Value) (ds gs : List (DataW H)) (before : List MemPlace)
    (hval : ∀ (j : Nat) t v, Try.f4.params[j]? = some t → args[j]? = some v → Value.okWide Try.prog W .any base t v)
    (hW : DataW.Whole enc Try.prog Try.f4.params.toList Rows.journalChecksSpec.vars false W args.toList ds gs before) (hk : Rows.uptoSmall H (ds ++ gs) = true) :
    Calls Try.prog 4 args W fun e W' => ∃ v, e = .returned v ∧ Rows.journalChecksSpec.post enc Try.prog Try.f4 false true false false W args v W' := by
  have hW' := hW
  obtain ⟨p, q, hA, hV, rfl, hfz, hnd⟩ := hW
  rw [Try.params4] at hA hval
  obtain ⟨v0, vs0, d0, ds0, p0, q0, hargs, rfl, rfl, h0, r0⟩ := trodAll_cons hA
  obtain ⟨rfl, rfl, rfl⟩ := trodAll_nil r0
  obtain rfl : args = #[v0] := by cases args; simp_all
  obtain ⟨rfl, rfl⟩ := trodVars_none hV
  have hb : Rows.uptoBulkAll [d0] ≤ 1048576 := by simpa using of_decide_eq_true hk
  simp only [Rows.uptoBulkAll] at hb
  obtain ⟨o0, rfl, hok0, hb0⟩ := VK.openSt Try.underlying28 (VK.decOf28 W) (hval 0 _ v0 rfl rfl) h0
  refine (VK.law_calls ((VK.checks_l W o0 hok0 (by omega)))).mono fun e W' ⟨he, hg⟩ => ?_
  subst he
  exact ⟨_, rfl, VK.law_post hW' hg (by kernel_rfl) (by kernel_rfl) rfl rfl Try.underlying4 rfl rfl rfl⟩
set_option maxRecDepth 100000 in
theorem lifted (os : Os) (started : os.Started) (H : Type) (enc : TypeId × Value → H) (F : Stop.Interp) :
    ReturnsInHanded {} Try.checked os 4 .any ((Rows.OpenSpec.upto Rows.journalChecksSpec).pre6 enc Try.prog Try.f4 Rows.journalChecksUptoRow.domain false) (((Rows.OpenSpec.upto Rows.journalChecksSpec).at F).post enc Try.prog Try.f4 false true false false) := by
  refine returnsInHanded_of_cond (C := Try.checked) (s := Rows.OpenSpec.upto Rows.journalChecksSpec) (k := Rows.uptoSmall) rfl own started (by kernel_rfl) Try.func4
    (OpenSpec.witness (enc := enc) (C := Try.checked) (s := Rows.OpenSpec.upto Rows.journalChecksSpec) (k := Rows.uptoSmall) rfl false ⟨#[], #[.agg #[(Go.Value.int Go.IntKind.i64 0), (Go.Value.int Go.IntKind.i64 0), (Go.Value.int Go.IntKind.i64 0), (Go.Value.string { data := #[] }), (Go.Value.slice none 0 0)]], []⟩ 8 (by kernel_rfl) (by kernel_rfl) (by kernel_rfl)
      (x := ([.agg [.lit (.int .i64 0), .lit (.int .i64 0), .lit (.int .i64 0), .lit (.string []), .nil]], [], [])) (by kernel_rfl) rfl (by kernel_rfl)) ?_
  intro W base args ds gs before hval hW _ hk _
  exact contract H enc W base args ds gs before hval hW hk

theorem proved : Rows.JournalChecksUptoSaid :=
  OpenClaim.holds_of_cond 4 Try.f4 rfl rfl rfl rfl rfl rfl rfl ⟨rfl, rfl, rfl, rfl, rfl⟩ rfl rfl rfl rfl rfl (by kernel_rfl) Try.func4 (by kernel_rfl)
    (of_decide_eq_true (by kernel_rfl)) (by unfold Func.isWrapper; first | (rw [if_pos (by decide +kernel)]; kernel_rfl) | (rw [if_neg (by decide +kernel)]; exact ⟨rfl, rfl⟩))
    (fun os started H enc _ F => lifted os started H enc F)
end Go.Proofs.Ytafofdcccmidmaa.journalChecks
