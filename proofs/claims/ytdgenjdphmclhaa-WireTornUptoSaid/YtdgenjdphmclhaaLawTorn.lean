/- The row WireTorn (bulk bounded): of frames that are cut anywhere those are read that are whole, and none else; behind them nothing is read. Conditions: none. -/
import Derived.Test.YtdgenjdphmclhaaRow
import Derived.Test.YtdgenjdphmclhaaTorn
namespace VK
open Go Go.Proofs
set_option linter.unusedSimpArgs false
set_option linter.unusedVariables false
set_option maxRecDepth 100000
set_option maxHeartbeats 40000000
theorem sum_ones {α : Type} (l : List α) : (l.map fun _ => 1).sum = l.length := by
  induction l with
  | nil => rfl
  | cons a l ih => simp only [List.map_cons, List.sum_cons, ih, List.length_cons]; omega
theorem RdW_one {W : World} {v : Value} {r : Row} (h : RdW W v r) : v.oneCell' = true := by
  unfold RdW at h
  obtain ⟨_, _, a, cap, rfl, _⟩ := h
  rfl
theorem decOf25 (W : World) : Dec (fun {H} => @Go.Proofs.Ytdgenjdphmclhaa.Rows.uptoBulk H) Try.prog W 25 (fun p : Value × List UInt8 => [pcV p]) 1 (fun p => RdW W p.1 (mrow by8 5 p.2)) (fun p => p.2.length) :=
  (Dec.slice bulkC Try.underlying25 (by kernel_rfl) (by decide) (decByte Try.underlying5 (by kernel_rfl))).map
    (fun p => p) (fun _ => rfl)
    (fun c hc u hu => by
      simp only [List.mem_cons, List.not_mem_nil, or_false] at hu
      subst hu
      exact RdW_one hc)
    (fun p hp => rfl)
    (fun p hp => by
      obtain ⟨h1, _⟩ := hp
      rw [frow_one] at h1
      exact h1)
    (fun p => by
      have := sum_ones p.2
      omega)
theorem torn_bulk {l : List (Value × List UInt8)} {n : Nat} (h : (l.map fun p => p.2.length).sum + 1 ≤ n) (hn : n ≤ 1048576) : ∀ p ∈ l, p.2.length ≤ 1048576 := fun p hp => by
  have := le_sum (f := fun p : Value × List UInt8 => p.2.length) hp
  omega
end VK
open Go Go.Proofs
namespace Go.Proofs.Ytdgenjdphmclhaa.wireTorn
open Go.ChangeShapes Go.WideShapes Go.ChangeAt Go.RowKit

theorem own : ownKnob Try.prog.godebug = none := by kernel_rfl
theorem contract (H : Type) (enc : TypeId × Value → H) (W : World) (base : Nat) (args : Array Value) (ds gs : List (DataW H)) (before : List MemPlace)
    (hval : ∀ (j : Nat) t v, Try.f6.params[j]? = some t → args[j]? = some v → Value.okWide Try.prog W .any base t v)
    (hW : DataW.Whole enc Try.prog Try.f6.params.toList Rows.wireTornSpec.vars false W args.toList ds gs before) (hk : Rows.uptoSmall H (ds ++ gs) = true) :
    Calls Try.prog 6 args W fun e W' => ∃ v, e = .returned v ∧ Rows.wireTornSpec.post enc Try.prog Try.f6 false true false false W args v W' := by
  have hW' := hW
  obtain ⟨p, q, hA, hV, rfl, hfz, hnd⟩ := hW
  rw [Try.params6] at hA hval
  obtain ⟨v0, vs0, d0, ds0, p0, q0, hargs, rfl, rfl, h0, r0⟩ := trodAll_cons hA
  obtain ⟨v1, vs1, d1, ds1, p1, q1, rfl, rfl, rfl, h1, r1⟩ := trodAll_cons r0
  obtain ⟨rfl, rfl, rfl⟩ := trodAll_nil r1
  obtain rfl : args = #[v0, v1] := by cases args; simp_all
  obtain ⟨rfl, rfl⟩ := trodVars_none hV
  have hb : Rows.uptoBulkAll [d0, d1] ≤ 1048576 := by simpa using of_decide_eq_true hk
  simp only [Rows.uptoBulkAll] at hb
  obtain ⟨l0, hrd0, hok0, hb0⟩ := VK.openSl Try.underlying43 (by kernel_rfl) (by decide) (VK.decOf25 W) (hval 0 _ v0 rfl rfl) h0
  obtain ⟨z1, rfl, hz1⟩ := VK.openInt Try.underlying3 (by kernel_rfl) (hval 1 _ v1 rfl rfl) h1
  refine (VK.law_calls ((haveI : VK.Rd [VK.base W] v0 (VK.mrow VK.pcV 25 l0) := hrd0.as (VK.frow_one (f := VK.pcV) l0); VK.WireTorn_c W v0 l0 z1 hz1 (VK.torn_bulk hb0 (by omega)) (fun p hp => VK.rd_base (hok0 p hp))))).mono fun e W' ⟨he, hg⟩ => ?_
  subst he
  exact ⟨_, rfl, VK.law_post hW' hg (by kernel_rfl) (by kernel_rfl) rfl rfl Try.underlying4 rfl rfl rfl⟩
set_option maxRecDepth 100000 in
theorem lifted (os : Os) (started : os.Started) (H : Type) (enc : TypeId × Value → H) (F : Stop.Interp) :
    ReturnsInHanded {} Try.checked os 6 .any ((Rows.OpenSpec.upto Rows.wireTornSpec).pre6 enc Try.prog Try.f6 Rows.wireTornUptoRow.domain false) (((Rows.OpenSpec.upto Rows.wireTornSpec).at F).post enc Try.prog Try.f6 false true false false) := by
  refine returnsInHanded_of_cond (C := Try.checked) (s := Rows.OpenSpec.upto Rows.wireTornSpec) (k := Rows.uptoSmall) rfl own started (by kernel_rfl) Try.func6
    (OpenSpec.witness (enc := enc) (C := Try.checked) (s := Rows.OpenSpec.upto Rows.wireTornSpec) (k := Rows.uptoSmall) rfl false ⟨#[], #[.slice none 0 0, .int .i64 0], []⟩ 8 (by kernel_rfl) (by kernel_rfl) (by kernel_rfl)
      (x := ([.nil, .lit (.int .i64 0)], [], [])) (by kernel_rfl) rfl (by kernel_rfl)) ?_
  intro W base args ds gs before hval hW _ hk _
  exact contract H enc W base args ds gs before hval hW hk

theorem proved : Rows.WireTornUptoSaid :=
  OpenClaim.holds_of_cond 6 Try.f6 rfl rfl rfl rfl rfl rfl rfl ⟨rfl, rfl, rfl, rfl, rfl⟩ rfl rfl rfl rfl rfl (by kernel_rfl) Try.func6 (by kernel_rfl)
    (of_decide_eq_true (by kernel_rfl)) (by unfold Func.isWrapper; first | (rw [if_pos (by decide +kernel)]; kernel_rfl) | (rw [if_neg (by decide +kernel)]; exact ⟨rfl, rfl⟩))
    (fun os started H enc _ F => lifted os started H enc F)
end Go.Proofs.Ytdgenjdphmclhaa.wireTorn
