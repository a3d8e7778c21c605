/- How a script of calls is read. Conditions: none. -/
import Derived.Test.YtbhlcncfpkfopaaRow
import Derived.Test.YtbhlcncfpkfopaaPlat8
namespace VK
open Go Go.Proofs
set_option linter.unusedSimpArgs false
set_option linter.unusedVariables false
set_option maxRecDepth 100000
set_option maxHeartbeats 40000000
theorem sum_ones {α : Type} (l : List α) : (l.map fun _ => 1).sum = l.length := by
  induction l with
  | nil => rfl
  | cons a l ih => simp only [List.map_cons, List.sum_cons, ih, List.length_cons]; omega
theorem RdW_one {W : World} {v : Value} {r : Row} (h : RdW W v r) : v.oneCell' = true := by
  unfold RdW at h
  obtain ⟨_, _, a, cap, rfl, _⟩ := h
  rfl
theorem decOf47 (W : World) : Dec (fun {H} => @Go.Proofs.Ytbhlcncfpkfopaa.Rows.uptoBulk H) Try.prog W 47 rcallC 5 (fun c => RdW W c.bv (bR c.b) ∧ RdW W c.kv (mrow i64v 3 c.ks) ∧ (∀ k ∈ c.ks, inR .i64 k) ∧ inR .i64 c.n) (fun c => c.b.length) :=
  (Dec.struct bulkC Try.underlying47 (by kernel_rfl)
    (DecF.cons bulkC rfl (Dec.int bulkC Try.underlying3 (by kernel_rfl)) (DecF.cons bulkC rfl (Dec.int bulkC Try.underlying3 (by kernel_rfl)) (DecF.cons bulkC rfl (Dec.slice bulkC Try.underlying28 (by kernel_rfl) (by decide) (decByte Try.underlying5 (by kernel_rfl)))
      (DecF.cons bulkC rfl (Dec.int bulkC Try.underlying3 (by kernel_rfl)) (DecF.cons bulkC rfl (Dec.slice bulkC Try.underlying45 (by kernel_rfl) (by decide) (Dec.int bulkC Try.underlying3 (by kernel_rfl))) DecF.nil)))))).map
    (fun p => ⟨p.1, p.2.1, p.2.2.1.1, p.2.2.1.2, p.2.2.2.1, p.2.2.2.2.1.1, p.2.2.2.2.1.2⟩) (fun _ => rfl)
    (fun c hc u hu => by
      simp only [rcallC, List.mem_cons, List.not_mem_nil, or_false] at hu
      rcases hu with rfl | rfl | rfl | rfl | rfl
      · rfl
      · rfl
      · exact RdW_one hc.1
      · rfl
      · exact RdW_one hc.2.1)
    (fun p hp => rfl)
    (fun p hp => by
      obtain ⟨_, _, ⟨h1, _⟩, h2, ⟨h3, h4⟩, _⟩ := hp
      rw [frow_one] at h1
      refine ⟨h1, ?_, h4, h2⟩
      rw [← frow_one (f := i64v)]
      exact h3)
    (fun p => by
      have := sum_ones p.2.2.1.2
      simp only
      omega)
theorem scOk {W : World} {v : Value} {l : List RCall} (h1 : Rd [base W] v (frow rcallC 5 47 l)) (h2 : ∀ c ∈ l, RdW W c.bv (bR c.b) ∧ RdW W c.kv (mrow i64v 3 c.ks) ∧ (∀ k ∈ c.ks, inR .i64 k) ∧ inR .i64 c.n) : ScOk [base W] v l :=
  ⟨h1, fun c hc => ⟨⟨rd_base (h2 c hc).1, rd_base (h2 c hc).2.1⟩, (h2 c hc).2.2.1, (h2 c hc).2.2.2⟩⟩
end VK
