/- How a result is read. Conditions: none. -/
import Derived.Test.YtmjmlmjcfekphaaRow
import Derived.Test.YtmjmlmjcfekphaaOpS
namespace VK
open Go Go.Proofs
set_option linter.unusedSimpArgs false
set_option linter.unusedVariables false
set_option maxRecDepth 100000
set_option maxHeartbeats 40000000
theorem RdW_one {W : World} {v : Value} {r : Row} (h : RdW W v r) : v.oneCell' = true := by
  unfold RdW at h
  obtain ⟨_, _, a, cap, rfl, _⟩ := h
  rfl
theorem decOf35 (W : World) : Dec (fun {H} => @Go.Proofs.Ytmjmlmjcfekphaa.Rows.uptoBulk H) Try.prog W 35 (fun p : Res × Value => reslV p.1 p.2) 5 (fun p => p.1.ok ∧ RdW W p.2 (mrow str 9 p.1.names)) (fun p => p.1.data.length + (p.1.names.map fun s => s.length + 1).sum) :=
  (Dec.struct bulkC Try.underlying35 (by kernel_rfl)
    (DecF.cons bulkC rfl (Dec.int bulkC Try.underlying25 (by kernel_rfl)) (DecF.cons bulkC rfl (Dec.bool bulkC Try.underlying4 (by kernel_rfl)) (DecF.cons bulkC rfl (Dec.int bulkC Try.underlying3 (by kernel_rfl))
      (DecF.cons bulkC rfl (Dec.str bulkC Try.underlying9 (by kernel_rfl)) (DecF.cons bulkC rfl (Dec.slice bulkC Try.underlying33 (by kernel_rfl) (by decide) (Dec.str bulkC Try.underlying9 (by kernel_rfl))) DecF.nil)))))).map
    (fun p => (⟨p.1, p.2.1, p.2.2.1, p.2.2.2.1, p.2.2.2.2.1.2⟩, p.2.2.2.2.1.1)) (fun _ => rfl)
    (fun c hc u hu => by
      simp only [List.mem_cons, List.not_mem_nil, or_false] at hu
      rcases hu with rfl | rfl | rfl | rfl | rfl
      · rfl
      · rfl
      · rfl
      · rfl
      · exact RdW_one hc.2)
    (fun p hp => rfl)
    (fun p hp => by
      obtain ⟨h1, _, h2, h3, ⟨h4, h5⟩, _⟩ := hp
      rw [frow_one] at h4
      exact ⟨⟨h1, h2, h3, h5⟩, h4⟩)
    (fun p => by simp only; omega)
end VK
