/- How a node's plain data are read. Conditions: none. -/
import Derived.Test.YtpknikpkepcbcaaRow
import Derived.Test.YtpknikpkepcbcaaNode10
import Derived.Test.YtpknikpkepcbcaaNode11
namespace VK
open Go Go.Proofs
set_option linter.unusedSimpArgs false
set_option linter.unusedVariables false
set_option maxRecDepth 100000
set_option maxHeartbeats 40000000
theorem sum_ones {α : Type} (l : List α) : (l.map fun _ => 1).sum = l.length := by
  induction l with
  | nil => rfl
  | cons a l ih => simp only [List.map_cons, List.sum_cons, ih, List.length_cons]; omega
theorem len_le_sum {α : Type} {f : α → Nat} (h : ∀ a, 1 ≤ f a) (l : List α) : l.length ≤ (l.map f).sum := by
  induction l with
  | nil => simp
  | cons a l ih => have := h a; simp only [List.map_cons, List.sum_cons, List.length_cons]; omega
theorem RdW_one {W : World} {v : Value} {r : Row} (h : RdW W v r) : v.oneCell' = true := by
  unfold RdW at h
  obtain ⟨_, _, a, cap, rfl, _⟩ := h
  rfl
theorem decOf22 (W : World) : Dec (fun {H} => @Go.Proofs.Ytpknikpkepcbcaa.Rows.uptoBulk H) Try.prog W 22 (fun p : Value × List UInt8 => [pcV p]) 1 (fun p => RdW W p.1 (mrow by8 5 p.2)) (fun p => p.2.length + 1) :=
  (Dec.slice bulkC Try.underlying22 (by kernel_rfl) (by decide) (decByte Try.underlying5 (by kernel_rfl))).map
    (fun p => p) (fun _ => rfl)
    (fun c hc u hu => by
      simp only [List.mem_cons, List.not_mem_nil, or_false] at hu
      subst hu
      exact RdW_one hc)
    (fun p hp => rfl)
    (fun p hp => by
      obtain ⟨h1, _⟩ := hp
      rw [frow_one] at h1
      exact h1)
    (fun p => by
      have := sum_ones p.2
      omega)
structure RawW (W : World) (r : RawS) (pv nv kv sv : Value) : Prop where
  pv : RdW W pv (mrow pcV 22 r.parts)
  nv : RdW W nv (mrow str 9 r.names)
  kv : RdW W kv (mrow i64v 3 r.kinds)
  sv : RdW W sv (mrow pcV 22 r.sums)
  ps : ∀ p ∈ r.parts, RdW W p.1 (mrow by8 5 p.2)
  ss : ∀ p ∈ r.sums, RdW W p.1 (mrow by8 5 p.2)
theorem RawW.raw {W : World} {r : RawS} {pv nv kv sv : Value} (h : RawW W r pv nv kv sv) (h1 : r.parts.length ≤ 1048576) (h2 : r.names.length ≤ 1048576) : RawR [base W] r pv nv kv sv :=
  ⟨rd_base h.pv, rd_base h.nv, rd_base h.kv, rd_base h.sv, fun p hp => rd_base (h.ps p hp), fun p hp => rd_base (h.ss p hp), h1, h2⟩
abbrev RawX := RawS × Value × Value × Value × Value
theorem decOf39 (W : World) : Dec (fun {H} => @Go.Proofs.Ytpknikpkepcbcaa.Rows.uptoBulk H) Try.prog W 39 (fun x : RawX => rawV x.1 x.2.1 x.2.2.1 x.2.2.2.1 x.2.2.2.2) 7 (fun x => RawOk x.1 ∧ RawW W x.1 x.2.1 x.2.2.1 x.2.2.2.1 x.2.2.2.2) (fun x => x.1.parts.length + x.1.names.length) :=
  (Dec.struct bulkC Try.underlying39 (by kernel_rfl)
    (DecF.cons bulkC rfl (Dec.int bulkC Try.underlying3 (by kernel_rfl)) (DecF.cons bulkC rfl (Dec.str bulkC Try.underlying9 (by kernel_rfl)) (DecF.cons bulkC rfl (Dec.int bulkC Try.underlying3 (by kernel_rfl))
      (DecF.cons bulkC rfl (Dec.slice bulkC Try.underlying35 (by kernel_rfl) (by decide) (decOf22 W)) (DecF.cons bulkC rfl (Dec.slice bulkC Try.underlying36 (by kernel_rfl) (by decide) (Dec.str bulkC Try.underlying9 (by kernel_rfl)))
        (DecF.cons bulkC rfl (Dec.slice bulkC Try.underlying37 (by kernel_rfl) (by decide) (Dec.int bulkC Try.underlying3 (by kernel_rfl))) (DecF.cons bulkC rfl (Dec.slice bulkC Try.underlying35 (by kernel_rfl) (by decide) (decOf22 W)) DecF.nil)))))))).map
    (fun p => (⟨p.1, p.2.1, p.2.2.1, p.2.2.2.1.2, p.2.2.2.2.1.2, p.2.2.2.2.2.1.2, p.2.2.2.2.2.2.1.2⟩, p.2.2.2.1.1, p.2.2.2.2.1.1, p.2.2.2.2.2.1.1, p.2.2.2.2.2.2.1.1)) (fun _ => rfl)
    (fun c hc u hu => by
      simp only [rawV, List.mem_cons, List.not_mem_nil, or_false] at hu
      rcases hu with rfl | rfl | rfl | rfl | rfl | rfl | rfl
      · rfl
      · rfl
      · rfl
      · exact RdW_one hc.2.pv
      · exact RdW_one hc.2.nv
      · exact RdW_one hc.2.kv
      · exact RdW_one hc.2.sv)
    (fun p hp => rfl)
    (fun p hp => by
      obtain ⟨h1, h2, h3, ⟨h4, h5⟩, ⟨h6, h7⟩, ⟨h8, h9⟩, ⟨h10, h11⟩, _⟩ := hp
      rw [frow_one] at h4 h6 h10
      refine ⟨⟨h1, h2, h3, h7, h9⟩, h4, h6, ?_, h10, h5, h11⟩
      rw [← frow_one (f := i64v)]
      exact h8)
    (fun p => by
      have h1 := len_le_sum (f := fun p : Value × List UInt8 => p.2.length + 1) (fun _ => by omega) p.2.2.2.1.2
      have h2 := len_le_sum (f := fun l : List UInt8 => l.length + 1) (fun _ => by omega) p.2.2.2.2.1.2
      simp only
      omega)
end VK
