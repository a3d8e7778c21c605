/- The reference's Parse, walked. Conditions: texts of a machine's size. -/
import Derived.Test.YtmjmlmjcfekphaaParse
namespace VK
open Go Go.Proofs
set_option linter.unusedSimpArgs false
set_option linter.unusedVariables false
set_option maxRecDepth 100000
set_option maxHeartbeats 40000000
theorem step_c1 {acc : List (List UInt8)} {p : List UInt8} (h : 16 < p.length) : stepN acc p = none := if_pos h
theorem parse_fold {s : List UInt8} (h1 : s.length ≤ 256) (h2 : [47] <+: s) (h3 : ∀ c ∈ s, okC c) : parseR s = match foldN [] (sp (s.drop 1)) with
    | none => ([], 41)
    | some l => if 8 < l.length then ([], 42) else (l, 0) := by
  obtain ⟨t, rfl⟩ := h2
  have e : foldN [] (sp ([47] ++ t)) = foldN [] (sp t) := by
    simp only [List.singleton_append, sp, if_true, foldN, step_nil]
  exact (if_neg (by omega)).trans ((if_neg fun h => h.elim (fun h => h ⟨t, rfl⟩) (fun h => h h3)).trans (by rw [e]; rfl))
def rinv (s : List UInt8) (i from_ : Nat) (out : List (List UInt8)) : Prop :=
  (i ≤ s.length ∧ from_ ≤ i ∧ 1 ≤ from_ ∧ 47 ∉ (s.take i).drop from_ ∧ foldN out (sp (s.drop from_)) = foldN [] (sp (s.drop 1))) ∨ (i = s.length + 1 ∧ some out = foldN [] (sp (s.drop 1)))
theorem rinv_next {s : List UInt8} {i from_ : Nat} {out : List (List UInt8)} (h : rinv s i from_ out) (hi : i < s.length) (hc : s[i] ≠ 47) : rinv s (i + 1) from_ out := by
  rcases h with ⟨h1, h2, h3, h4, h5⟩ | ⟨h1, -⟩
  · refine .inl ⟨by omega, by omega, h3, ?_, h5⟩
    rw [List.take_succ_eq_append_getElem hi, List.drop_append_of_le_length (by simp; omega)]
    simp only [List.mem_append, List.mem_singleton, not_or]
    exact ⟨h4, fun e => hc e.symm⟩
  · omega
theorem rinv_piece {s : List UInt8} {i from_ : Nat} {out : List (List UInt8)} (h : rinv s i from_ out) (hi : i ≤ s.length) (hc : ∀ h : i < s.length, s[i] = 47) :
    from_ ≤ i ∧ (stepN out ((s.take i).drop from_) = none → foldN [] (sp (s.drop 1)) = none) ∧ ∀ out', stepN out ((s.take i).drop from_) = some out' → rinv s (i + 1) (i + 1) out' := by
  rcases h with ⟨h1, h2, h3, h4, h5⟩ | ⟨h1, -⟩
  · refine ⟨h2, ?_⟩
    by_cases hl : i < s.length
    · have e : s.drop from_ = (s.take i).drop from_ ++ 47 :: s.drop (i + 1) := by
        have h6 := (List.take_append_drop i s).symm
        rw [List.drop_eq_getElem_cons hl, hc hl] at h6
        conv => lhs; rw [h6]
        rw [List.drop_append_of_le_length (by simp; omega)]
      rw [e, sp_cut _ h4] at h5
      simp only [foldN] at h5
      constructor
      · intro h
        rw [h] at h5; exact h5.symm
      · intro out' h
        rw [h] at h5
        exact .inl ⟨by omega, by omega, by omega, by simp, h5⟩
    · have hl : i = s.length := by omega
      subst hl
      rw [List.take_length] at h4 ⊢
      rw [sp_one h4] at h5
      simp only [foldN] at h5
      constructor
      · intro h
        rw [h] at h5; exact h5.symm
      · intro out' h
        rw [h] at h5
        exact .inr ⟨rfl, h5⟩
  · omega
end VK
