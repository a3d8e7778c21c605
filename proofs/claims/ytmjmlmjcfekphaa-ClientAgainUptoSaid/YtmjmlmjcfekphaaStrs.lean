/- Library functions on strings: Cut at one byte, HasPrefix. Conditions: texts of a machine's size. -/
import Derived.Test.YtmjmlmjcfekphaaT
import Derived.Lib.Bytealg
namespace VK
open Go Go.Proofs
set_option linter.unusedSimpArgs false
set_option linter.unusedVariables false
set_option maxRecDepth 100000
set_option maxHeartbeats 40000000
section
variable {c : Cx} {k : List KI} {E : Env} {L : List Atom} {all rest : List Oper} {d : Nat} {ty : TypeId} {pos : String} {aft : Array Edge}
end
theorem ix_cases (s : List UInt8) (x : UInt8) : (Lib.indexByte s x = -1 ∧ x ∉ s) ∨ ∃ i, i < s.length ∧ Lib.indexByte s x = (i : Int) ∧ x ∉ s.take i ∧ s = s.take i ++ x :: s.drop (i + 1) := by
  induction s with
  | nil => exact .inl ⟨rfl, by simp⟩
  | cons a s ih =>
    unfold Lib.indexByte
    by_cases h : a = x
    · subst h
      exact .inr ⟨0, by simp, by simp, by simp, by simp⟩
    · rw [if_neg (by simpa using h)]
      rcases ih with ⟨h1, h2⟩ | ⟨i, h1, h2, h3, h4⟩
      · rw [h1]
        exact .inl ⟨rfl, by simp [h2, Ne.symm h]⟩
      · rw [h2, if_neg (by intro h; have := eq_of_beq h; omega)]
        refine .inr ⟨i + 1, by simp; omega, by omega, ?_, ?_⟩
        · rw [List.take_succ_cons]; simp [h3, Ne.symm h]
        · rw [List.take_succ_cons, List.drop_succ_cons, List.cons_append, ← h4]
/-- what lies ahead of the first stroke, and behind it -/
def cutA (x : UInt8) (s : List UInt8) : List UInt8 := if Lib.indexByte s x < 0 then s else s.take (Lib.indexByte s x).toNat
def cutZ (x : UInt8) (s : List UInt8) : List UInt8 := if Lib.indexByte s x < 0 then [] else s.drop ((Lib.indexByte s x).toNat + 1)
end VK
