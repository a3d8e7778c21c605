/- Four laws on operations, walked. Conditions: texts of a machine's size. -/
import Derived.Test.YtmjmlmjcfekphaaOpW
namespace VK
open Go Go.Proofs
set_option linter.unusedSimpArgs false
set_option linter.unusedVariables false
set_option maxRecDepth 100000
set_option maxHeartbeats 40000000
def KindS (w : List UInt8) (k : Int) : Prop := (1 ≤ k ∧ k ≤ 11 ∧ wordR k = w) ∨ (k = 0 ∧ ∀ j, 1 ≤ j → j ≤ 11 → wordR j ≠ w)
theorem kind_word {i k : Int} (hi : 1 ≤ i ∧ i ≤ 11) (h : KindS (wordR i) k) : k = i := by
  rcases h with ⟨h1, h2, h3⟩ | ⟨h1, h2⟩
  · exact word_inj ⟨h1, h2⟩ hi h3
  · exact absurd rfl (h2 i hi.1 hi.2)
def opA : OpS := ⟨1, [47, 97], [], [], 0, 0⟩
theorem opA_ok : opA.ok := by
  refine ⟨by simp [inR, opA], ?_, ?_, ?_, by simp [inR, opA], by simp [inR, opA]⟩ <;> decide
end VK
