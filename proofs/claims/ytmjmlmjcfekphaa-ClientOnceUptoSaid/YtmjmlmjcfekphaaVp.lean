/- Names: which bytes may stand in one, and which texts are names; the code's and the reference's answers. Conditions: none. -/
import Derived.Test.YtmjmlmjcfekphaaT
namespace VK
open Go Go.Proofs
set_option linter.unusedSimpArgs false
set_option linter.unusedVariables false
set_option maxRecDepth 100000
set_option maxHeartbeats 40000000
def plainP (c : UInt8) : Prop := c.toNat = 46 ∨ c.toNat = 95 ∨ c.toNat = 45 ∨ (48 ≤ c.toNat ∧ c.toNat ≤ 57) ∨ (97 ≤ c.toNat ∧ c.toNat ≤ 122) ∨ (65 ≤ c.toNat ∧ c.toNat ≤ 90)
instance (c : UInt8) : Decidable (plainP c) := by unfold plainP; infer_instance
def nameP (s : List UInt8) : Prop := 1 ≤ s.length ∧ s.length ≤ 16 ∧ s ≠ [46] ∧ s ≠ [46, 46] ∧ ∀ c ∈ s, plainP c
instance (s : List UInt8) : Decidable (nameP s) := by unfold nameP; infer_instance
theorem all_take {s : List UInt8} {i : Nat} (h : i < s.length) (h1 : ∀ c ∈ s.take i, plainP c) (h2 : plainP (s.getD i default)) : ∀ c ∈ s.take (i + 1), plainP c := fun c hc => by
  rw [List.take_succ_eq_append_getElem h] at hc
  rcases List.mem_append.1 hc with hc | hc
  · exact h1 c hc
  · rw [List.mem_singleton.1 hc]
    simpa [List.getD_eq_getElem?_getD, h] using h2
def checkN (l : List (List UInt8)) : Int := if ∀ s ∈ l, nameP s then (if 8 < l.length then 42 else 0) else 41
end VK
