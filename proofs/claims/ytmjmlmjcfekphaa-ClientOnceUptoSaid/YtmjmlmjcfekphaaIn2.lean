/- What In reads, the rest. Conditions: none. -/
import Derived.Test.YtmjmlmjcfekphaaIn
namespace VK
open Go Go.Proofs
set_option linter.unusedSimpArgs false
set_option linter.unusedVariables false
set_option maxRecDepth 100000
set_option maxHeartbeats 40000000

def unzig (n : Nat) : Int := if n % 2 = 0 then (n / 2 : Nat) else -(n / 2 : Nat) - 1
theorem unzig_bits {n : Nat} (h : n ≤ 18446744073709551615) :
    IntKind.i64.wrap ↑(BitVec.ofInt IntKind.i64.bits (↑n / 2) ^^^ BitVec.ofInt IntKind.i64.bits (IntKind.i64.wrap (0 - IntKind.i64.wrap ↑((↑n : Int).toNat &&& Int.toNat 1)))).toNat = unzig n := by
  have e2 : ((n : Int).toNat &&& Int.toNat 1) = n % 2 := Nat.and_two_pow_sub_one_eq_mod n 1
  have e1 : (BitVec.ofInt IntKind.i64.bits (↑n / 2 : Int)).toNat = n / 2 := by
    show (BitVec.ofInt 64 (↑n / 2 : Int)).toNat = n / 2
    rw [BitVec.toNat_ofInt]; omega
  rw [e2, BitVec.toNat_xor, e1]
  unfold unzig
  by_cases h0 : n % 2 = 0
  · rw [if_pos h0, h0]
    have e3 : (BitVec.ofInt IntKind.i64.bits (IntKind.i64.wrap (0 - IntKind.i64.wrap ((0 : Nat) : Int)))).toNat = 0 := by decide
    rw [e3, Nat.xor_zero]
    exact wrap_in (by simp only [inR]; omega)
  · have h1 : n % 2 = 1 := by omega
    rw [if_neg h0, h1]
    have e3 : (BitVec.ofInt IntKind.i64.bits (IntKind.i64.wrap (0 - IntKind.i64.wrap ((1 : Nat) : Int)))).toNat = 2 ^ 64 - 1 := by decide
    rw [e3, xor_ones _ (by omega)]
    simp [IntKind.wrap, IntKind.bits, IntKind.signed]
    omega
end VK
