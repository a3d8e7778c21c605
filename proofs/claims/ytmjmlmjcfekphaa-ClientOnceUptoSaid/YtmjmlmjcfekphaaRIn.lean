/- What the reference In reads: its bytes stay, how many of them are passed grows. Conditions: none. -/
import Derived.Test.YtmjmlmjcfekphaaIn3
namespace VK
open Go Go.Proofs
set_option linter.unusedSimpArgs false
set_option linter.unusedVariables false
set_option maxRecDepth 100000
set_option maxHeartbeats 40000000
theorem numStep2 {n k c : Nat} (hn : n < 128 ^ k) (hk : k ≤ 9) (hc : c < 256) (h9 : k = 9 → c ≤ 1) :
    IntKind.u64.wrap ↑(BitVec.ofInt IntKind.u64.bits ↑n ||| BitVec.ofInt IntKind.u64.bits ((c : Int) % 128 * 2 ^ min (7 * (k : Int)).toNat IntKind.u64.bits % 18446744073709551616)).toNat = ((n + c % 128 * 128 ^ k : Nat) : Int) := by
  have h := numStep hn hk hc h9
  have e2 : ((c : Int).toNat &&& Int.toNat 127) = c % 128 := Nat.and_two_pow_sub_one_eq_mod c 7
  have e : (((c : Int).toNat &&& Int.toNat 127 : Nat) : Int) % 18446744073709551616 = (c : Int) % 128 := by rw [e2]; omega
  rw [e] at h
  exact h
theorem takeR_cut' {n : Nat} {p : List UInt8} (h : p.length < n) : takeR n ⟨p, 0⟩ = ([], ⟨[], 20⟩) := by simp [takeR, h]
end VK
