/- What In reads: its state is the bytes that are left and the first thing that was wrong. Conditions: none. -/
import Derived.Test.YtmjmlmjcfekphaaRef
namespace VK
open Go Go.Proofs
set_option linter.unusedSimpArgs false
set_option linter.unusedVariables false
set_option maxRecDepth 100000
set_option maxHeartbeats 40000000

structure InS where
  bs : List UInt8
  err : Int
theorem Rd.app {L F : List Atom} {v : Value} {r : Row} (h : Rd L v r) : Rd (L ++ F) v r := ⟨fun W0 w hs => h.rd W0 w ⟨hs.os, hs.tape, hs.output, by obtain ⟨h1, h2, s, ha, hb⟩ := star_app hs.heap; exact star_mono s.2.1 ha⟩⟩
theorem Rd.one {A : Atom} {F : List Atom} {v : Value} {r : Row} (h : Rd [A] v r) : Rd (A :: F) v r := Rd.app (L := [A]) h

def nextV (s : InS) : Value := if s.err = 0 then (match s.bs with | [] => .tuple #[.int .u8 0, .bool false] | c :: _ => .tuple #[by8 c, .bool true]) else .tuple #[.int .u8 0, .bool false]
def nextS (s : InS) : InS := if s.err = 0 then (match s.bs with | [] => ⟨[], 20⟩ | _ :: r => ⟨r, 0⟩) else s
theorem numStep {n k c : Nat} (hn : n < 128 ^ k) (hk : k ≤ 9) (hc : c < 256) (h9 : k = 9 → c ≤ 1) :
    IntKind.u64.wrap ↑(BitVec.ofInt IntKind.u64.bits ↑n ||| BitVec.ofInt IntKind.u64.bits (↑((↑c : Int).toNat &&& Int.toNat 127) % 18446744073709551616 * 2 ^ min (7 * (k : Int)).toNat IntKind.u64.bits % 18446744073709551616)).toNat
      = ((n + c % 128 * 128 ^ k : Nat) : Int) := by
  have e0 : min (7 * (k : Int)).toNat IntKind.u64.bits = 7 * k := by show min _ 64 = _; omega
  have e1 : (2 : Int) ^ (7 * k) = ((128 ^ k : Nat) : Int) := by rw [Int.natCast_pow]; rw [Int.pow_mul]; rfl
  have e2 : ((c : Int).toNat &&& Int.toNat 127) = c % 128 := Nat.and_two_pow_sub_one_eq_mod c 7
  have hp : 128 ^ k = 2 ^ (7 * k) := by rw [Nat.pow_mul]
  have hb : c % 128 * 128 ^ k + 128 ^ k ≤ 18446744073709551616 := by
    have : ∀ k : Nat, k ≤ 9 → 128 ^ k ≤ 9223372036854775808 := by decide
    have h1 := this k hk
    by_cases h : k = 9
    · subst h; have := h9 rfl; omega
    · have : ∀ k : Nat, k ≤ 8 → 128 ^ k ≤ 72057594037927936 := by decide
      have h2 := this k (by omega)
      have : c % 128 * 128 ^ k ≤ 127 * 128 ^ k := Nat.mul_le_mul_right _ (by omega)
      omega
  generalize hP : 128 ^ k = P at *
  rw [e0, e1, e2]
  have em : ((c % 128 : Nat) : Int) % 18446744073709551616 = ((c % 128 : Nat) : Int) := by omega
  rw [em, ← Int.natCast_mul]
  generalize hm : c % 128 * P = m at *
  have e3 : (m : Int) % 18446744073709551616 = (m : Int) := by omega
  rw [e3]
  have o1 : ∀ x : Nat, x < 18446744073709551616 → (BitVec.ofInt IntKind.u64.bits (x : Int)).toNat = x := fun x hx => by
    show (BitVec.ofInt 64 (x : Int)).toNat = x
    rw [BitVec.toNat_ofInt]; omega
  rw [BitVec.toNat_or, o1 _ (by omega), o1 _ (by omega)]
  have e4 : n ||| m = n + m := by
    rw [← hm, hp, Nat.mul_comm, Nat.or_comm, ← Nat.two_pow_add_eq_or_of_lt (by omega), Nat.add_comm]
  rw [e4]
  exact wrap_in (by simp only [inR]; omega)
/-- a number's bytes, read: its value, what is left -/
def numGo : Nat → Nat → List UInt8 → Nat × InS
  | _, _, [] => (0, ⟨[], 20⟩)
  | k, n, c :: r => if k = 9 ∧ 1 < c.toNat ∨ 0 < k ∧ c.toNat = 0 then (0, ⟨[], 21⟩) else if c.toNat < 128 then (n + c.toNat % 128 * 128 ^ k, ⟨r, 0⟩) else numGo (k + 1) (n + c.toNat % 128 * 128 ^ k) r
def numR (s : InS) : Nat × InS := if s.err = 0 then numGo 0 0 s.bs else (0, s)
theorem numGo_le : ∀ {bs : List UInt8} {k n : Nat}, n < 128 ^ k → k ≤ 9 → (numGo k n bs).1 ≤ 18446744073709551615
  | [], k, n, _, _ => by simp [numGo]
  | c :: r, k, n, h, hk => by
    simp only [numGo]
    split
    · simp
    · rename_i hb
      have h1 : c.toNat % 128 * 128 ^ k ≤ 127 * 128 ^ k := Nat.mul_le_mul_right _ (by omega)
      split
      · dsimp only
        by_cases h9 : k = 9
        · subst h9
          have : c.toNat ≤ 1 := by omega
          have : c.toNat % 128 * 128 ^ 9 ≤ 1 * 128 ^ 9 := Nat.mul_le_mul_right _ (by omega)
          omega
        · have : ∀ k : Nat, k ≤ 8 → 128 ^ k ≤ 72057594037927936 := by decide
          have := this k (by omega)
          omega
      · rename_i hc
        by_cases h9 : k = 9
        · omega
        · exact numGo_le (by rw [Nat.pow_succ]; omega) (by omega)
theorem numR_le (s : InS) : (numR s).1 ≤ 18446744073709551615 := by
  unfold numR
  split
  · exact numGo_le (by simp) (by omega)
  · simp
end VK
