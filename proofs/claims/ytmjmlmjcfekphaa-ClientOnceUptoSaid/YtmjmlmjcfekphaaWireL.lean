/- What was written is read, and what is read was written so. Plain laws. Conditions: none. -/
import Derived.Test.YtmjmlmjcfekphaaIn3
namespace VK
open Go Go.Proofs
set_option linter.unusedSimpArgs false
set_option linter.unusedVariables false
set_option maxRecDepth 100000
set_option maxHeartbeats 40000000
theorem numGo_num : ∀ (m k n : Nat) (r : List UInt8), k ≤ 9 → n < 128 ^ k → n + m * 128 ^ k ≤ 18446744073709551615 → (0 < k → 0 < m) → numGo k n (num m ++ r) = (n + m * 128 ^ k, ⟨r, 0⟩)
  | m, k, n, r, hk, hn, hm, h0 => by
    by_cases hb : 127 < m
    · rw [num_big hb, List.cons_append]
      have hc : (UInt8.ofNat (m % 128 + 128)).toNat = m % 128 + 128 := by simp; omega
      have hk8 : k ≤ 8 := by
        by_cases h9 : k = 9
        · subst h9; omega
        · omega
      simp only [numGo, hc]
      rw [if_neg (by omega), if_neg (by omega)]
      have e1 : (m % 128 + 128) % 128 = m % 128 := by omega
      have e2 : 128 ^ (k + 1) = 128 * 128 ^ k := by rw [Nat.pow_succ, Nat.mul_comm]
      have e3 : m * 128 ^ k = m % 128 * 128 ^ k + m / 128 * 128 ^ (k + 1) := by
        rw [e2, ← Nat.mul_assoc, ← Nat.add_mul]; congr 1; omega
      have hlt : m % 128 * 128 ^ k ≤ 127 * 128 ^ k := Nat.mul_le_mul_right _ (by omega)
      rw [e1, numGo_num (m / 128) (k + 1) _ r (by omega) (by omega) (by omega) (fun _ => by omega)]
      rw [e3]; congr 1; omega
    · rw [num_small hb, List.cons_append, List.nil_append]
      have hc : (UInt8.ofNat m).toNat = m := by simp; omega
      simp only [numGo, hc]
      rw [if_neg (by
        rintro (⟨rfl, h⟩ | ⟨h, h'⟩)
        · have : 2 * 128 ^ 9 ≤ m * 128 ^ 9 := Nat.mul_le_mul_right _ (by omega)
          omega
        · have := h0 h; omega), if_pos (by omega)]
      rw [Nat.mod_eq_of_lt (by omega)]
  termination_by m => m
  decreasing_by omega
theorem numR_num {m : Nat} (r : List UInt8) (h : m ≤ 18446744073709551615) : numR ⟨num m ++ r, 0⟩ = (m, ⟨r, 0⟩) := by
  simp only [numR, if_true]
  rw [numGo_num m 0 0 r (by omega) (by simp) (by simpa using h) (by omega)]
  simp
theorem unzig_zig {n : Int} : unzig (zig n) = n := by unfold unzig zig; split <;> split <;> omega
theorem zig_unzig {n : Nat} : zig (unzig n) = n := by unfold unzig zig; split <;> split <;> omega
theorem textR_back {s r : List UInt8} {most : Int} (h : s.length ≤ 1048576) (hm : (s.length : Int) ≤ max most 0) : textR most ⟨textB s ++ r, 0⟩ = (s, ⟨r, 0⟩) := by
  have h1 := numR_num (m := s.length) (s ++ r) (by omega)
  rw [textR, textB, List.append_assoc, h1]
  rw [if_pos rfl, if_neg (by omega)]
  have : takeR s.length ⟨s ++ r, 0⟩ = (s, ⟨r, 0⟩) := by simp [takeR]
  exact this
theorem flagR_back {b : Bool} {r : List UInt8} : flagR ⟨flagB b ++ r, 0⟩ = (b, ⟨r, 0⟩) := by cases b <;> rfl
theorem digestR_back {d r : List UInt8} (h : d.length = 32) : digestR ⟨d ++ r, 0⟩ = (d, ⟨r, 0⟩) := by
  have : takeR 32 ⟨d ++ r, 0⟩ = (d, ⟨r, 0⟩) := by rw [← h]; simp [takeR]
  rw [digestR, this]
  simp [pad32, h]
/-- the one way to write a number -/
theorem numGo_canon : ∀ (b : List UInt8) (k n m : Nat) (r : List UInt8), numGo k n b = (m, ⟨r, 0⟩) → ∃ q, b = num q ++ r ∧ m = n + q * 128 ^ k ∧ (0 < k → 0 < q)
  | [], k, n, m, r, h => by simp [numGo] at h
  | c :: b, k, n, m, r, h => by
    have hc8 := c.toNat_lt
    simp only [numGo] at h
    split at h
    · simp at h
    · rename_i hb
      split at h
      · rename_i hc
        simp only [Prod.mk.injEq, InS.mk.injEq, and_true] at h
        obtain ⟨rfl, rfl⟩ := h
        refine ⟨c.toNat, ?_, by rw [Nat.mod_eq_of_lt hc], fun hk => by omega⟩
        rw [num_small (by omega)]
        simp
      · rename_i hc
        obtain ⟨q, e1, e2, e3⟩ := numGo_canon b (k + 1) _ m r h
        have hq := e3 (by omega)
        refine ⟨c.toNat % 128 + 128 * q, ?_, ?_, fun _ => by omega⟩
        · rw [num_big (by omega), show (c.toNat % 128 + 128 * q) / 128 = q by omega, show (c.toNat % 128 + 128 * q) % 128 + 128 = c.toNat by omega, e1]
          simp
        · rw [e2, Nat.pow_succ, Nat.add_mul, Nat.add_assoc]
          congr 2
          rw [Nat.mul_comm 128 q, Nat.mul_assoc, Nat.mul_comm 128]
theorem num_canon {s : InS} {m : Nat} {r : List UInt8} (h : numR s = (m, ⟨r, 0⟩)) : s = ⟨num m ++ r, 0⟩ := by
  obtain ⟨b, e⟩ := s
  unfold numR at h
  split at h
  · rename_i he
    have he : e = 0 := he
    subst he
    obtain ⟨q, e1, e2, _⟩ := numGo_canon b 0 0 m r h
    have : m = q := by simpa using e2
    subst this
    rw [e1]
  · rename_i he
    simp only [Prod.mk.injEq, InS.mk.injEq] at h
    exact absurd h.2.2 he
theorem flag_canon {s : InS} {f : Bool} {r : List UInt8} (h : flagR s = (f, ⟨r, 0⟩)) : s = ⟨flagB f ++ r, 0⟩ := by
  obtain ⟨b, e⟩ := s
  unfold flagR at h
  split at h
  · rename_i he
    have he : e = 0 := he
    subst he
    cases b with
    | nil => simp at h
    | cons c b =>
      dsimp only at h
      split at h
      · simp at h
      · rename_i hc
        simp only [Prod.mk.injEq, InS.mk.injEq, and_true] at h
        obtain ⟨rfl, rfl⟩ := h
        by_cases h1 : c.toNat = 1
        · obtain rfl : c = 1 := UInt8.toNat_inj.1 h1
          rfl
        · obtain rfl : c = 0 := UInt8.toNat_inj.1 (by show c.toNat = 0; omega)
          rfl
  · rename_i he
    simp only [Prod.mk.injEq, InS.mk.injEq] at h
    exact absurd h.2.2 he
theorem take_canon {s : InS} {n : Nat} {t r : List UInt8} (h : takeR n s = (t, ⟨r, 0⟩)) : s = ⟨t ++ r, 0⟩ ∧ t.length = n := by
  obtain ⟨b, e⟩ := s
  unfold takeR at h
  split at h
  · rename_i he
    have he : e = 0 := he
    subst he
    split at h
    · simp at h
    · rename_i hl
      have hl : ¬ b.length < n := hl
      simp only [Prod.mk.injEq, InS.mk.injEq, and_true] at h
      obtain ⟨rfl, rfl⟩ := h
      exact ⟨by rw [List.take_append_drop], by rw [List.length_take]; omega⟩
  · rename_i he
    simp only [Prod.mk.injEq, InS.mk.injEq] at h
    exact absurd h.2.2 he
theorem text_canon {s : InS} {most : Int} {t r : List UInt8} (h : textR most s = (t, ⟨r, 0⟩)) : s = ⟨textB t ++ r, 0⟩ ∧ (t.length : Int) ≤ max most 0 := by
  unfold textR at h
  split at h
  · rename_i he
    split at h
    · simp at h
    · rename_i hl
      obtain ⟨e1, e2⟩ := take_canon h
      have hn : numR s = ((numR s).1, ⟨t ++ r, 0⟩) := by rw [← e1]
      have := num_canon hn
      rw [this, ← e2, textB, List.append_assoc]
      exact ⟨rfl, by omega⟩
  · rename_i he
    simp only [Prod.mk.injEq] at h
    rw [h.2] at he
    exact absurd rfl he
theorem digest_canon {s : InS} {d r : List UInt8} (h : digestR s = (d, ⟨r, 0⟩)) : s = ⟨d ++ r, 0⟩ ∧ d.length = 32 := by
  unfold digestR at h
  simp only [Prod.mk.injEq] at h
  obtain ⟨e1, e2⟩ := take_canon (s := s) (n := 32) (t := (takeR 32 s).1) (r := r) (by rw [← h.2])
  have e3 : d = (takeR 32 s).1 := by rw [← h.1, pad32, e2]; simp
  rw [e3]
  exact ⟨e1, e2⟩
/-- behind an error nothing is read -/
theorem numR_err {s : InS} (h : s.err ≠ 0) : numR s = (0, s) := by unfold numR; rw [if_neg h]
theorem flagR_err {s : InS} (h : s.err ≠ 0) : flagR s = (false, s) := by unfold flagR; rw [if_neg h]
theorem takeR_err {n : Nat} {s : InS} (h : s.err ≠ 0) : takeR n s = ([], s) := by unfold takeR; rw [if_neg h]
theorem textR_err {m : Int} {s : InS} (h : s.err ≠ 0) : textR m s = ([], s) := by unfold textR; rw [numR_err h, if_neg h]
theorem digestR_err {s : InS} (h : s.err ≠ 0) : digestR s = (List.replicate 32 0, s) := by unfold digestR; rw [takeR_err h]; rfl
theorem numGo_err0 : ∀ (b : List UInt8) (k n : Nat), (numGo k n b).2.err ≠ 0 → (numGo k n b).1 = 0
  | [], _, _, _ => rfl
  | c :: b, k, n, h => by
    simp only [numGo] at h ⊢
    split
    · rfl
    · rename_i g1
      rw [if_neg g1] at h
      split
      · rename_i g2
        rw [if_pos g2] at h
        exact absurd rfl h
      · rename_i g2
        rw [if_neg g2] at h
        exact numGo_err0 b _ _ h
theorem numR_err0 {s : InS} (h : (numR s).2.err ≠ 0) : (numR s).1 = 0 := by
  unfold numR at h ⊢
  split
  · rename_i g
    rw [if_pos g] at h
    exact numGo_err0 _ _ _ h
  · rfl
end VK
