/- Fields that were written are read as they were; cut off, they are short. Plain laws, no program. Conditions: few bytes. -/
import Derived.Test.YtdgenjdphmclhaaIn3
import Derived.Test.YtdgenjdphmclhaaWrites
namespace VK
open Go Go.Proofs
set_option linter.unusedSimpArgs false
set_option linter.unusedVariables false
set_option maxRecDepth 100000
set_option maxHeartbeats 2000000
instance (L : List Atom) (f : Fld) : AllOne L (fldC f) := ⟨fun _ _ _ u hu => by simp [fldC] at hu; rcases hu with rfl | rfl | rfl | rfl <;> rfl⟩
/-- what was written is read -/
theorem numGo_num : ∀ (m k n : Nat) (r : List UInt8), k ≤ 9 → n < 128 ^ k → n + m * 128 ^ k ≤ 18446744073709551615 → (0 < k → 0 < m) → numGo k n (num m ++ r) = (n + m * 128 ^ k, ⟨r, 0⟩)
  | m, k, n, r, hk, hn, hm, h0 => by
    by_cases hb : 127 < m
    · rw [num_big hb, List.cons_append]
      have hc : (UInt8.ofNat (m % 128 + 128)).toNat = m % 128 + 128 := by simp; omega
      have hk8 : k ≤ 8 := by
        by_cases h9 : k = 9
        · subst h9; omega
        · omega
      simp only [numGo, hc]
      rw [if_neg (by omega), if_neg (by omega)]
      have e1 : (m % 128 + 128) % 128 = m % 128 := by omega
      have e2 : 128 ^ (k + 1) = 128 * 128 ^ k := by rw [Nat.pow_succ, Nat.mul_comm]
      have e3 : m * 128 ^ k = m % 128 * 128 ^ k + m / 128 * 128 ^ (k + 1) := by
        rw [e2, ← Nat.mul_assoc, ← Nat.add_mul]; congr 1; omega
      have hlt : m % 128 * 128 ^ k ≤ 127 * 128 ^ k := Nat.mul_le_mul_right _ (by omega)
      rw [e1, numGo_num (m / 128) (k + 1) _ r (by omega) (by omega) (by omega) (fun _ => by omega)]
      rw [e3]; congr 1; omega
    · rw [num_small hb, List.cons_append, List.nil_append]
      have hc : (UInt8.ofNat m).toNat = m := by simp; omega
      simp only [numGo, hc]
      rw [if_neg (by
        rintro (⟨rfl, h⟩ | ⟨h, h'⟩)
        · have : 2 * 128 ^ 9 ≤ m * 128 ^ 9 := Nat.mul_le_mul_right _ (by omega)
          omega
        · have := h0 h; omega), if_pos (by omega)]
      rw [Nat.mod_eq_of_lt (by omega)]
  termination_by m => m
  decreasing_by omega
theorem numR_num {m : Nat} (r : List UInt8) (h : m ≤ 18446744073709551615) : numR ⟨num m ++ r, 0⟩ = (m, ⟨r, 0⟩) := by
  simp only [numR, if_true]
  rw [numGo_num m 0 0 r (by omega) (by simp) (by simpa using h) (by omega)]
  simp
theorem unzig_zig {n : Int} : unzig (zig n) = n := by unfold unzig zig; split <;> split <;> omega
theorem numGo_cut : ∀ (m k n : Nat) (p : List UInt8), p <+: num m → p.length < (num m).length → k ≤ 9 → n < 128 ^ k → n + m * 128 ^ k ≤ 18446744073709551615 → numGo k n p = (0, ⟨[], 20⟩)
  | m, k, n, [], _, _, _, _, _ => rfl
  | m, k, n, c :: p, hp, hl, hk, hn, hm => by
    by_cases hb : 127 < m
    · rw [num_big hb] at hp hl
      obtain ⟨rfl, hp'⟩ := List.cons_prefix_cons.1 hp
      have hc : (UInt8.ofNat (m % 128 + 128)).toNat = m % 128 + 128 := by simp; omega
      have hk8 : k ≤ 8 := by
        by_cases h9 : k = 9
        · subst h9; omega
        · omega
      simp only [numGo, hc]
      rw [if_neg (by omega), if_neg (by omega)]
      have e1 : (m % 128 + 128) % 128 = m % 128 := by omega
      have e2 : 128 ^ (k + 1) = 128 * 128 ^ k := by rw [Nat.pow_succ, Nat.mul_comm]
      have e3 : m * 128 ^ k = m % 128 * 128 ^ k + m / 128 * 128 ^ (k + 1) := by
        rw [e2, ← Nat.mul_assoc, ← Nat.add_mul]; congr 1; omega
      have hlt : m % 128 * 128 ^ k ≤ 127 * 128 ^ k := Nat.mul_le_mul_right _ (by omega)
      rw [e1]
      exact numGo_cut (m / 128) (k + 1) _ p hp' (by simpa using hl) (by omega) (by omega) (by omega)
    · rw [num_small hb] at hl
      simp at hl
  termination_by m => m
  decreasing_by omega
theorem numR_cut {m : Nat} {p : List UInt8} (hp : p <+: num m) (hl : p.length < (num m).length) (h : m ≤ 18446744073709551615) : numR ⟨p, 0⟩ = (0, ⟨[], 20⟩) := by
  simp only [numR, if_true]
  exact numGo_cut m 0 0 p hp hl (by omega) (by simp) (by simpa using h)
/-- what reading a field leaves -/
def stF (f : Fld) (s : InS) : InS := if kindOf f = 0 ∨ kindOf f = 1 then (numR s).2 else if kindOf f = 2 then (textR f.s.length s).2 else if kindOf f = 3 then (flagR s).2 else (digestR s).2
/-- a field that was written is read as it was -/
theorem textR_back {s r : List UInt8} (h : s.length ≤ 1048576) : textR s.length ⟨textB s ++ r, 0⟩ = (s, ⟨r, 0⟩) := by
  have h1 := numR_num (m := s.length) (s ++ r) (by omega)
  rw [textR, textB, List.append_assoc, h1]
  rw [if_pos rfl, if_neg (by omega)]
  have : takeR s.length ⟨s ++ r, 0⟩ = (s, ⟨r, 0⟩) := by simp [takeR]
  exact this
theorem flagR_back {b : Bool} {r : List UInt8} : flagR ⟨flagB b ++ r, 0⟩ = (b, ⟨r, 0⟩) := by cases b <;> rfl
theorem digestR_back {d r : List UInt8} (h : d.length = 32) : digestR ⟨d ++ r, 0⟩ = (d, ⟨r, 0⟩) := by
  have : takeR 32 ⟨d ++ r, 0⟩ = (d, ⟨r, 0⟩) := by rw [← h]; simp [takeR]
  rw [digestR, this]
  simp [pad32, h]
theorem stF_back {f : Fld} {r : List UInt8} (hf : f.ok) (hs : f.s.length ≤ 1048576) : stF f ⟨fldB f ++ r, 0⟩ = ⟨r, 0⟩ := by
  have hz := zig_le (sgn f.n) (sgn_in hf.2.1).1 (sgn_in hf.2.1).2
  unfold stF fldB
  split
  · rename_i h
    rcases h with h | h
    · rw [if_pos h, numR_num r hf.2.1]
    · rw [if_neg (by omega), if_pos h, intB, numR_num r hz]
  · rename_i h
    rw [if_neg (show ¬ kindOf f = 0 by omega), if_neg (show ¬ kindOf f = 1 by omega)]
    by_cases h2 : kindOf f = 2
    · rw [if_pos h2, if_pos h2, textR_back hs]
    · rw [if_neg h2, if_neg h2]
      by_cases h3 : kindOf f = 3
      · rw [if_pos h3, if_pos h3, flagR_back]
      · rw [if_neg h3, if_neg h3, digestR_back (foldD_len _)]
theorem takeR_cut {n : Nat} {p : List UInt8} (h : p.length < n) : takeR n ⟨p, 0⟩ = ([], ⟨[], 20⟩) := by simp [takeR, h]
theorem stF_cut {f : Fld} {p : List UInt8} (hf : f.ok) (hs : f.s.length ≤ 1048576) (hp : p <+: fldB f) (hl : p.length < (fldB f).length) : stF f ⟨p, 0⟩ = ⟨[], 20⟩ := by
  have hz := zig_le (sgn f.n) (sgn_in hf.2.1).1 (sgn_in hf.2.1).2
  unfold stF
  unfold fldB at hp hl
  split
  · rename_i h
    rcases h with h | h
    · rw [if_pos h] at hp hl
      rw [numR_cut hp hl hf.2.1]
    · rw [if_neg (by omega), if_pos h] at hp hl
      rw [numR_cut hp hl hz]
  · rename_i h
    rw [if_neg (by omega), if_neg (by omega)] at hp hl
    split
    · rename_i h2
      rw [if_pos h2] at hp hl
      rw [textB] at hp hl
      by_cases hq : p.length < (num f.s.length).length
      · have hp' : p <+: num f.s.length := List.prefix_of_prefix_length_le hp (List.prefix_append _ _) (by omega)
        rw [textR, numR_cut hp' hq (by omega)]
        rfl
      · obtain ⟨q, rfl⟩ := List.prefix_of_prefix_length_le (List.prefix_append (num f.s.length) f.s) hp (by omega)
        rw [textR, numR_num q (by omega)]
        simp only [List.length_append] at hl
        rw [if_pos rfl, if_neg (by omega), takeR_cut (by omega)]
    · rename_i h2
      rw [if_neg h2] at hp hl
      split
      · rename_i h3
        rw [if_pos h3] at hp hl
        simp [flagB] at hl
        subst hl
        rfl
      · rename_i h3
        rw [if_neg h3] at hp hl
        rw [digestR, takeR_cut (by rw [foldD_len] at hl; exact hl)]
theorem stF_bad {f : Fld} : stF f ⟨[], 20⟩ = ⟨[], 20⟩ := by
  unfold stF
  split
  · rfl
  · split
    · rfl
    · split <;> rfl
def stL (l : List Fld) (s : InS) : InS := l.foldl (fun s f => stF f s) s
theorem stL_back : ∀ {l : List Fld} {r : List UInt8}, (∀ f ∈ l, f.ok ∧ f.s.length ≤ 1048576) → stL l ⟨fldsB l ++ r, 0⟩ = ⟨r, 0⟩
  | [], _, _ => rfl
  | f :: l, r, h => by
    show stL l (stF f ⟨fldsB (f :: l) ++ r, 0⟩) = _
    have : fldsB (f :: l) ++ r = fldB f ++ (fldsB l ++ r) := by simp [fldsB]
    rw [this, stF_back (h f (by simp)).1 (h f (by simp)).2]
    exact stL_back fun g hg => h g (by simp [hg])
theorem stL_bad : ∀ {l : List Fld}, stL l ⟨[], 20⟩ = ⟨[], 20⟩
  | [] => rfl
  | f :: l => by show stL l (stF f _) = _; rw [stF_bad]; exact stL_bad
theorem stL_cut : ∀ {l : List Fld} {p : List UInt8}, (∀ f ∈ l, f.ok ∧ f.s.length ≤ 1048576) → p <+: fldsB l → p.length < (fldsB l).length → stL l ⟨p, 0⟩ = ⟨[], 20⟩
  | [], p, _, _, hl => by simp [fldsB] at hl
  | f :: l, p, h, hp, hl => by
    have e : fldsB (f :: l) = fldB f ++ fldsB l := by simp [fldsB]
    rw [e] at hp hl
    show stL l (stF f ⟨p, 0⟩) = _
    by_cases hq : p.length < (fldB f).length
    · have hp' : p <+: fldB f := List.prefix_of_prefix_length_le hp (List.prefix_append _ _) (by omega)
      rw [stF_cut (h f (by simp)).1 (h f (by simp)).2 hp' hq]
      exact stL_bad
    · obtain ⟨q, rfl⟩ := List.prefix_of_prefix_length_le (List.prefix_append (fldB f) (fldsB l)) hp (by omega)
      rw [stF_back (h f (by simp)).1 (h f (by simp)).2]
      refine stL_cut (fun g hg => h g (by simp [hg])) ((List.prefix_append_right_inj _).1 hp) ?_
      simp only [List.length_append] at hl
      omega
end VK
