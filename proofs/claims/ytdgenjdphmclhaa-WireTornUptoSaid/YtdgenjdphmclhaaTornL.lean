/- What is read of frames that are cut, in plain lists. Conditions: none. -/
import Derived.Test.YtdgenjdphmclhaaScan
namespace VK
open Go Go.Proofs
set_option linter.unusedSimpArgs false
set_option linter.unusedVariables false
set_option maxRecDepth 100000
set_option maxHeartbeats 40000000
def fr (ps : List (List UInt8)) : List UInt8 := ps.flatMap frameB
theorem fr_cons (p : List UInt8) (ps : List (List UInt8)) : fr (p :: ps) = frameB p ++ fr ps := rfl
theorem next_cut {p r : List UInt8} {k : Nat} (hp : p.length ≤ 262144) (hk : k < p.length + 8) : (nextR ((frameB p ++ r).take k)).2.2 ≠ 0 := by
  have hl := frame_len p
  have hlen : ((frameB p ++ r).take k).length = k := by rw [List.length_take, List.length_append, hl]; omega
  unfold nextR
  by_cases h4 : k < 4
  · rw [if_pos (by omega)]; exact (by decide)
  · have hf : unfourB ((frameB p ++ r).take k) = p.length := by
      have e4 : (fourB p.length).length = 4 := rfl
      obtain ⟨m, rfl⟩ : ∃ m, k = 4 + m := ⟨k - 4, by omega⟩
      rw [frameB, List.append_assoc, List.append_assoc, ← e4, List.take_length_add_append]
      exact unfour_four (by omega) _
    rw [hf, hlen, if_neg (by omega), if_neg (by omega), if_pos (by omega)]
    exact (by decide)
theorem next_nil : (nextR []).2.2 ≠ 0 := by decide
/-- how many frames are whole -/
def torn : List (List UInt8) → Nat → Nat
  | [], _ => 0
  | p :: ps, k => if p.length + 8 ≤ k then torn ps (k - (p.length + 8)) + 1 else 0
theorem torn_le : ∀ (ps : List (List UInt8)) (k : Nat), torn ps k ≤ ps.length
  | [], _ => Nat.le_refl _
  | p :: ps, k => by
    have := torn_le ps (k - (p.length + 8))
    unfold torn
    split <;> simp only [List.length_cons] <;> omega
theorem scan_torn : ∀ {ps : List (List UInt8)} {k : Nat}, (∀ p ∈ ps, p.length ≤ 262144) → scanR ((fr ps).take k) = (ps.take (torn ps k), (fr (ps.take (torn ps k))).length)
  | [], k, _ => by
    rw [show (fr []).take k = [] from List.take_nil, scan_stop next_nil]
    rfl
  | p :: ps, k, h => by
    have hp := h p (List.mem_cons_self ..)
    have hl := frame_len p
    rw [fr_cons]
    unfold torn
    split
    · rename_i hk
      obtain ⟨m, rfl⟩ : ∃ m, k = (frameB p).length + m := ⟨k - (p.length + 8), by omega⟩
      rw [List.take_length_add_append]
      have hn := next_frame (p := p) (r := (fr ps).take m) hp
      have := scan_go (b := frameB p ++ (fr ps).take m) (by rw [hn])
      rw [this, hn]
      dsimp only
      rw [← hl, List.drop_left, scan_torn (fun q hq => h q (List.mem_cons_of_mem _ hq)), Nat.add_sub_cancel_left, List.take_succ_cons, fr_cons, List.length_append]
    · rename_i hk
      rw [scan_stop (next_cut hp (by omega))]
      rfl
theorem torn_iff : ∀ {ps : List (List UInt8)} {k n : Nat}, n < ps.length → ((fr (ps.take (n + 1))).length ≤ k ↔ n < torn ps k)
  | [], _, _, h => absurd h (Nat.not_lt_zero _)
  | p :: ps, k, n, h => by
    have hl := frame_len p
    rw [List.take_succ_cons, fr_cons, List.length_append, hl]
    unfold torn
    match n with
    | 0 =>
      rw [List.take_zero, show (fr []).length = 0 from rfl]
      split <;> omega
    | n + 1 =>
      have ih := torn_iff (ps := ps) (k := k - (p.length + 8)) (n := n) (by simpa using h)
      split
      · rw [Nat.succ_lt_succ_iff, ← ih]; omega
      · omega
/-- where the frames end -/
def endsR (ps : List (List UInt8)) : List Int := (List.range ps.length).map fun j => ((fr (ps.take (j + 1))).length : Int)
theorem fr_snoc (ps : List (List UInt8)) (p : List UInt8) : fr (ps ++ [p]) = fr ps ++ frameB p := by simp [fr]
theorem ends_snoc (ps : List (List UInt8)) (p : List UInt8) : endsR (ps ++ [p]) = endsR ps ++ [((fr (ps ++ [p])).length : Int)] := by
  unfold endsR
  rw [List.length_append, List.length_singleton, List.range_succ, List.map_append, List.map_singleton, List.take_of_length_le (by rw [List.length_append, List.length_singleton]; omega)]
  congr 1
  apply List.map_congr_left
  intro j hj
  rw [List.mem_range] at hj
  rw [List.take_append_of_le_length (by omega)]
theorem ends_len (ps : List (List UInt8)) : (endsR ps).length = ps.length := by simp [endsR]
theorem ends_at {ps : List (List UInt8)} {j : Nat} (h : j < ps.length) : (endsR ps).getD j default = ((fr (ps.take (j + 1))).length : Int) := by
  simp [endsR, List.getD_eq_getElem?_getD, List.getElem?_range h]
theorem take_snd {l : List (Value × List UInt8)} {i : Nat} (h : i < l.length) : (l.take (i + 1)).map (·.2) = (l.take i).map (·.2) ++ [(l.getD i default).2] := by
  rw [List.take_succ_eq_append_getElem h, List.map_append]
  simp [List.getD_eq_getElem?_getD, h]
theorem fr_take_le (ps : List (List UInt8)) (n : Nat) : (fr (ps.take n)).length ≤ (fr ps).length := by
  have := congrArg (fun l => (fr l).length) (List.take_append_drop n ps)
  simp only [fr, List.flatMap_append, List.length_append] at this ⊢
  omega
end VK
