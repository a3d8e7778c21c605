/- The plain law of SessionOnce. Conditions: none. -/
import Derived.Test.YtcbhnagihkcafaaSesR
namespace VK
open Go Go.Proofs
set_option linter.unusedSimpArgs false
set_option linter.unusedVariables false
set_option maxRecDepth 100000
set_option maxHeartbeats 40000000
/-- the latest number of each client -/
def lastOf (l : List Seat) : List Int := 0 :: l.map fun s => s.number
def NB (l : List Seat) : Prop := ∀ s ∈ l, 0 ≤ s.number ∧ s.number ≤ 1099511627776
theorem NB.init : NB (List.replicate 8 default) := fun s hs => by
  obtain ⟨_, rfl⟩ := List.mem_replicate.1 hs
  exact ⟨Int.le_refl _, by decide⟩
theorem last_len {l : List Seat} (h : l.length = 8) : (lastOf l).length = 9 := by simp [lastOf, h]
theorem last_at {l : List Seat} (h : l.length = 8) {c : Int} (h1 : 1 ≤ c) (h2 : c ≤ 8) : (lastOf l).getD c.toNat default = (seatAt l c).number := by
  have : c.toNat = (c - 1).toNat + 1 := by omega
  rw [this, lastOf, List.getD_cons_succ, seatAt]
  have hi : (c - 1).toNat < l.length := by omega
  generalize (c - 1).toNat = i at hi
  simp [hi]
theorem num_evict (l : List Seat) : (evictT l).map (fun s => s.number) = l.map fun s => s.number := by
  unfold evictT
  split
  · rfl
  · rename_i j hj
    have hj1 := (bestTo_some hj).1
    rw [List.map_set]
    refine List.ext_getElem? fun i => ?_
    rw [List.getElem?_set]
    split
    · rename_i hij
      subst hij
      simp [hj1]
    · rfl
theorem num_evicted {room : Int} : ∀ {n : Nat} {l : List Seat}, WFT l → kc l ≤ n → 0 ≤ room → (evicted room l).map (fun s => s.number) = l.map fun s => s.number
  | n, l, h, hn, h0 => by
    by_cases hr : room < repB l
    · have hb := best_some_of h.wf (by omega)
      have hk := kc_evict hb
      cases n with
      | zero => omega
      | succ n => rw [evicted_step h0 h.wf hr, num_evicted (n := n) (evict_WFT h) (by omega) h0, num_evict]
    · rw [evicted_stop hr]
theorem NB.of_map {l l' : List Seat} (h : NB l) (e : l'.map (fun s => s.number) = l.map fun s => s.number) : NB l' := fun s hs => by
  have : s.number ∈ l'.map fun s => s.number := List.mem_map_of_mem hs
  rw [e] at this
  obtain ⟨t, ht, e2⟩ := List.mem_map.1 this
  rw [← e2]; exact h t ht
theorem num_forg {l : List Seat} (h : l.length = 8) (c : Int) : (forgT l c).2.map (fun s => s.number) = l.map fun s => s.number := by
  unfold forgT
  split
  · rename_i hc
    have hi : (c - 1).toNat < l.length := by omega
    rw [List.map_set]
    refine List.ext_getElem? fun i => ?_
    rw [List.getElem?_set]
    split
    · rename_i hij
      subst hij
      simp only [seatAt]
      generalize (c - 1).toNat = i at hi
      simp [hi]
    · rfl
  · rfl
theorem rec_bad {room : Int} {l : List Seat} {c n a : Int} {r : List UInt8} (h : c < 1 ∨ 8 < c) : (recT room l c n a r) = (1, l) := by
  have hb : badRq c n := by simp only [badRq]; omega
  unfold recT
  rw [if_pos (by simp only [lookT, if_pos hb])]
theorem once_fact {l : List Seat} (h : WFT l) (hn : NB l) {room : Int} (h0 : 0 ≤ room) {c n a : Int} {r : List UInt8} (hr : (recT room l c n a r).1 = 0) :
    1 ≤ c ∧ c ≤ 8 ∧ (seatAt l c).number < n ∧ lastOf (recT room l c n a r).2 = (lastOf l).set c.toNat n ∧ NB (recT room l c n a r).2 := by
  obtain ⟨hb, hs, hlen, he⟩ := rec_ok hr
  have hw := new_WFT h (a := a) (r := r) hb
  have hl := h.len
  have hlook : (lookS (seatAt l c) n).1 = 1 := by simpa only [lookT, if_neg hb] using hs
  simp only [badRq] at hb
  have hi : (c - 1).toNat < l.length := by omega
  have hlt : (seatAt l c).number < n := by
    unfold lookS at hlook
    split at hlook
    · assumption
    · split at hlook
      · cases hlook
      · split at hlook <;> cases hlook
  have e1 := num_evicted hw (Nat.le_refl _) h0
  rw [he]
  refine ⟨by omega, by omega, hlt, ?_, ?_⟩
  · rw [lastOf, e1, List.map_set, lastOf, show c.toNat = (c - 1).toNat + 1 by omega, List.set_cons_succ]
    rfl
  · refine NB.of_map (l := l.set (c - 1).toNat (newSeat c n a r)) (fun s hs => ?_) e1
    rcases set_mem hs with hs | rfl
    · exact hn s hs
    · exact ⟨show 0 ≤ n by omega, show n ≤ 1099511627776 by omega⟩
theorem look_last {l : List Seat} (h : WFT l) (hn : NB l) {c : Int} (h1 : 1 ≤ c) (h2 : c ≤ 8) : (lookT l c (seatAt l c).number).1 ≠ 1 ∧ ((lookT l c (seatAt l c).number).1 = 0 ↔ (seatAt l c).number = 0) := by
  have hl := h.len
  have hi : (c - 1).toNat < l.length := by omega
  have hm : seatAt l c ∈ l := by
    unfold seatAt
    generalize (c - 1).toNat = i at hi
    simp [hi]
  obtain ⟨b1, b2⟩ := hn _ hm
  unfold lookT
  by_cases hz : (seatAt l c).number = 0
  · have hb : badRq c (seatAt l c).number := by simp only [badRq]; omega
    rw [if_pos hb]
    exact ⟨by decide, by simp [hz]⟩
  · have hb : ¬ badRq c (seatAt l c).number := by simp only [badRq]; omega
    rw [if_neg hb, lookS, if_neg (Int.lt_irrefl _), if_neg (Int.lt_irrefl _)]
    split
    · exact ⟨by simp, by simp [hz]⟩
    · exact ⟨by simp, by simp [hz]⟩
theorem list_last {l : List Seat} (h : WFT l) {s : Seat} (hs : s ∈ listT l) : 1 ≤ s.client ∧ s.client ≤ 8 ∧ (lastOf l).getD s.client.toNat default = s.number := by
  obtain ⟨h1, h2⟩ := mem_list.1 hs
  obtain ⟨i, hi, rfl⟩ := List.getElem_of_mem h1
  have hl := h.len
  have e : l.getD i default = l[i] := by simp [hi]
  have := h.ok i (by omega)
  rw [e] at this
  rcases this with hd | ⟨_, h4, _⟩
  · rw [hd] at h2; exact absurd h2 (by decide)
  · refine ⟨by omega, by omega, ?_⟩
    rw [last_at hl (by omega) (by omega), seatAt]
    have : (l[i].client - 1).toNat = i := by omega
    rw [this, e]
end VK
