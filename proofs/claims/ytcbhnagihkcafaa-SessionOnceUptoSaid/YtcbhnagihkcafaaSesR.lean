/- The plain law of SessionRoom and SessionOnce. Conditions: none. -/
import Derived.Test.YtcbhnagihkcafaaSes6
namespace VK
open Go Go.Proofs
set_option linter.unusedSimpArgs false
set_option linter.unusedVariables false
set_option maxRecDepth 100000
set_option maxHeartbeats 40000000
def oth (c : Int) (l : List Seat) : List Seat := l.filter fun s => !decide (s.client = c)
theorem oth_succ {l : List Seat} {k : Nat} (c : Int) (h : k < l.length) : oth c (l.take (k + 1)) = if (l.getD k default).client = c then oth c (l.take k) else oth c (l.take k) ++ [l.getD k default] := by
  rw [List.take_succ_eq_append_getElem h]
  simp only [oth, List.filter_append, List.getD_eq_getElem?_getD, List.getElem?_eq_getElem h, Option.getD_some]
  split <;> simp_all
theorem oth_rep (c : Int) : ∀ l : List Seat, repB (oth c l) ≤ repB l
  | [] => Nat.le_refl _
  | x :: l => by
    have := oth_rep c l
    simp only [oth, List.filter_cons] at this ⊢
    split <;> simp [repB] at this ⊢ <;> omega
theorem oth_kc (c : Int) (l : List Seat) : kc (oth c l) ≤ l.length := by
  have h1 : kc (oth c l) ≤ (oth c l).length := List.countP_le_length
  have h2 : (oth c l).length ≤ l.length := List.length_filter_le _ _
  omega
theorem kc_app (a b : List Seat) : kc (a ++ b) = kc a + kc b := List.countP_append
theorem rec_same {room : Int} {l : List Seat} {c n a : Int} {r : List UInt8} (h : (recT room l c n a r).1 ≠ 0) : (recT room l c n a r).2 = l := by
  unfold recT at h ⊢
  by_cases h1 : (lookT l c n).1 = 0
  · simp only [if_pos h1]
  · simp only [if_neg h1] at h ⊢
    by_cases h2 : (lookT l c n).1 ≠ 1
    · simp only [if_pos h2]
    · simp only [if_neg h2] at h ⊢
      by_cases h3 : 8192 < r.length
      · simp only [if_pos h3]
      · simp only [if_neg h3] at h
        exact absurd rfl h
theorem rec_ok {room : Int} {l : List Seat} {c n a : Int} {r : List UInt8} (h : (recT room l c n a r).1 = 0) : ¬ badRq c n ∧ (lookT l c n).1 = 1 ∧ r.length ≤ 8192 ∧ (recT room l c n a r).2 = evicted room (l.set (c - 1).toNat (newSeat c n a r)) := by
  unfold recT at h ⊢
  by_cases h1 : (lookT l c n).1 = 0
  · simp only [if_pos h1] at h; cases h
  · simp only [if_neg h1] at h ⊢
    by_cases h2 : (lookT l c n).1 ≠ 1
    · simp only [if_pos h2] at h; cases h
    · simp only [if_neg h2] at h ⊢
      by_cases h3 : 8192 < r.length
      · simp only [if_pos h3] at h; cases h
      · simp only [if_neg h3]
        exact ⟨fun hb => h1 (by simp only [lookT, if_pos hb]), by simpa using h2, by omega, trivial⟩
theorem evicted_kc {room : Int} : ∀ {n : Nat} {l : List Seat}, WFT l → kc l ≤ n → 0 ≤ room → kc (evicted room l) ≤ kc l
  | n, l, h, hn, h0 => by
    by_cases hr : room < repB l
    · have hb := best_some_of h.wf (by omega)
      have hk := kc_evict hb
      cases n with
      | zero => omega
      | succ n => rw [evicted_step h0 h.wf hr]; have := evicted_kc (n := n) (evict_WFT h) (by omega) h0; omega
    · rw [evicted_stop hr]; exact Nat.le_refl _
theorem new_WFT {l : List Seat} (h : WFT l) {c n a : Int} {r : List UInt8} (hb : ¬ badRq c n) : WFT (l.set (c - 1).toNat (newSeat c n a r)) := by
  simp only [badRq] at hb
  exact h.set (i := (c - 1).toNat) (by omega) (show 0 < n by omega) (show c = ((c - 1).toNat : Int) + 1 by omega) (fun hk => by cases hk)
theorem oth_list {l : List Seat} (h : WFT l) {c : Int} (h1 : 1 ≤ c) (h2 : c ≤ 8) {s : Seat} (hn : 0 < s.number) : repB (listT (l.set (c - 1).toNat s)) = repB (oth c (listT l)) + s.reply.length ∧ kc (listT (l.set (c - 1).toNat s)) = kc (oth c (listT l)) + (if s.kept then 1 else 0) := by
  have hl := h.len
  generalize hi : (c - 1).toNat = i
  have hil : i < l.length := by omega
  have e2 : l.set i s = l.take i ++ (s :: l.drop (i + 1)) := by rw [List.set_eq_take_append_cons_drop, if_pos hil]
  have e3 : listT (l.set i s) = listT (l.take i) ++ (s :: listT (l.drop (i + 1))) := by
    rw [e2, listT_app]; congr 1; simp [listT, hn]
  have hA : ∀ x ∈ listT (l.take i), ¬ x.client = c := fun x hx => by have := (seg h hil).1 hx; omega
  have hB : ∀ x ∈ listT (l.drop (i + 1)), ¬ x.client = c := fun x hx => by have := (seg h hil).2 hx; omega
  have e4 : oth c (listT l) = listT (l.take i) ++ listT (l.drop (i + 1)) := by
    conv => lhs; rw [split3 hil]
    rw [listT_app, oth, List.filter_append]
    have f1 : (listT (l.take i)).filter (fun s => !decide (s.client = c)) = listT (l.take i) := List.filter_eq_self.2 fun x hx => by simp [hA x hx]
    rw [f1]
    congr 1
    have e5 : listT (l.getD i default :: l.drop (i + 1)) = listT [l.getD i default] ++ listT (l.drop (i + 1)) := by rw [← listT_app]; rfl
    rw [e5, List.filter_append]
    have f2 : (listT (l.drop (i + 1))).filter (fun s => !decide (s.client = c)) = listT (l.drop (i + 1)) := List.filter_eq_self.2 fun x hx => by simp [hB x hx]
    rw [f2]
    have f3 : (listT [l.getD i default]).filter (fun s => !decide (s.client = c)) = [] := by
      refine List.filter_eq_nil_iff.2 fun x hx => ?_
      obtain ⟨hx1, hx2⟩ := mem_list.1 hx
      simp only [List.mem_singleton] at hx1
      subst hx1
      rcases h.ok i (by omega) with hd | ⟨_, h4, _⟩
      · rw [hd] at hx2; exact absurd hx2 (by decide)
      · have : (l.getD i default).client = c := by omega
        rw [this]; simp
    rw [f3]; rfl
  rw [e3, e4]
  constructor
  · rw [repB_app, repB_app, show s :: listT (l.drop (i + 1)) = [s] ++ listT (l.drop (i + 1)) from rfl, repB_app]
    have : repB [s] = s.reply.length := by simp [repB]
    omega
  · rw [kc_app, kc_app, show s :: listT (l.drop (i + 1)) = [s] ++ listT (l.drop (i + 1)) from rfl, kc_app]
    have : kc [s] = if s.kept then 1 else 0 := by unfold kc; cases hk : s.kept <;> simp [hk]
    omega
theorem room_fact {l : List Seat} (h : WFT l) {room : Int} (h0 : 0 ≤ room) {c n a : Int} {r : List UInt8} (hr : (recT room l c n a r).1 = 0) :
    (repB (listT (recT room l c n a r).2) : Int) ≤ room ∧ ((repB (oth c (listT l)) + r.length : Int) ≤ room → kc (listT (recT room l c n a r).2) = kc (oth c (listT l)) + 1) ∧ (room < (repB (oth c (listT l)) + r.length : Int) → kc (listT (recT room l c n a r).2) ≠ kc (oth c (listT l)) + 1) := by
  obtain ⟨hb, hs, hlen, he⟩ := rec_ok hr
  have hw := new_WFT h (a := a) (r := r) hb
  rw [he]
  simp only [badRq] at hb
  obtain ⟨o1, o2⟩ := oth_list h (c := c) (by omega) (by omega) (s := newSeat c n a r) (show 0 < n by omega)
  simp only [newSeat, if_true] at o1 o2
  generalize hl1 : l.set (c - 1).toNat (newSeat c n a r) = l1 at hw
  simp only [newSeat] at hl1
  rw [hl1] at o1 o2
  obtain ⟨e1, e2⟩ := evicted_list hw (Nat.le_refl _) h0
  have e3 := evicted_rep hw (Nat.le_refl _) h0
  have r1 := repB_list hw
  have k1 := kc_list hw
  rw [repB_list e2, kc_list e2]
  refine ⟨e3, fun hh => ?_, fun hh => ?_⟩
  · rw [evicted_stop (by omega)]; omega
  · have hrr : room < repB l1 := by omega
    have hbs := best_some_of hw.wf (by omega)
    have hk := kc_evict hbs
    rw [evicted_step h0 hw.wf hrr]
    have := evicted_kc (evict_WFT hw) (Nat.le_refl _) h0
    omega
end VK
