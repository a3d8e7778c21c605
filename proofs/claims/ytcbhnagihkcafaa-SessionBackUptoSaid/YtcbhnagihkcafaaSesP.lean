/- The plain law of the session table: what the table does to its seats, the reference does to its list. Conditions: none. -/
import Derived.Test.YtcbhnagihkcafaaSes4
namespace VK
open Go Go.Proofs
set_option linter.unusedSimpArgs false
set_option linter.unusedVariables false
set_option maxRecDepth 100000
set_option maxHeartbeats 40000000
/-- seats as they are: each empty one is the zero one, each other has its own client -/
structure WFT (l : List Seat) : Prop where
  len : l.length = 8
  ok : ∀ i, i < 8 → (l.getD i default = default) ∨ (0 < (l.getD i default).number ∧ (l.getD i default).client = i + 1 ∧ ((l.getD i default).kept = false → (l.getD i default).reply = []))
theorem WFT.init : WFT (List.replicate 8 default) := ⟨rfl, fun i hi => .inl (by rw [List.getD_eq_getElem?_getD, List.getElem?_replicate, if_pos hi]; rfl)⟩
theorem WFT.mem {l : List Seat} (h : WFT l) {s : Seat} (hs : s ∈ l) : s = default ∨ (0 < s.number ∧ 1 ≤ s.client ∧ s.client ≤ 8 ∧ (s.kept = false → s.reply = [])) := by
  obtain ⟨i, hi, rfl⟩ := List.getElem_of_mem hs
  have hl := h.len
  have h2 : l.getD i default = l[i] := by simp [hi]
  have := h.ok i (by omega)
  rw [h2] at this
  rcases this with h | ⟨h1, h2, h3⟩
  · exact .inl h
  · exact .inr ⟨h1, by omega, by omega, h3⟩
theorem WFT.wf {l : List Seat} (h : WFT l) : wfS l := fun s hs hk => by
  rcases h.mem hs with rfl | ⟨_, _, _, h3⟩
  · rfl
  · exact h3 hk
theorem WFT.set {l : List Seat} (h : WFT l) {i : Nat} (hi : i < 8) {a : Seat} (h1 : 0 < a.number) (h2 : a.client = i + 1) (h3 : a.kept = false → a.reply = []) : WFT (l.set i a) := by
  have hl := h.len
  refine ⟨by simpa using hl, fun j hj => ?_⟩
  by_cases hij : i = j
  · subst hij
    rw [getD_set_self (by omega)]
    exact .inr ⟨h1, h2, h3⟩
  · have : (l.set i a).getD j default = l.getD j default := by simp [List.getElem?_set, hij]
    rw [this]
    exact h.ok j hj
theorem bestTo_spec {l : List Seat} : ∀ {n j : Nat}, bestTo l n = some j → (∀ i, i < n → (l.getD i default).kept = true → (l.getD j default).at_ ≤ (l.getD i default).at_) ∧ (∀ i, i < j → (l.getD i default).kept = true → (l.getD j default).at_ < (l.getD i default).at_)
  | 0, _, h => by cases h
  | n + 1, j, h => by
    simp only [bestTo] at h
    split at h
    · rename_i hn
      have hz := bestTo_none hn
      split at h
      · cases h
        refine ⟨fun i hi hk => ?_, fun i hi hk => ?_⟩
        · by_cases hin : i = n
          · subst hin; exact Int.le_refl _
          · have := hz i (by omega); rw [this] at hk; cases hk
        · have := hz i hi; rw [this] at hk; cases hk
      · cases h
    · rename_i j' hj
      obtain ⟨s1, s2⟩ := bestTo_spec hj
      have hj1 := (bestTo_some hj).1
      split at h
      · rename_i hh
        cases h
        refine ⟨fun i hi hk => ?_, fun i hi hk => ?_⟩
        · by_cases hin : i = n
          · subst hin; exact Int.le_refl _
          · have := s1 i (by omega) hk; omega
        · have := s1 i hi hk; omega
      · rename_i hh
        cases h
        refine ⟨fun i hi hk => ?_, s2⟩
        by_cases hin : i = n
        · subst hin
          have : ¬ (l.getD i default).at_ < (l.getD j default).at_ := fun h => hh ⟨hk, h⟩
          omega
        · exact s1 i (by omega) hk
def gone (s : Seat) : Seat := { s with kept := false, reply := [] }
def evB (m : Int) : List Seat → List Seat
  | [] => []
  | x :: xs => if x.kept = true ∧ x.at_ = m then gone x :: xs else x :: evB m xs
theorem evB_set {m : Int} : ∀ {l : List Seat} {j : Nat}, j < l.length → (l.getD j default).kept = true ∧ (l.getD j default).at_ = m → (∀ i, i < j → ¬ ((l.getD i default).kept = true ∧ (l.getD i default).at_ = m)) → evB m l = l.set j (gone (l.getD j default))
  | [], _, h, _, _ => by simp at h
  | x :: xs, 0, _, h, _ => by simp at h; simp [evB, h]
  | x :: xs, j + 1, hj, h, hn => by
    have h0 := hn 0 (by omega)
    simp only [List.getD_cons_zero] at h0
    simp only [evB, if_neg h0, List.set_cons_succ, List.getD_cons_succ]
    rw [evB_set (by simpa using hj) (by simpa using h) (fun i hi => by simpa using hn (i + 1) (by omega))]
def isMin (m : Int) (l : List Seat) : Prop := (∃ x ∈ l, x.kept = true ∧ x.at_ = m) ∧ ∀ x ∈ l, x.kept = true → m ≤ x.at_
theorem isMin.uniq {m m' : Int} {l : List Seat} (h : isMin m l) (h' : isMin m' l) : m = m' := by
  obtain ⟨⟨x, h1, h2, h3⟩, h4⟩ := h
  obtain ⟨⟨y, k1, k2, k3⟩, k4⟩ := h'
  have := h4 y k1 k2
  have := k4 x h1 h2
  omega
theorem evictT_evB {l : List Seat} {m : Int} (h : isMin m l) : evictT l = evB m l := by
  cases hb : bestTo l l.length with
  | none =>
    obtain ⟨⟨x, h1, h2, _⟩, _⟩ := h
    obtain ⟨i, hi, rfl⟩ := List.getElem_of_mem h1
    have := bestTo_none hb i hi
    rw [show l.getD i default = l[i] by simp [hi]] at this
    rw [this] at h2; cases h2
  | some j =>
    obtain ⟨h1, h2⟩ := bestTo_some hb
    obtain ⟨s1, s2⟩ := bestTo_spec hb
    have hj : l.getD j default = l[j] := by simp [h1]
    have hm : isMin (l.getD j default).at_ l := by
      refine ⟨⟨l[j], List.getElem_mem h1, by rw [← hj]; exact h2, by rw [← hj]⟩, fun x hx hk => ?_⟩
      obtain ⟨i, hi, rfl⟩ := List.getElem_of_mem hx
      have := s1 i hi (by rw [show l.getD i default = l[i] by simp [hi]]; exact hk)
      rwa [show l.getD i default = l[i] by simp [hi]] at this
    have hmm := h.uniq hm
    rw [evB_set h1 ⟨h2, hmm.symm⟩ (fun i hi hh => by have := s2 i hi hh.1; omega)]
    simp only [evictT, hb]
    rfl
theorem evictT_none {l : List Seat} (h : ∀ x ∈ l, x.kept = false) : evictT l = l := by
  cases hb : bestTo l l.length with
  | none => simp only [evictT, hb]
  | some j =>
    obtain ⟨h1, h2⟩ := bestTo_some hb
    have := h l[j] (List.getElem_mem h1)
    rw [show l.getD j default = l[j] by simp [h1]] at h2
    rw [h2] at this; cases this
theorem min_or {l : List Seat} : (∀ x ∈ l, x.kept = false) ∨ ∃ m, isMin m l := by
  cases hb : bestTo l l.length with
  | none =>
    left
    intro x hx
    obtain ⟨i, hi, rfl⟩ := List.getElem_of_mem hx
    have := bestTo_none hb i hi
    rwa [show l.getD i default = l[i] by simp [hi]] at this
  | some j =>
    right
    obtain ⟨h1, h2⟩ := bestTo_some hb
    obtain ⟨s1, s2⟩ := bestTo_spec hb
    have hj : l.getD j default = l[j] := by simp [h1]
    refine ⟨(l.getD j default).at_, ⟨l[j], List.getElem_mem h1, by rw [← hj]; exact h2, by rw [← hj]⟩, fun x hx hk => ?_⟩
    obtain ⟨i, hi, rfl⟩ := List.getElem_of_mem hx
    have := s1 i hi (by rw [show l.getD i default = l[i] by simp [hi]]; exact hk)
    rwa [show l.getD i default = l[i] by simp [hi]] at this
theorem evB_list {m : Int} : ∀ {l : List Seat}, (∀ x ∈ l, x.kept = true → 0 < x.number) → listT (evB m l) = evB m (listT l)
  | [], _ => rfl
  | x :: xs, h => by
    have ih := evB_list (m := m) (l := xs) fun y hy => h y (by simp [hy])
    simp only [listT] at ih ⊢
    by_cases h1 : x.kept = true ∧ x.at_ = m
    · have h2 := h x (by simp) h1.1
      simp [evB, h1, h2, gone]
    · simp only [evB, if_neg h1, List.filter_cons]
      split
      · rw [ih, evB, if_neg h1]
      · exact ih
theorem kept_pos {l : List Seat} (h : WFT l) {x : Seat} (hx : x ∈ l) (hk : x.kept = true) : 0 < x.number := by
  rcases h.mem hx with rfl | ⟨h1, _⟩
  · cases hk
  · exact h1
theorem mem_list {l : List Seat} {x : Seat} : x ∈ listT l ↔ x ∈ l ∧ 0 < x.number := by simp [listT]
theorem evictT_list {l : List Seat} (h : WFT l) : evictT (listT l) = listT (evictT l) := by
  rcases min_or (l := l) with hn | ⟨m, hm⟩
  · rw [evictT_none hn, evictT_none fun x hx => hn x (mem_list.1 hx).1]
  · have hm' : isMin m (listT l) := by
      obtain ⟨⟨x, h1, h2, h3⟩, h4⟩ := hm
      exact ⟨⟨x, mem_list.2 ⟨h1, kept_pos h h1 h2⟩, h2, h3⟩, fun y hy => h4 y (mem_list.1 hy).1⟩
    rw [evictT_evB hm, evictT_evB hm', evB_list fun x hx hk => kept_pos h hx hk]
theorem evict_WFT {l : List Seat} (h : WFT l) : WFT (evictT l) := by
  cases hb : bestTo l l.length with
  | none => simp only [evictT, hb]; exact h
  | some j =>
    obtain ⟨h1, h2⟩ := bestTo_some hb
    have hl := h.len
    simp only [evictT, hb]
    rcases h.ok j (by omega) with hd | ⟨h3, h4, _⟩
    · rw [hd] at h2; cases h2
    · exact h.set (by omega) h3 h4 (fun _ => rfl)
theorem repB_list {l : List Seat} (h : WFT l) : repB (listT l) = repB l := by
  have key : ∀ l : List Seat, (∀ s ∈ l, s = default ∨ 0 < s.number) → repB (listT l) = repB l := by
    intro l
    induction l with
    | nil => intro _; rfl
    | cons x xs ih =>
      intro h
      have ih := ih fun s hs => h s (by simp [hs])
      simp only [repB, listT] at ih
      rcases h x (by simp) with rfl | hx
      · have : (default : Seat).number = 0 := rfl
        have h2 : (default : Seat).reply = [] := rfl
        simp [repB, listT, this, h2, ih]
      · simp [repB, listT, hx, ih]
  exact key l fun s hs => (h.mem hs).imp id fun h => h.1
theorem kc_list {l : List Seat} (h : WFT l) : kc (listT l) = kc l := by
  unfold kc listT
  rw [List.countP_filter]
  refine List.countP_congr fun x hx => ?_
  rcases h.mem hx with rfl | ⟨h1, _⟩
  · simp; intro h; cases h
  · simp [h1]
theorem evicted_list {room : Int} : ∀ {n : Nat} {l : List Seat}, WFT l → kc l ≤ n → 0 ≤ room → evicted room (listT l) = listT (evicted room l) ∧ WFT (evicted room l)
  | n, l, h, hn, h0 => by
    by_cases hr : room < repB l
    · have hb := best_some_of h.wf (by omega)
      have hk := kc_evict hb
      have hw := evict_WFT h
      have hwl : wfS (listT l) := fun s hs => h.wf s (mem_list.1 hs).1
      cases n with
      | zero => omega
      | succ n =>
        have ih := evicted_list (room := room) (n := n) hw (by omega) h0
        rw [evicted_step h0 h.wf hr, evicted_step h0 hwl (by rw [repB_list h]; exact hr), evictT_list h]
        exact ih
    · rw [evicted_stop hr, evicted_stop (by rw [repB_list h]; exact hr)]
      exact ⟨by first | rfl | trivial, h⟩
theorem evicted_rep {room : Int} : ∀ {n : Nat} {l : List Seat}, WFT l → kc l ≤ n → 0 ≤ room → (repB (evicted room l) : Int) ≤ room
  | n, l, h, hn, h0 => by
    by_cases hr : room < repB l
    · have hb := best_some_of h.wf (by omega)
      have hk := kc_evict hb
      cases n with
      | zero => omega
      | succ n => rw [evicted_step h0 h.wf hr]; exact evicted_rep (n := n) (evict_WFT h) (by omega) h0
    · rw [evicted_stop hr]; omega
/-- the reference's insertion -/
def insGo (s : Seat) : Bool → List Seat → List Seat
  | put, [] => if put then [] else [s]
  | put, x :: xs => (if put = false ∧ s.client ≤ x.client then [s] else []) ++ ((if x.client = s.client then [] else [x]) ++ insGo s (put || decide (s.client ≤ x.client)) xs)
theorem ins_lt {s : Seat} : ∀ {A B : List Seat}, (∀ x ∈ A, x.client < s.client) → insGo s false (A ++ B) = A ++ insGo s false B
  | [], _, _ => rfl
  | x :: A, B, h => by
    have hx := h x (by simp)
    have ih := ins_lt (s := s) (A := A) (B := B) fun y hy => h y (by simp [hy])
    have e : decide (s.client ≤ x.client) = false := decide_eq_false (by omega)
    simp [insGo, e, ih, show ¬ s.client ≤ x.client by omega, show ¬ x.client = s.client by omega]
theorem ins_true {s : Seat} : ∀ {B : List Seat}, (∀ x ∈ B, s.client < x.client) → insGo s true B = B
  | [], _ => rfl
  | x :: B, h => by
    have hx := h x (by simp)
    have ih := ins_true (s := s) (B := B) fun y hy => h y (by simp [hy])
    simp [insGo, ih, show ¬ x.client = s.client by omega]
theorem ins_gt {s : Seat} {B : List Seat} (h : ∀ x ∈ B, s.client < x.client) : insGo s false B = s :: B := by
  cases B with
  | nil => rfl
  | cons x B =>
    have hx := h x (by simp)
    have ih := ins_true (s := s) (B := B) fun y hy => h y (by simp [hy])
    simp [insGo, show s.client ≤ x.client by omega, show ¬ x.client = s.client by omega, ih]
theorem listT_app (A B : List Seat) : listT (A ++ B) = listT A ++ listT B := by simp [listT]
theorem seg {l : List Seat} (h : WFT l) {i : Nat} {x : Seat} (hi : i < l.length) : (x ∈ listT (l.take i) → x.client < i + 1) ∧ (x ∈ listT (l.drop (i + 1)) → (i : Int) + 1 < x.client) := by
  have hl := h.len
  constructor
  · intro hx
    obtain ⟨h1, h2⟩ := mem_list.1 hx
    obtain ⟨j, hj, rfl⟩ := List.getElem_of_mem h1
    have hj' : j < i := by simp at hj; omega
    have e : (l.take i)[j] = l.getD j default := by simp [show j < l.length by omega]
    rw [e] at h2 ⊢
    rcases h.ok j (by omega) with hd | ⟨_, h4, _⟩
    · rw [hd] at h2; exact absurd h2 (by decide)
    · omega
  · intro hx
    obtain ⟨h1, h2⟩ := mem_list.1 hx
    obtain ⟨j, hj, rfl⟩ := List.getElem_of_mem h1
    have hj' : i + 1 + j < l.length := by simp at hj; omega
    have e : (l.drop (i + 1))[j] = l.getD (i + 1 + j) default := by simp [hj']
    rw [e] at h2 ⊢
    rcases h.ok (i + 1 + j) (by omega) with hd | ⟨_, h4, _⟩
    · rw [hd] at h2; exact absurd h2 (by decide)
    · omega
theorem split3 {l : List Seat} {i : Nat} (hi : i < l.length) : l = l.take i ++ (l.getD i default :: l.drop (i + 1)) := by
  have e : l.getD i default = l[i] := by simp [hi]
  rw [e, ← List.drop_eq_getElem_cons hi, List.take_append_drop]
theorem ins_list {l : List Seat} (h : WFT l) {i : Nat} (hi : i < 8) {s : Seat} (h1 : 0 < s.number) (h2 : s.client = i + 1) : insGo s false (listT l) = listT (l.set i s) := by
  have hl := h.len
  have hil : i < l.length := by omega
  have e2 : l.set i s = l.take i ++ (s :: l.drop (i + 1)) := by rw [List.set_eq_take_append_cons_drop, if_pos hil]
  have e3 : listT (l.set i s) = listT (l.take i) ++ (s :: listT (l.drop (i + 1))) := by
    rw [e2, listT_app]; congr 1; simp [listT, h1]
  have hB : ∀ x ∈ listT (l.drop (i + 1)), s.client < x.client := fun x hx => by have := (seg h hil).2 hx; omega
  rw [e3]
  conv => lhs; rw [split3 hil]
  rw [listT_app, ins_lt fun x hx => by have := (seg h hil).1 hx; omega]
  congr 1
  rcases h.ok i hi with hd | ⟨h3, h4, _⟩
  · rw [hd]
    have : listT ((default : Seat) :: l.drop (i + 1)) = listT (l.drop (i + 1)) := rfl
    rw [this, ins_gt hB]
  · have : listT (l.getD i default :: l.drop (i + 1)) = l.getD i default :: listT (l.drop (i + 1)) := by simp only [listT, List.filter_cons, h3, decide_true, if_true]
    rw [this]
    generalize l.getD i default = m at *
    simp [insGo, ins_true hB, show m.client = s.client by omega]
/-- who is looked for -/
theorem find_list {l : List Seat} (h : WFT l) {c : Int} (h1 : 1 ≤ c) (h2 : c ≤ 8) : if 0 < (seatAt l c).number then findI (listT l) c < (listT l).length ∧ (listT l).getD (findI (listT l) c) default = seatAt l c else ¬ findI (listT l) c < (listT l).length := by
  have hl := h.len
  generalize hi : (c - 1).toNat = i
  have hi8 : i < 8 := by omega
  have hil : i < l.length := by omega
  have hs : seatAt l c = l.getD i default := by rw [seatAt, hi]
  have e : listT l = listT (l.take i) ++ listT (l.getD i default :: l.drop (i + 1)) := by rw [← listT_app, ← split3 hil]
  have hA : ∀ x ∈ listT (l.take i), ¬ x.client = c := fun x hx => by have := (seg h hil).1 hx; omega
  have hB : ∀ x ∈ listT (l.drop (i + 1)), ¬ x.client = c := fun x hx => by have := (seg h hil).2 hx; omega
  rw [hs]
  split
  · rename_i hn
    have e2 : listT (l.getD i default :: l.drop (i + 1)) = l.getD i default :: listT (l.drop (i + 1)) := by simp only [listT, List.filter_cons, hn, decide_true, if_true]
    have hc : (l.getD i default).client = c := by
      rcases h.ok i hi8 with hd | ⟨_, h4, _⟩
      · rw [hd] at hn; exact absurd hn (by decide)
      · omega
    rw [e2] at e
    have hf : findI (listT l) c = (listT (l.take i)).length := by
      unfold findI
      rw [e]
      rw [List.findIdx_append]
      have h0 : List.findIdx (fun s => decide (s.client = c)) (listT (l.take i)) = (listT (l.take i)).length := List.findIdx_eq_length.2 fun x hx => decide_eq_false (hA x hx)
      have h5 : List.findIdx (fun s : Seat => decide (s.client = c)) (l.getD i default :: listT (l.drop (i + 1))) = 0 := by rw [List.findIdx_cons, hc]; simp
      rw [h0, h5]
      simp
    rw [hf, e]
    refine ⟨by simp, by simp⟩
  · rename_i hn
    have hz : ∀ x ∈ listT l, ¬ x.client = c := by
      intro x hx
      rw [e] at hx
      rcases List.mem_append.1 hx with hx | hx
      · exact hA x hx
      · have e2 : listT (l.getD i default :: l.drop (i + 1)) = listT (l.drop (i + 1)) := by simp only [listT, List.filter_cons, hn, decide_false, Bool.false_eq_true, if_false]
        rw [e2] at hx
        exact hB x hx
    have : findI (listT l) c = (listT l).length := List.findIdx_eq_length.2 fun x hx => decide_eq_false (hz x hx)
    omega
theorem look_list {l : List Seat} (h : WFT l) (c n : Int) : lookR (listT l) c n = lookT l c n := by
  unfold lookR lookT
  by_cases hb : badRq c n
  · rw [if_pos hb, if_pos hb]
  · rw [if_neg hb, if_neg hb]
    simp only [badRq] at hb
    have := find_list h (c := c) (by omega) (by omega)
    split at this
    · rw [if_pos this.1, this.2]
    · rw [if_neg this]
      rename_i hn
      have hd : seatAt l c = default := by
        rcases h.ok (c - 1).toNat (by omega) with hd | ⟨h3, _⟩
        · exact hd
        · exact absurd h3 hn
      rw [hd, lookS, if_pos (show (default : Seat).number < n from by show (0 : Int) < n; omega)]
def recR (room : Int) (l : List Seat) (client number at_ : Int) (reply : List UInt8) : Int × List Seat :=
  if (lookR l client number).1 = 0 then (1, l) else if (lookR l client number).1 ≠ 1 then (6, l) else if 8192 < reply.length then (2, l) else
    (0, evicted room (insGo (newSeat client number at_ reply) false l))
theorem rec_list {l : List Seat} (h : WFT l) {room : Int} (h0 : 0 ≤ room) (c n a : Int) (r : List UInt8) : recR room (listT l) c n a r = ((recT room l c n a r).1, listT (recT room l c n a r).2) ∧ WFT (recT room l c n a r).2 := by
  unfold recR recT
  rw [look_list h]
  by_cases h1 : (lookT l c n).1 = 0
  · simp only [if_pos h1]; exact ⟨by first | rfl | trivial, h⟩
  · simp only [if_neg h1]
    by_cases h2 : (lookT l c n).1 ≠ 1
    · simp only [if_pos h2]; exact ⟨by first | rfl | trivial, h⟩
    · simp only [if_neg h2]
      by_cases h3 : 8192 < r.length
      · simp only [if_pos h3]; exact ⟨by first | rfl | trivial, h⟩
      · simp only [if_neg h3]
        have hb : ¬ badRq c n := fun hb => h1 (by simp only [lookT, if_pos hb])
        simp only [badRq] at hb
        have hw : WFT (l.set (c - 1).toNat (newSeat c n a r)) := h.set (i := (c - 1).toNat) (by omega) (show 0 < n by omega) (show c = ((c - 1).toNat : Int) + 1 by omega) (fun hk => by cases hk)
        rw [ins_list h (i := (c - 1).toNat) (by omega) (show 0 < n by omega) (show c = ((c - 1).toNat : Int) + 1 by omega)]
        obtain ⟨e1, e2⟩ := evicted_list hw (Nat.le_refl _) h0
        rw [e1]
        exact ⟨by first | rfl | trivial, e2⟩
def forgR (l : List Seat) (client : Int) : Bool × List Seat :=
  if findI l client < l.length ∧ (l.getD (findI l client) default).kept = true then (true, l.set (findI l client) { l.getD (findI l client) default with kept := false, reply := [] }) else (false, l)
theorem set_list {l : List Seat} (h : WFT l) {c : Int} (h1 : 1 ≤ c) (h2 : c ≤ 8) (hk : (seatAt l c).kept = true) : listT (l.set (c - 1).toNat (gone (seatAt l c))) = (listT l).set (findI (listT l) c) (gone (seatAt l c)) ∧ 0 < (seatAt l c).number := by
  have hl := h.len
  have hn : 0 < (seatAt l c).number := by
    rcases h.ok (c - 1).toNat (by omega) with hd | ⟨h3, _⟩
    · unfold seatAt at hk; rw [hd] at hk; cases hk
    · exact h3
  refine ⟨?_, hn⟩
  have hf := find_list h h1 h2
  rw [if_pos hn] at hf
  generalize hi : (c - 1).toNat = i at *
  have hil : i < l.length := by omega
  have hs : seatAt l c = l.getD i default := by rw [seatAt, hi]
  rw [hs] at hn hf hk ⊢
  have e : listT l = listT (l.take i) ++ (l.getD i default :: listT (l.drop (i + 1))) := by
    have e2 : listT (l.getD i default :: l.drop (i + 1)) = l.getD i default :: listT (l.drop (i + 1)) := by simp only [listT, List.filter_cons, hn, decide_true, if_true]
    rw [← e2, ← listT_app, ← split3 hil]
  have hA : ∀ x ∈ listT (l.take i), ¬ x.client = c := fun x hx => by have := (seg h hil).1 hx; omega
  have hc : (l.getD i default).client = c := by
    rcases h.ok i (by omega) with hd | ⟨_, h4, _⟩
    · rw [hd] at hn; exact absurd hn (by decide)
    · omega
  have hf2 : findI (listT l) c = (listT (l.take i)).length := by
    unfold findI
    rw [e, List.findIdx_append]
    have h0 : List.findIdx (fun s => decide (s.client = c)) (listT (l.take i)) = (listT (l.take i)).length := List.findIdx_eq_length.2 fun x hx => decide_eq_false (hA x hx)
    have h5 : List.findIdx (fun s : Seat => decide (s.client = c)) (l.getD i default :: listT (l.drop (i + 1))) = 0 := by rw [List.findIdx_cons, hc]; simp
    rw [h0, h5]
    simp
  rw [hf2]
  conv => rhs; rw [e]
  rw [List.set_append_right _ _ (Nat.le_refl _), Nat.sub_self, List.set_cons_zero]
  have e4 : l.set i (gone (l.getD i default)) = l.take i ++ (gone (l.getD i default) :: l.drop (i + 1)) := by rw [List.set_eq_take_append_cons_drop, if_pos hil]
  rw [e4, listT_app]
  congr 1
  have : (gone (l.getD i default)).number = (l.getD i default).number := rfl
  simp only [listT, List.filter_cons, this, hn, decide_true, if_true]
theorem forg_list {l : List Seat} (h : WFT l) (c : Int) : forgR (listT l) c = ((forgT l c).1, listT (forgT l c).2) ∧ WFT (forgT l c).2 := by
  have hl := h.len
  by_cases hc : 1 ≤ c ∧ c ≤ 8
  · have hf := find_list h hc.1 hc.2
    by_cases hk : (seatAt l c).kept = true
    · obtain ⟨e, hn⟩ := set_list h hc.1 hc.2 hk
      rw [if_pos hn] at hf
      rw [forgR, if_pos ⟨hf.1, by rw [hf.2]; exact hk⟩, forgT, if_pos ⟨hc.1, hc.2, hk⟩, hf.2]
      refine ⟨by rw [show ({ seatAt l c with kept := false, reply := [] } : Seat) = gone (seatAt l c) from rfl, e], ?_⟩
      have h3 : (seatAt l c).client = c := by
        rcases h.ok (c - 1).toNat (by omega) with hd | ⟨_, h4, _⟩
        · unfold seatAt at hk; rw [hd] at hk; cases hk
        · unfold seatAt; omega
      exact h.set (i := (c - 1).toNat) (by omega) hn (by show (seatAt l c).client = _; omega) (fun _ => rfl)
    · rw [forgT, if_neg (fun hh => hk hh.2.2)]
      refine ⟨?_, h⟩
      rw [forgR, if_neg]
      rintro ⟨h1, h2⟩
      split at hf
      · rw [hf.2] at h2; exact hk h2
      · exact hf h1
  · rw [forgT, if_neg (fun hh => hc ⟨hh.1, hh.2.1⟩)]
    refine ⟨?_, h⟩
    rw [forgR, if_neg]
    rintro ⟨h1, _⟩
    have h2 := List.findIdx_getElem (xs := listT l) (p := fun s : Seat => decide (s.client = c)) (w := h1)
    have h3 : (listT l)[findI (listT l) c] ∈ listT l := List.getElem_mem h1
    have h4 := of_decide_eq_true h2
    rcases h.mem (mem_list.1 h3).1 with hd | ⟨_, h5, h6, _⟩
    · have := (mem_list.1 h3).2; rw [hd] at this; exact absurd this (by decide)
    · exact hc ⟨by unfold findI at h5; omega, by unfold findI at h6; omega⟩
end VK
