/- A table's bytes, and the table that bytes mean: plain laws. Conditions: none. -/
import Derived.Test.YtcbhnagihkcafaaWireL
import Derived.Test.YtcbhnagihkcafaaSes6
namespace VK
open Go Go.Proofs
set_option linter.unusedSimpArgs false
set_option linter.unusedVariables false
set_option maxRecDepth 100000
set_option maxHeartbeats 40000000
def seatB (s : Seat) : List UInt8 := num s.client.toNat ++ (num s.number.toNat ++ (intB s.at_ ++ (flagB s.kept ++ textB s.reply)))
def encT (room : Int) (L : List Seat) : List UInt8 := num room.toNat ++ num L.length ++ L.flatMap seatB
/-- a seat, read -/
def seatR (s : InS) : Seat × InS :=
  let a := numR s
  let b := numR a.2
  let c := numR b.2
  let d := flagR c.2
  let e := textR 8192 d.2
  (⟨a.1, b.1, unzig c.1, d.1, e.1⟩, e.2)
def badSeat (last : Int) (s : Seat) : Prop := s.client ≤ last ∨ 8 < s.client ∨ s.number < 1 ∨ 1099511627776 < s.number ∨ (s.kept = false ∧ s.reply ≠ [])
instance (last : Int) (s : Seat) : Decidable (badSeat last s) := by unfold badSeat; infer_instance
def seatsGo : Nat → Int → InS → Option (List Seat × InS)
  | 0, _, s => some ([], s)
  | k + 1, last, s => if badSeat last (seatR s).1 then none else (seatsGo k (seatR s).1.client (seatR s).2).map fun x => ((seatR s).1 :: x.1, x.2)
def finT (room : Nat) (acc : List Seat) : Option (List Seat × InS) → Option (Nat × List Seat)
  | none => none
  | some (L, s) => if s.err = 0 ∧ s.bs.length = 0 ∧ repB (acc ++ L) ≤ room then some (room, acc ++ L) else none
def decT (b : List UInt8) : Option (Nat × List Seat) :=
  if 8192 < (numR ⟨b, 0⟩).1 ∨ 8 < (numR (numR ⟨b, 0⟩).2).1 then none else finT (numR ⟨b, 0⟩).1 [] (seatsGo (numR (numR ⟨b, 0⟩).2).1 0 (numR (numR ⟨b, 0⟩).2).2)
theorem fin_step {room : Nat} {acc : List Seat} {k : Nat} {last : Int} {s : InS} (h : ¬ badSeat last (seatR s).1) :
    finT room acc (seatsGo (k + 1) last s) = finT room (acc ++ [(seatR s).1]) (seatsGo k (seatR s).1.client (seatR s).2) := by
  rw [seatsGo, if_neg h]
  cases seatsGo k (seatR s).1.client (seatR s).2 with
  | none => rfl
  | some x => simp [finT]
theorem fin_bad {room : Nat} {acc : List Seat} {k : Nat} {last : Int} {s : InS} (h : badSeat last (seatR s).1) : finT room acc (seatsGo (k + 1) last s) = none := by
  rw [seatsGo, if_pos h]; rfl
theorem seatR_err {s : InS} (h : s.err ≠ 0) : seatR s = (⟨0, 0, 0, false, []⟩, s) := by
  simp only [seatR, numR_err h, flagR_err h, textR_err h]
  rfl
theorem fin_err {room : Nat} {acc : List Seat} {k : Nat} {last : Int} {s : InS} (h : s.err ≠ 0) (h0 : 0 ≤ last) : finT room acc (seatsGo k last s) = none := by
  cases k with
  | zero => simp [seatsGo, finT, h]
  | succ k =>
    refine fin_bad ?_
    rw [seatR_err h]
    exact .inl h0
/-- rising seats, as a table lists them -/
def riseL : Int → List Seat → Prop
  | _, [] => True
  | last, s :: L => ¬ badSeat last s ∧ inR .i64 s.at_ ∧ s.reply.length ≤ 8192 ∧ riseL s.client L
theorem rise_mono : ∀ {a b : Int} {L : List Seat}, a ≤ b → riseL b L → riseL a L
  | _, _, [], _, _ => trivial
  | a, b, s :: L, h, k => by
    obtain ⟨k1, k2⟩ := k
    refine ⟨fun hb => k1 ?_, k2⟩
    rcases hb with hb | hb
    · exact .inl (by omega)
    · exact .inr hb
theorem seatR_back {s : Seat} {last : Int} (hb : ¬ badSeat last s) (h0 : 0 ≤ last) (ha : inR .i64 s.at_) (hr : s.reply.length ≤ 8192) (r : List UInt8) : seatR ⟨seatB s ++ r, 0⟩ = (s, ⟨r, 0⟩) := by
  obtain ⟨client, number, at_, kept, reply⟩ := s
  simp only [badSeat, not_or] at hb
  obtain ⟨b1, b2, b3, b4, b5⟩ := hb
  dsimp only at *
  simp only [inR] at ha
  have hz := zig_le at_ ha.1 ha.2
  have e1 := numR_num (m := client.toNat) (num number.toNat ++ (intB at_ ++ (flagB kept ++ (textB reply ++ r)))) (by omega)
  have e2 := numR_num (m := number.toNat) (intB at_ ++ (flagB kept ++ (textB reply ++ r))) (by omega)
  have e3 := numR_num (m := zig at_) (flagB kept ++ (textB reply ++ r)) hz
  have e5 := textR_back (s := reply) (r := r) (most := 8192) (by omega) (by omega)
  have e0 : seatB ⟨client, number, at_, kept, reply⟩ ++ r = num client.toNat ++ (num number.toNat ++ (num (zig at_) ++ (flagB kept ++ (textB reply ++ r)))) := by simp [seatB, intB]
  unfold intB at e1 e2
  rw [e0]
  simp only [seatR, e1, e2, e3, flagR_back, e5, unzig_zig]
  rw [show ((client.toNat : Nat) : Int) = client by omega, show ((number.toNat : Nat) : Int) = number by omega]
theorem seatsGo_back : ∀ {L : List Seat} {last : Int} (r : List UInt8), riseL last L → 0 ≤ last → seatsGo L.length last ⟨L.flatMap seatB ++ r, 0⟩ = some (L, ⟨r, 0⟩)
  | [], _, _, _, _ => rfl
  | s :: L, last, r, h, h0 => by
    obtain ⟨h1, h2, h3, h4⟩ := h
    have hc : 0 ≤ s.client := by
      simp only [badSeat, not_or] at h1
      omega
    have e := seatR_back h1 h0 h2 h3 (L.flatMap seatB ++ r)
    rw [List.flatMap_cons, List.append_assoc, List.length_cons, seatsGo, e, if_neg h1, seatsGo_back r h4 hc]
    rfl
theorem dec_enc {room : Nat} {L : List Seat} (h : riseL 0 L) (hl : L.length ≤ 8) (hr : repB L ≤ room) (h8 : room ≤ 8192) : decT (encT room L) = some (room, L) := by
  have e1 := numR_num (m := room) (num L.length ++ L.flatMap seatB) (by omega)
  have e2 := numR_num (m := L.length) (L.flatMap seatB) (by omega)
  have e3 := seatsGo_back (L := L) (last := 0) [] h (Int.le_refl _)
  rw [List.append_nil] at e3
  rw [decT, encT, Int.toNat_natCast, List.append_assoc, e1]
  dsimp only
  rw [e2]
  dsimp only
  rw [if_neg (by omega), e3, finT, if_pos ⟨rfl, rfl, by simpa using hr⟩]
  rfl
theorem seatR_canon {s : InS} {r : List UInt8} (h : (seatR s).2 = ⟨r, 0⟩) : s = ⟨seatB (seatR s).1 ++ r, 0⟩ ∧ inR .i64 (seatR s).1.at_ ∧ (seatR s).1.reply.length ≤ 8192 := by
  simp only [seatR] at h ⊢
  obtain ⟨t1, t2⟩ := text_canon (s := (flagR (numR (numR (numR s).2).2).2).2) (most := 8192) (r := r) (Prod.ext rfl h)
  have f1 := flag_canon (s := (numR (numR (numR s).2).2).2) (Prod.ext rfl t1)
  have n3 := num_canon (s := (numR (numR s).2).2) (Prod.ext rfl f1)
  have n2 := num_canon (s := (numR s).2) (Prod.ext rfl n3)
  have n1 := num_canon (s := s) (Prod.ext rfl n2)
  have hn := numR_le (numR (numR s).2).2
  have t3 : ((textR 8192 (flagR (numR (numR (numR s).2).2).2).2).1.length : Int) ≤ max 8192 0 := t2
  refine ⟨?_, ?_, by omega⟩
  · refine n1.trans ?_
    simp only [seatB, intB, zig_unzig, Int.toNat_natCast, List.append_assoc]
  · clear n1 n2 n3 f1 t1 t2 h
    generalize (numR (numR (numR s).2).2).1 = m at hn ⊢
    simp only [inR]
    unfold unzig
    split <;> omega
theorem seatsGo_canon : ∀ {k : Nat} {last : Int} {s : InS} {L : List Seat} {r : List UInt8}, seatsGo k last s = some (L, ⟨r, 0⟩) → s = ⟨L.flatMap seatB ++ r, 0⟩ ∧ riseL last L ∧ L.length = k
  | 0, last, s, L, r, h => by
    simp only [seatsGo, Option.some.injEq, Prod.mk.injEq] at h
    obtain ⟨rfl, rfl⟩ := h
    exact ⟨rfl, trivial, rfl⟩
  | k + 1, last, s, L, r, h => by
    rw [seatsGo] at h
    split at h
    · cases h
    · rename_i hb
      cases hg : seatsGo k (seatR s).1.client (seatR s).2 with
      | none => rw [hg] at h; cases h
      | some x =>
        rw [hg] at h
        simp only [Option.map_some, Option.some.injEq, Prod.mk.injEq] at h
        obtain ⟨rfl, hx⟩ := h
        obtain ⟨x1, x2⟩ := x
        dsimp only at hx
        subst hx
        obtain ⟨h1, h2, h3⟩ := seatsGo_canon hg
        obtain ⟨g1, g2, g3⟩ := seatR_canon h1
        exact ⟨g1.trans (by rw [List.flatMap_cons, List.append_assoc]), ⟨hb, g2, g3, h2⟩, by rw [List.length_cons, h3]⟩
theorem dec_canon {b : List UInt8} {room : Nat} {L : List Seat} (h : decT b = some (room, L)) : b = encT room L ∧ riseL 0 L ∧ L.length ≤ 8 ∧ repB L ≤ room ∧ room ≤ 8192 := by
  unfold decT at h
  split at h
  · cases h
  · rename_i hb
    cases hg : seatsGo (numR (numR ⟨b, 0⟩).2).1 0 (numR (numR ⟨b, 0⟩).2).2 with
    | none => rw [hg] at h; cases h
    | some x =>
      rw [hg] at h
      obtain ⟨x1, x2⟩ := x
      simp only [finT] at h
      split at h
      · rename_i hf
        simp only [Option.some.injEq, Prod.mk.injEq, List.nil_append] at h
        obtain ⟨h1, rfl⟩ := h
        obtain ⟨f1, f2, f3⟩ := hf
        have hx : x2 = ⟨[], 0⟩ := by
          obtain ⟨bs, e⟩ := x2
          dsimp only at f1 f2
          rw [f1, List.eq_nil_of_length_eq_zero f2]
        subst hx
        obtain ⟨g1, g2, g3⟩ := seatsGo_canon hg
        rw [List.append_nil] at g1
        have n2 := num_canon (s := (numR ⟨b, 0⟩).2) (Prod.ext rfl g1)
        have n1 := num_canon (s := ⟨b, 0⟩) (Prod.ext rfl n2)
        simp only [InS.mk.injEq, and_true] at n1
        rw [List.nil_append] at f3
        refine ⟨?_, g2, by omega, by omega, by omega⟩
        rw [encT, Int.toNat_natCast, g3, ← h1, List.append_assoc]
        exact n1
      · cases h
/-- the seats in their places -/
def tabOf (L : List Seat) : List Seat := L.foldl (fun t s => t.set (s.client - 1).toNat s) (List.replicate 8 default)
theorem tab_snoc (L : List Seat) (s : Seat) : tabOf (L ++ [s]) = (tabOf L).set (s.client - 1).toNat s := by simp [tabOf]
/-- behind the seats L comes none below last -/
structure TabI (L : List Seat) (last : Int) : Prop where
  wf : WFT (tabOf L)
  ls : listT (tabOf L) = L
  le : ∀ s ∈ L, s.client ≤ last
  h0 : 0 ≤ last
theorem TabI.init : TabI [] 0 := ⟨WFT.init, by decide, fun _ h => (by cases h), Int.le_refl _⟩
theorem TabI.step {L : List Seat} {last : Int} {s : Seat} (h : TabI L last) (hb : ¬ badSeat last s) : TabI (L ++ [s]) s.client := by
  simp only [badSeat, not_or] at hb
  obtain ⟨b1, b2, b3, b4, b5⟩ := hb
  have h0 := h.h0
  have hw := h.wf.set (i := (s.client - 1).toNat) (a := s) (by omega) (by omega) (by omega) (fun hk => Decidable.of_not_not fun hn => b5 ⟨hk, hn⟩)
  refine ⟨by rw [tab_snoc]; exact hw, ?_, fun x hx => ?_, by omega⟩
  · rw [tab_snoc, ← ins_list h.wf (i := (s.client - 1).toNat) (by omega) (by omega) (by omega), h.ls]
    have := ins_lt (s := s) (A := L) (B := []) (fun x hx => by have := h.le x hx; omega)
    simpa [insGo] using this
  · rcases List.mem_append.1 hx with hx | hx
    · have := h.le x hx; omega
    · rw [List.mem_singleton.1 hx]; exact Int.le_refl _
theorem TabI.rep {L : List Seat} {last : Int} (h : TabI L last) : repB (tabOf L) = repB L := by rw [← repB_list h.wf, h.ls]
theorem rise_tab : ∀ {M L : List Seat} {last : Int}, TabI L last → riseL last M → ∃ l', TabI (L ++ M) l'
  | [], L, last, h, _ => ⟨last, by rwa [List.append_nil]⟩
  | s :: M, L, last, h, hr => by
    obtain ⟨l', h'⟩ := rise_tab (h.step hr.1) hr.2.2.2
    exact ⟨l', by rw [List.append_assoc] at h'; exact h'⟩
theorem tab_ok {L : List Seat} (h : riseL 0 L) : WFT (tabOf L) ∧ listT (tabOf L) = L ∧ repB (tabOf L) = repB L := by
  obtain ⟨l', h'⟩ := rise_tab TabI.init h
  exact ⟨h'.wf, h'.ls, h'.rep⟩
/-- a table is what it lists -/
theorem tab_uniq {l m : List Seat} (hl : WFT l) (hm : WFT m) (h : listT l = listT m) : l = m := by
  have key : ∀ {l m : List Seat}, WFT l → WFT m → listT l = listT m → ∀ i, i < 8 → l.getD i default ≠ default → m.getD i default = l.getD i default := by
    intro l m hl hm h i hi hn
    have hll := hl.len
    have hmem : l.getD i default ∈ l := by simp [show i < l.length by omega]
    rcases hl.ok i hi with hd | ⟨h1, h2, h3⟩
    · exact absurd hd hn
    · have : l.getD i default ∈ listT m := by rw [← h]; exact mem_list.2 ⟨hmem, h1⟩
      obtain ⟨m1, m2⟩ := mem_list.1 this
      obtain ⟨j, hj, ej⟩ := List.getElem_of_mem m1
      have hml := hm.len
      have ej' : m.getD j default = l.getD i default := by simp [List.getD_eq_getElem?_getD, hj, ej]
      rcases hm.ok j (by omega) with hd | ⟨g1, g2, g3⟩
      · rw [ej'] at hd; exact absurd hd hn
      · rw [ej', h2] at g2
        obtain rfl : i = j := by omega
        exact ej'
  refine List.ext_getElem (by rw [hl.len, hm.len]) fun i h1 h2 => ?_
  have hi : i < 8 := by rw [← hl.len]; exact h1
  have e1 : l.getD i default = l[i] := by simp [List.getD_eq_getElem?_getD, h1]
  have e2 : m.getD i default = m[i] := by simp [List.getD_eq_getElem?_getD, h2]
  rw [← e1, ← e2]
  by_cases c1 : l.getD i default = default
  · by_cases c2 : m.getD i default = default
    · rw [c1, c2]
    · exact key hm hl h.symm i hi c2
  · exact (key hl hm h i hi c1).symm
/-- a table's list rises -/
theorem list_rise {l : List Seat} (h : WFT l) (hn : ∀ s ∈ l, s.number ≤ 1099511627776) (ha : ∀ s ∈ l, inR .i64 s.at_) (hr : ∀ s ∈ l, s.reply.length ≤ 8192) : riseL 0 (listT l) := by
  have key : ∀ j, j ≤ 8 → riseL ((8 - j : Nat) : Int) (listT (l.drop (8 - j))) := by
    intro j
    induction j with
    | zero => intro _; rw [List.drop_of_length_le (by rw [h.len]; omega)]; trivial
    | succ j ih =>
      intro hj
      have hlt : 8 - (j + 1) < l.length := by rw [h.len]; omega
      have ih := ih (by omega)
      rw [drop_cons hlt, show 8 - (j + 1) + 1 = 8 - j by omega]
      have hmem : l.getD (8 - (j + 1)) default ∈ l := by
        generalize 8 - (j + 1) = q at hlt ⊢
        simp [hlt]
      rcases h.ok (8 - (j + 1)) (by omega) with hd | ⟨h1, h2, h3⟩
      · rw [hd, listT, List.filter_cons_of_neg (by decide)]
        exact rise_mono (by omega) ih
      · rw [listT, List.filter_cons_of_pos (by simpa using h1)]
        have h4 := hn _ hmem
        refine ⟨?_, ha _ hmem, hr _ hmem, ?_⟩
        · simp only [badSeat, not_or]
          refine ⟨by omega, by omega, by omega, by omega, fun ⟨x, y⟩ => y (h3 x)⟩
        · rw [h2]
          exact rise_mono (by omega) ih
  have := key 8 (Nat.le_refl _)
  simpa using this
/-! ### what a table's seats are, always -/
def goodS (s : Seat) : Prop := 0 ≤ s.number ∧ s.number ≤ 1099511627776 ∧ inR .i64 s.at_
def goodT (l : List Seat) : Prop := ∀ s ∈ l, goodS s
theorem goodT.init : goodT (List.replicate 8 default) := fun s hs => by
  obtain rfl := (List.mem_replicate.1 hs).2
  exact ⟨by decide, by decide, by show inR .i64 0; simp only [inR]; omega⟩
theorem goodT.set {l : List Seat} {i : Nat} {a : Seat} (h : goodT l) (ha : goodS a) : goodT (l.set i a) := fun s hs => by
  rcases set_mem hs with hs | rfl
  · exact h s hs
  · exact ha
theorem goodT.at_ {l : List Seat} (h : goodT l) (i : Nat) : goodS (l.getD i default) := by
  rw [List.getD_eq_getElem?_getD]
  cases e : l[i]? with
  | none => exact ⟨by decide, by decide, by show inR .i64 0; simp only [inR]; omega⟩
  | some s => exact h s (List.mem_of_getElem? e)
theorem goodT.evict {l : List Seat} (h : goodT l) : goodT (evictT l) := by
  unfold evictT
  split
  · exact h
  · exact h.set (h.at_ _)
theorem goodT.evAll {room : Int} : ∀ {n : Nat} {l : List Seat}, goodT l → goodT (evAll room n l)
  | 0, _, h => h
  | n + 1, l, h => by
    unfold VK.evAll
    split
    · exact h.evict.evAll
    · exact h
theorem goodT.rec {l : List Seat} (h : goodT l) {room c n a : Int} {r : List UInt8} (ha : inR .i64 a) : goodT (recT room l c n a r).2 := by
  unfold recT
  split
  · exact h
  · rename_i h0
    split
    · exact h
    · split
      · exact h
      · refine goodT.evAll (h.set ?_)
        have hb : ¬ badRq c n := fun hb => h0 (by unfold lookT; rw [if_pos hb])
        simp only [badRq, not_or] at hb
        exact ⟨by show 0 ≤ n; omega, by show n ≤ _; omega, ha⟩
theorem goodT.forg {l : List Seat} (h : goodT l) (c : Int) : goodT (forgT l c).2 := by
  unfold forgT
  split
  · exact h.set (h.at_ _)
  · exact h
theorem goodT.play {l : List Seat} (h : goodT l) {room : Int} {acts : List Act} (ha : ∀ a ∈ acts, a.ok) : goodT (playT room l acts) := by
  have key : ∀ (acts : List Act) (l : List Seat), (∀ a ∈ acts, a.ok) → goodT l → goodT (acts.foldl (actT room) l) := by
    intro acts
    induction acts with
    | nil => exact fun l _ h => h
    | cons a acts ih =>
      intro l ha h
      refine ih _ (fun b hb => ha b (List.mem_cons_of_mem _ hb)) ?_
      unfold actT
      split
      · exact h.forg _
      · exact h.rec (ha a (List.mem_cons_self ..)).2.2.2.1
  exact key _ l (fun a hm => ha a (List.mem_of_mem_take hm)) h
theorem rep_mem {l : List Seat} {s : Seat} (h : s ∈ l) : s.reply.length ≤ repB l := by
  induction l with
  | nil => cases h
  | cons a l ih =>
    simp only [repB, List.map_cons, List.sum_cons] at ih ⊢
    rcases List.mem_cons.1 h with rfl | h
    · omega
    · have := ih h; omega
/-- a table is its bytes' -/
theorem table_back {l : List Seat} (h : WFT l) (hg : goodT l) {room : Nat} (hr : repB l ≤ room) (h8 : room ≤ 8192) : decT (encT room (listT l)) = some (room, listT l) ∧ tabOf (listT l) = l := by
  have hrise := list_rise h (fun s hs => (hg s hs).2.1) (fun s hs => (hg s hs).2.2) (fun s hs => by have := rep_mem hs; omega)
  obtain ⟨t1, t2, t3⟩ := tab_ok hrise
  exact ⟨dec_enc hrise (list_len h) (by rw [repB_list h]; exact hr) h8, tab_uniq t1 h t2⟩
theorem seatB_len {s : Seat} (hc : s.client.toNat ≤ 18446744073709551615) (hn : s.number.toNat ≤ 18446744073709551615) (ha : inR .i64 s.at_) (hr : s.reply.length ≤ 18446744073709551615) : (seatB s).length ≤ 41 + s.reply.length := by
  simp only [inR] at ha
  have h1 := num_le _ hc
  have h2 := num_le _ hn
  have h3 := num_le _ (zig_le s.at_ ha.1 ha.2)
  have h4 := num_le _ hr
  simp only [seatB, intB, flagB, textB, List.length_append, List.length_cons, List.length_nil]
  omega
end VK
