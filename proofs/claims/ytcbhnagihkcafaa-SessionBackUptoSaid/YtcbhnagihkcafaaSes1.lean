/- What the session table's methods do to its seats. Conditions: eight seats; of evict: there is a kept one. -/
import Derived.Test.YtcbhnagihkcafaaSes
namespace VK
open Go Go.Proofs
set_option linter.unusedSimpArgs false
set_option linter.unusedVariables false
set_option maxRecDepth 100000
set_option maxHeartbeats 40000000
abbrev tblB (room : Int) (l : List Seat) : Blk := ⟨[.int .i64 room] ++ l.flatMap seatC, 61⟩
/-- where a client's seat lies -/
def seatP (b : Nat) (client : Int) : Value := if 1 ≤ client ∧ client ≤ 8 then .pointer (some ⟨b, 1 + (client - 1).toNat * 5, none⟩) else .pointer none
def seatAt (l : List Seat) (client : Int) : Seat := l.getD (client - 1).toNat default

theorem Make_c (F : List Atom) (room : Int) :
    Fn Try.prog 10 [.int .i64 room] F fun v L' => (¬ (0 ≤ room ∧ room ≤ 8192) ∧ v = .tuple #[.pointer none, .int .i64 1] ∧ L' = F) ∨
      (0 ≤ room ∧ room ≤ 8192 ∧ ∃ b, v = .tuple #[.pointer (some ⟨b, 0, none⟩), .int .i64 0] ∧ L' = blk b (tblB room (List.replicate 8 default)) :: F) := by
  refine fn_intro Try.func10 rfl Try.ntmps10 rfl (fun W0 => ?_)
  simp only [argE]
  refine r_seq ?_
  refine r_region (id := 0) ?_
  refine o_give (g_assign (evv rfl)) rfl rfl ?_
  refine o_give (g_assign (evv rfl)) rfl rfl ?_
  refine o_nil ?_
  refine c_code ?_
  refine r_seq ?_
  refine r_seq ?_
  refine r_region (id := 1) ?_
  refine o_give (g_move (evv rfl)) rfl rfl ?_
  refine o_give (g_bin (evv rfl) (evv rfl) (by rfl)) rfl rfl ?_
  refine o_give (g_move (evv rfl)) rfl rfl ?_
  refine o_lazy rfl (fun hg => g_move (by first | exact evv rfl | exact evg rfl (by rw [hp]; rfl) | exact evg rfl hp | exact evg rfl hg | exact evg rfl (by first | (simp_all; done) | (simp [*]; done) | fail) | fail)) rfl rfl ?_
  refine o_lazy rfl (fun hg => g_bin (by first | exact evv rfl | exact evg rfl (by rw [hp]; rfl) | exact evg rfl hp | exact evg rfl hg | exact evg rfl (by first | (simp_all; done) | (simp [*]; done) | fail) | fail) (by first | exact evv rfl | exact evg rfl (by rw [hp]; rfl) | exact evg rfl hp | exact evg rfl hg | exact evg rfl (by first | (simp_all; done) | (simp [*]; done) | fail) | fail) (by rfl)) rfl rfl ?_
  refine o_give (g_pick_or (evv rfl) (evv rfl) (fun hp => (by first | exact evv rfl | exact evg rfl (by rw [hp]; rfl) | exact evg rfl hp | exact evg rfl hg | exact evg rfl (by first | (simp_all; done) | (simp [*]; done) | fail) | fail))) rfl rfl ?_
  refine o_nil ?_
  refine c_code ?_
  refine r_cond rfl (fun hc => ?_) (fun hc => ?_) <;> (try simp only [decide_eq_true_eq, decide_eq_false_iff_not, Bool.and_eq_true, Bool.or_eq_true, Bool.not_eq_true', Bool.and_eq_false_iff, Bool.or_eq_false_iff, Bool.not_eq_false', Bool.not_eq_true, Bool.not_eq_false, Bool.true_eq_false, Bool.false_eq_true, Int.not_lt, Int.not_le, not_and, not_or, ne_eq] at hc)
  · refine r_seq ?_
    refine r_region (id := 2) ?_
    refine o_give (g_assign (evv rfl)) rfl rfl ?_
    refine o_give (g_assign (evv rfl)) rfl rfl ?_
    refine o_nil ?_
    refine c_code ?_
    first | refine r_ret (rs := [.tmp 2, .tmp 3]) rfl rfl _ (Ent.refl _) ?_ | refine c_end (rs := [.tmp 2, .tmp 3]) rfl rfl _ (Ent.refl _) ?_
    exact .inl ⟨by omega, rfl, rfl⟩
  · refine r_skip ?_
    refine c_code ?_
    refine r_seq ?_
    refine r_region (id := 3) ?_
    refine o_give (g_move (evv rfl)) rfl rfl ?_
    refine o_give (g_buildC rfl (by rfl)) rfl rfl ?_
    refine o_boxA (evv rfl) rfl (fun _ => ?_)
    refine o_give (g_assign (evv rfl)) rfl rfl ?_
    refine o_give (g_assign (evv rfl)) rfl rfl ?_
    refine o_nil ?_
    refine c_code ?_
    rename_i b
    first | refine r_ret (rs := [.tmp 2, .tmp 3]) rfl rfl _ (Ent.refl _) ?_ | refine c_end (rs := [.tmp 2, .tmp 3]) rfl rfl _ (Ent.refl _) ?_
    exact .inr ⟨by omega, by omega, b, rfl, rfl⟩
theorem Make_ok (F : List Atom) (room : Int) (h : 0 ≤ room ∧ room ≤ 8192) :
    Fn Try.prog 10 [.int .i64 room] F fun v L' => ∃ b, v = .tuple #[.pointer (some ⟨b, 0, none⟩), .int .i64 0] ∧ L' = blk b (tblB room (List.replicate 8 default)) :: F :=
  (Make_c F room).mono fun v L' hh => by
    rcases hh with ⟨h1, _⟩ | ⟨_, _, hh⟩
    · exact absurd h h1
    · exact hh
theorem Make_bad (F : List Atom) (room : Int) (h : room < 0 ∨ 8192 < room) :
    Fn Try.prog 10 [.int .i64 room] F fun v L' => v = .tuple #[.pointer none, .int .i64 1] ∧ L' = F :=
  (Make_c F room).mono fun v L' hh => by
    rcases hh with ⟨_, hh⟩ | ⟨h1, h2, _⟩
    · exact hh
    · omega

theorem seat_c (L : List Atom) (b : Nat) (client : Int) (hc : inR .i64 client) :
    Fn Try.prog 26 [.pointer (some ⟨b, 0, none⟩), .int .i64 client] L fun v L' => v = seatP b client ∧ L' = L := by
  simp only [inR] at hc
  refine fn_intro Try.func26 rfl Try.ntmps26 rfl (fun W0 => ?_)
  simp only [argE]
  refine r_seq ?_
  refine r_region (id := 0) ?_
  refine o_give (g_assign (evv rfl)) rfl rfl ?_
  refine o_nil ?_
  refine c_code ?_
  refine r_seq ?_
  refine r_seq ?_
  refine r_region (id := 1) ?_
  refine o_give (g_move (evv rfl)) rfl rfl ?_
  refine o_give (g_pnil TyU.h (evv rfl) (evv rfl) (by simp) (by rfl)) rfl rfl ?_
  refine o_give (g_move (evv rfl)) rfl rfl ?_
  refine o_gyes rfl ?_
  refine o_give (g_move (evv rfl)) rfl rfl ?_
  refine o_gyes rfl ?_
  refine o_give (g_bin (evv rfl) (evv rfl) (by rfl)) rfl rfl ?_
  refine o_give (g_pick (b := false) (evv rfl) (fun h => by cases h) (fun _ => (evv rfl))) rfl rfl ?_
  refine o_give (g_move (evv rfl)) rfl rfl ?_
  refine o_lazy rfl (fun hg => g_move (by first | exact evv rfl | exact evg rfl (by rw [hp]; rfl) | exact evg rfl hp | exact evg rfl hg | exact evg rfl (by first | (simp_all; done) | (simp [*]; done) | fail) | fail)) rfl rfl ?_
  refine o_lazy rfl (fun hg => g_bin (by first | exact evv rfl | exact evg rfl (by rw [hp]; rfl) | exact evg rfl hp | exact evg rfl hg | exact evg rfl (by first | (simp_all; done) | (simp [*]; done) | fail) | fail) (by first | exact evv rfl | exact evg rfl (by rw [hp]; rfl) | exact evg rfl hp | exact evg rfl hg | exact evg rfl (by first | (simp_all; done) | (simp [*]; done) | fail) | fail) (by rfl)) rfl rfl ?_
  refine o_give (g_pick_or (evv rfl) (evv rfl) (fun hp => (by first | exact evv rfl | exact evg rfl (by rw [hp]; rfl) | exact evg rfl hp | exact evg rfl hg | exact evg rfl (by first | (simp_all; done) | (simp [*]; done) | fail) | fail))) rfl rfl ?_
  refine o_nil ?_
  refine c_code ?_
  refine r_cond rfl (fun h => ?_) (fun h => ?_) <;> (try simp only [decide_eq_true_eq, decide_eq_false_iff_not, Bool.and_eq_true, Bool.or_eq_true, Bool.not_eq_true', Bool.and_eq_false_iff, Bool.or_eq_false_iff, Bool.not_eq_false', Bool.not_eq_true, Bool.not_eq_false, Bool.true_eq_false, Bool.false_eq_true, Int.not_lt, Int.not_le, not_and, not_or, ne_eq] at h)
  · refine r_seq ?_
    refine r_region (id := 2) ?_
    refine o_give (g_assign (evv rfl)) rfl rfl ?_
    refine o_nil ?_
    refine c_code ?_
    first | refine r_ret (rs := [.tmp 4]) rfl rfl _ (Ent.refl _) ?_ | refine c_end (rs := [.tmp 4]) rfl rfl _ (Ent.refl _) ?_
    exact ⟨by simp only [seatP]; rw [if_neg (by omega)]; rfl, rfl⟩
  · refine r_skip ?_
    refine c_code ?_
    refine r_seq ?_
    refine r_region (id := 3) ?_
    refine o_give (g_move (evv rfl)) rfl rfl ?_
    refine o_give (g_move (evv rfl)) rfl rfl ?_
    refine o_giveN (g_bin (evv rfl) (evv rfl) (by rfl)) (by simp only [inR]; omega) rfl ?_
    refine o_give (g_nil (evv rfl)) rfl rfl ?_
    refine o_give (g_fld (evv rfl)) rfl rfl ?_
    refine o_give (g_idxA (evv rfl) (evv rfl) (by omega) (by omega)) rfl rfl ?_
    refine o_give (g_assign (evv rfl)) rfl rfl ?_
    refine o_nil ?_
    refine c_code ?_
    first | refine r_ret (rs := [.tmp 4]) rfl rfl _ (Ent.refl _) ?_ | refine c_end (rs := [.tmp 4]) rfl rfl _ (Ent.refl _) ?_
    exact ⟨by simp only [seatP]; rw [if_pos (by omega)]; rfl, rfl⟩
theorem seat_nil (L : List Atom) (client : Int) :
    Fn Try.prog 26 [.pointer none, .int .i64 client] L fun v L' => v = .pointer none ∧ L' = L := by
  refine fn_intro Try.func26 rfl Try.ntmps26 rfl (fun W0 => ?_)
  simp only [argE]
  refine r_seq ?_
  refine r_region (id := 0) ?_
  refine o_give (g_assign (evv rfl)) rfl rfl ?_
  refine o_nil ?_
  refine c_code ?_
  refine r_seq ?_
  refine r_seq ?_
  refine r_region (id := 1) ?_
  refine o_give (g_move (evv rfl)) rfl rfl ?_
  refine o_give (g_pnil TyU.h (evv rfl) (evv rfl) (by simp) (by rfl)) rfl rfl ?_
  refine o_give (g_move (evv rfl)) rfl rfl ?_
  refine o_lazy rfl (fun hg => g_move (by first | exact evv rfl | exact evg rfl (by rw [hp]; rfl) | exact evg rfl hp | exact evg rfl hg | exact evg rfl (by first | (simp_all; done) | (simp [*]; done) | fail) | fail)) rfl rfl ?_
  refine o_lazy rfl (fun hg => g_bin (by first | exact evv rfl | exact evg rfl (by rw [hp]; rfl) | exact evg rfl hp | exact evg rfl hg | exact evg rfl (by first | (simp_all; done) | (simp [*]; done) | fail) | fail) (by first | exact evv rfl | exact evg rfl (by rw [hp]; rfl) | exact evg rfl hp | exact evg rfl hg | exact evg rfl (by first | (simp_all; done) | (simp [*]; done) | fail) | fail) (by rfl)) rfl rfl ?_
  refine o_give (g_pick (b := true) (evv rfl) (fun _ => (evv rfl)) (fun h => by cases h)) rfl rfl ?_
  refine o_give (g_move (evv rfl)) rfl rfl ?_
  refine o_lazy rfl (fun hg => g_move (by first | exact evv rfl | exact evg rfl (by rw [hp]; rfl) | exact evg rfl hp | exact evg rfl hg | exact evg rfl (by first | (simp_all; done) | (simp [*]; done) | fail) | fail)) rfl rfl ?_
  refine o_lazy rfl (fun hg => g_bin (by first | exact evv rfl | exact evg rfl (by rw [hp]; rfl) | exact evg rfl hp | exact evg rfl hg | exact evg rfl (by first | (simp_all; done) | (simp [*]; done) | fail) | fail) (by first | exact evv rfl | exact evg rfl (by rw [hp]; rfl) | exact evg rfl hp | exact evg rfl hg | exact evg rfl (by first | (simp_all; done) | (simp [*]; done) | fail) | fail) (by rfl)) rfl rfl ?_
  refine o_give (g_pick (b := true) (evv rfl) (fun _ => (evv rfl)) (fun h => by cases h)) rfl rfl ?_
  refine o_nil ?_
  refine c_code ?_
  refine r_cond_true rfl ?_
  refine r_seq ?_
  refine r_region (id := 2) ?_
  refine o_give (g_assign (evv rfl)) rfl rfl ?_
  refine o_nil ?_
  refine c_code ?_
  first | refine r_ret (rs := [.tmp 4]) rfl rfl _ (Ent.refl _) ?_ | refine c_end (rs := [.tmp 4]) rfl rfl _ (Ent.refl _) ?_
  exact ⟨rfl, rfl⟩
theorem seat_in (L : List Atom) (b : Nat) (client : Int) (hc : 1 ≤ client ∧ client ≤ 8) :
    Fn Try.prog 26 [.pointer (some ⟨b, 0, none⟩), .int .i64 client] L fun v L' => v = .pointer (some ⟨b, 1 + (client - 1).toNat * 5, none⟩) ∧ L' = L := by
  have h := seat_c L b client (by simp only [inR]; omega)
  simp only [seatP, if_pos hc] at h
  exact h
/-- what is known of a request -/
def lookS (s : Seat) (number : Int) : Int × List UInt8 :=
  if s.number < number then (1, []) else if number < s.number then (4, []) else if s.kept then (2, s.reply) else (3, [])
def badRq (client number : Int) : Prop := client < 1 ∨ 8 < client ∨ number < 1 ∨ 1099511627776 < number
instance (a b : Int) : Decidable (badRq a b) := inferInstanceAs (Decidable (_ ∨ _ ∨ _ ∨ _))
def lookT (l : List Seat) (client number : Int) : Int × List UInt8 :=
  if badRq client number then (0, []) else lookS (seatAt l client) number
theorem Look_g {g : Atom → List Atom} {b : Nat} [hp : ∀ c, Pick (blk b) (g (blk b c)) c g] (room : Int) (l : List Seat) (client number : Int) (hc : inR .i64 client) (hl : l.length = 8) :
    Fn Try.prog 15 [.pointer (some ⟨b, 0, none⟩), .int .i64 client, .int .i64 number] (g (blk b (tblB room l))) fun v L' => v = .tuple #[.int .i64 (lookT l client number).1, str (lookT l client number).2] ∧ L' = g (blk b (tblB room l)) := by
  refine fn_intro Try.func15 rfl Try.ntmps15 rfl (fun W0 => ?_)
  simp only [argE]
  refine r_seq ?_
  refine r_region (id := 0) ?_
  refine o_give (g_assign (evv rfl)) rfl rfl ?_
  refine o_give (g_assign (evv rfl)) rfl rfl ?_
  refine o_nil ?_
  refine c_code ?_
  refine r_seq ?_
  refine r_region (id := 1) ?_
  refine o_give (g_move (evv rfl)) rfl rfl ?_
  refine o_give (g_move (evv rfl)) rfl rfl ?_
  (refine o_call rfl _ (Ent.refl _) (seat_c _ _ _ (by first | assumption | (simp only [inR]; omega))) rfl ?_; rintro _ _ ⟨rfl, rfl⟩)
  refine o_give (g_assign (evv rfl)) rfl rfl ?_
  refine o_nil ?_
  refine c_code ?_
  refine r_seq ?_
  refine r_block ?_
  refine r_seq ?_
  by_cases h : 1 ≤ client ∧ client ≤ 8
  · have hi : (client - 1).toNat < l.length := by omega
    simp only [seatP, if_pos h]
    refine r_region (id := 2) ?_
    refine o_give (g_move (evv rfl)) rfl rfl ?_
    refine o_give (g_pnil TyU.h (evv rfl) (evv rfl) (by simp) (by rfl)) rfl rfl ?_
    refine o_give (g_move (evv rfl)) rfl rfl ?_
    refine o_gyes rfl ?_
    refine o_give (g_move (evv rfl)) rfl rfl ?_
    refine o_gyes rfl ?_
    refine o_give (g_bin (evv rfl) (evv rfl) (by rfl)) rfl rfl ?_
    refine o_give (g_pick (b := false) (evv rfl) (fun h => by cases h) (fun _ => (evv rfl))) rfl rfl ?_
    refine o_give (g_move (evv rfl)) rfl rfl ?_
    refine o_lazy rfl (fun hg => g_move (by first | exact evv rfl | exact evg rfl (by rw [hp]; rfl) | exact evg rfl hp | exact evg rfl hg | exact evg rfl (by first | (simp_all; done) | (simp [*]; done) | fail) | fail)) rfl rfl ?_
    refine o_lazy rfl (fun hg => g_bin (by first | exact evv rfl | exact evg rfl (by rw [hp]; rfl) | exact evg rfl hp | exact evg rfl hg | exact evg rfl (by first | (simp_all; done) | (simp [*]; done) | fail) | fail) (by first | exact evv rfl | exact evg rfl (by rw [hp]; rfl) | exact evg rfl hp | exact evg rfl hg | exact evg rfl (by first | (simp_all; done) | (simp [*]; done) | fail) | fail) (by rfl)) rfl rfl ?_
    refine o_give (g_pick_or (evv rfl) (evv rfl) (fun hp => (by first | exact evv rfl | exact evg rfl (by rw [hp]; rfl) | exact evg rfl hp | exact evg rfl hg | exact evg rfl (by first | (simp_all; done) | (simp [*]; done) | fail) | fail))) rfl rfl ?_
    refine o_give (g_assign (evv rfl)) rfl rfl ?_
    refine o_nil ?_
    refine c_code ?_
    refine r_cond rfl (fun h1 => ?_) (fun h1 => ?_) <;> (try simp only [decide_eq_true_eq, decide_eq_false_iff_not, Bool.and_eq_true, Bool.or_eq_true, Bool.not_eq_true', Bool.and_eq_false_iff, Bool.or_eq_false_iff, Bool.not_eq_false', Bool.not_eq_true, Bool.not_eq_false, Bool.true_eq_false, Bool.false_eq_true, Int.not_lt, Int.not_le, not_and, not_or, ne_eq] at h1)
    · have hb : badRq client number := by simp only [badRq]; omega
      refine r_seq ?_
      refine r_region (id := 3) ?_
      refine o_give (g_assign (evv rfl)) rfl rfl ?_
      refine o_give (g_assign (evv rfl)) rfl rfl ?_
      refine o_nil ?_
      refine c_code ?_
      first | refine r_ret (rs := [.tmp 6, .tmp 7]) rfl rfl _ (Ent.refl _) ?_ | refine c_end (rs := [.tmp 6, .tmp 7]) rfl rfl _ (Ent.refl _) ?_
      simp only [lookT, if_pos hb]; (refine ⟨?_, ?_⟩ <;> first | rfl | trivial | omega)
    · have hb : ¬ badRq client number := by simp only [badRq]; omega
      simp only [lookT, if_neg hb, seatAt]
      generalize hs : l.getD (client - 1).toNat default = s
      refine r_seq ?_
      refine r_region (id := 4) ?_
      refine o_give (g_move (evv rfl)) rfl rfl ?_
      refine o_give (g_move (evv rfl)) rfl rfl ?_
      refine o_give (g_nil (evv rfl)) rfl rfl ?_
      refine o_give (g_fld (evv rfl)) rfl rfl ?_
      refine o_give (g_loadFl (evv rfl) (by rfl) (by rfl) (by intro; rfl) (by rfl) (by first | omega | (have := of_decide_eq_true hg; omega) | (simp at hg; omega) | (simp only [List.length_set, List.length_append, List.length_cons, List.length_nil, List.length_map, List.length_take, List.length_drop, List.length_replicate]; omega))) rfl rfl ?_
      refine o_give (g_bin (evv rfl) (evv rfl) (by rfl)) rfl rfl ?_
      refine o_give (g_assign (evv rfl)) rfl rfl ?_
      refine o_nil ?_
      refine c_code ?_
      rw [hs]
      refine r_cond rfl (fun h2 => ?_) (fun h2 => ?_) <;> (try simp only [decide_eq_true_eq, decide_eq_false_iff_not, Bool.and_eq_true, Bool.or_eq_true, Bool.not_eq_true', Bool.and_eq_false_iff, Bool.or_eq_false_iff, Bool.not_eq_false', Bool.not_eq_true, Bool.not_eq_false, Bool.true_eq_false, Bool.false_eq_true, Int.not_lt, Int.not_le, not_and, not_or, ne_eq] at h2)
      · refine r_seq ?_
        refine r_region (id := 5) ?_
        refine o_give (g_assign (evv rfl)) rfl rfl ?_
        refine o_give (g_assign (evv rfl)) rfl rfl ?_
        refine o_nil ?_
        refine c_code ?_
        first | refine r_ret (rs := [.tmp 6, .tmp 7]) rfl rfl _ (Ent.refl _) ?_ | refine c_end (rs := [.tmp 6, .tmp 7]) rfl rfl _ (Ent.refl _) ?_
        simp only [lookS, if_pos h2]; (refine ⟨?_, ?_⟩ <;> first | rfl | trivial | omega)
      · refine r_seq ?_
        refine r_region (id := 6) ?_
        refine o_give (g_move (evv rfl)) rfl rfl ?_
        refine o_give (g_move (evv rfl)) rfl rfl ?_
        refine o_give (g_nil (evv rfl)) rfl rfl ?_
        refine o_give (g_fld (evv rfl)) rfl rfl ?_
        refine o_give (g_loadFl (evv rfl) (by rfl) (by rfl) (by intro; rfl) (by rfl) (by first | omega | (have := of_decide_eq_true hg; omega) | (simp at hg; omega) | (simp only [List.length_set, List.length_append, List.length_cons, List.length_nil, List.length_map, List.length_take, List.length_drop, List.length_replicate]; omega))) rfl rfl ?_
        refine o_give (g_bin (evv rfl) (evv rfl) (by rfl)) rfl rfl ?_
        refine o_give (g_assign (evv rfl)) rfl rfl ?_
        refine o_nil ?_
        refine c_code ?_
        rw [hs]
        refine r_cond rfl (fun h3 => ?_) (fun h3 => ?_) <;> (try simp only [decide_eq_true_eq, decide_eq_false_iff_not, Bool.and_eq_true, Bool.or_eq_true, Bool.not_eq_true', Bool.and_eq_false_iff, Bool.or_eq_false_iff, Bool.not_eq_false', Bool.not_eq_true, Bool.not_eq_false, Bool.true_eq_false, Bool.false_eq_true, Int.not_lt, Int.not_le, not_and, not_or, ne_eq] at h3)
        · refine r_seq ?_
          refine r_region (id := 7) ?_
          refine o_give (g_assign (evv rfl)) rfl rfl ?_
          refine o_give (g_assign (evv rfl)) rfl rfl ?_
          refine o_nil ?_
          refine c_code ?_
          first | refine r_ret (rs := [.tmp 6, .tmp 7]) rfl rfl _ (Ent.refl _) ?_ | refine c_end (rs := [.tmp 6, .tmp 7]) rfl rfl _ (Ent.refl _) ?_
          simp only [lookS, if_neg (show ¬ s.number < number by omega), if_pos h3]; (refine ⟨?_, ?_⟩ <;> first | rfl | trivial | omega)
        · refine r_seq ?_
          refine r_region (id := 8) ?_
          refine o_give (g_move (evv rfl)) rfl rfl ?_
          refine o_give (g_nil (evv rfl)) rfl rfl ?_
          refine o_give (g_fld (evv rfl)) rfl rfl ?_
          refine o_give (g_loadFl (evv rfl) (by rfl) (by rfl) (by intro; rfl) (by rfl) (by first | omega | (have := of_decide_eq_true hg; omega) | (simp at hg; omega) | (simp only [List.length_set, List.length_append, List.length_cons, List.length_nil, List.length_map, List.length_take, List.length_drop, List.length_replicate]; omega))) rfl rfl ?_
          refine o_give (g_assign (evv rfl)) rfl rfl ?_
          refine o_nil ?_
          refine c_code ?_
          rw [hs]
          refine r_cond rfl (fun h4 => ?_) (fun h4 => ?_) <;> (try simp only [decide_eq_true_eq, decide_eq_false_iff_not, Bool.and_eq_true, Bool.or_eq_true, Bool.not_eq_true', Bool.and_eq_false_iff, Bool.or_eq_false_iff, Bool.not_eq_false', Bool.not_eq_true, Bool.not_eq_false, Bool.true_eq_false, Bool.false_eq_true, Int.not_lt, Int.not_le, not_and, not_or, ne_eq] at h4)
          · refine r_seq ?_
            refine r_quiet (id := 9) Mixed.h (by kernel_rfl) ?_
            refine q_give (g_move (evv rfl)) rfl rfl ?_
            refine q_give (g_nil (evv rfl)) rfl rfl ?_
            refine q_give (g_fld (evv rfl)) rfl rfl ?_
            refine q_give (g_loadFl (evv rfl) (by rfl) (by rfl) (by intro; rfl) (by rfl) (by first | omega | (have := of_decide_eq_true hg; omega) | (simp at hg; omega) | (simp only [List.length_set, List.length_append, List.length_cons, List.length_nil, List.length_map, List.length_take, List.length_drop, List.length_replicate]; omega))) rfl rfl ?_
            refine q_give (g_assign (evv rfl)) rfl rfl ?_
            refine q_give (g_assign (evv rfl)) rfl rfl ?_
            refine q_nil ?_
            refine c_code ?_
            first | refine r_ret (rs := [.tmp 6, .tmp 7]) rfl rfl _ (Ent.refl _) ?_ | refine c_end (rs := [.tmp 6, .tmp 7]) rfl rfl _ (Ent.refl _) ?_
            simp only [lookS, if_neg (show ¬ s.number < number by omega), if_neg (show ¬ number < s.number by omega), if_pos h4, hs]; (refine ⟨?_, ?_⟩ <;> first | rfl | trivial | omega)
          · refine r_skip ?_
            refine c_blk ?_
            refine c_code ?_
            refine r_seq ?_
            refine r_region (id := 10) ?_
            refine o_give (g_assign (evv rfl)) rfl rfl ?_
            refine o_give (g_assign (evv rfl)) rfl rfl ?_
            refine o_nil ?_
            refine c_code ?_
            first | refine r_ret (rs := [.tmp 6, .tmp 7]) rfl rfl _ (Ent.refl _) ?_ | refine c_end (rs := [.tmp 6, .tmp 7]) rfl rfl _ (Ent.refl _) ?_
            simp only [lookS, if_neg (show ¬ s.number < number by omega), if_neg (show ¬ number < s.number by omega), h4]; (refine ⟨?_, ?_⟩ <;> first | rfl | trivial | omega)
  · have hb : badRq client number := by simp only [badRq]; omega
    simp only [seatP, if_neg h, lookT, if_pos hb]
    refine r_region (id := 2) ?_
    refine o_give (g_move (evv rfl)) rfl rfl ?_
    refine o_give (g_pnil TyU.h (evv rfl) (evv rfl) (by simp) (by rfl)) rfl rfl ?_
    refine o_give (g_move (evv rfl)) rfl rfl ?_
    refine o_lazy rfl (fun hg => g_move (by first | exact evv rfl | exact evg rfl (by rw [hp]; rfl) | exact evg rfl hp | exact evg rfl hg | exact evg rfl (by first | (simp_all; done) | (simp [*]; done) | fail) | fail)) rfl rfl ?_
    refine o_lazy rfl (fun hg => g_bin (by first | exact evv rfl | exact evg rfl (by rw [hp]; rfl) | exact evg rfl hp | exact evg rfl hg | exact evg rfl (by first | (simp_all; done) | (simp [*]; done) | fail) | fail) (by first | exact evv rfl | exact evg rfl (by rw [hp]; rfl) | exact evg rfl hp | exact evg rfl hg | exact evg rfl (by first | (simp_all; done) | (simp [*]; done) | fail) | fail) (by rfl)) rfl rfl ?_
    refine o_give (g_pick (b := true) (evv rfl) (fun _ => (evv rfl)) (fun h => by cases h)) rfl rfl ?_
    refine o_give (g_move (evv rfl)) rfl rfl ?_
    refine o_lazy rfl (fun hg => g_move (by first | exact evv rfl | exact evg rfl (by rw [hp]; rfl) | exact evg rfl hp | exact evg rfl hg | exact evg rfl (by first | (simp_all; done) | (simp [*]; done) | fail) | fail)) rfl rfl ?_
    refine o_lazy rfl (fun hg => g_bin (by first | exact evv rfl | exact evg rfl (by rw [hp]; rfl) | exact evg rfl hp | exact evg rfl hg | exact evg rfl (by first | (simp_all; done) | (simp [*]; done) | fail) | fail) (by first | exact evv rfl | exact evg rfl (by rw [hp]; rfl) | exact evg rfl hp | exact evg rfl hg | exact evg rfl (by first | (simp_all; done) | (simp [*]; done) | fail) | fail) (by rfl)) rfl rfl ?_
    refine o_give (g_pick (b := true) (evv rfl) (fun _ => (evv rfl)) (fun h => by cases h)) rfl rfl ?_
    refine o_give (g_assign (evv rfl)) rfl rfl ?_
    refine o_nil ?_
    refine c_code ?_
    refine r_cond_true rfl ?_
    refine r_seq ?_
    refine r_region (id := 3) ?_
    refine o_give (g_assign (evv rfl)) rfl rfl ?_
    refine o_give (g_assign (evv rfl)) rfl rfl ?_
    refine o_nil ?_
    refine c_code ?_
    first | refine r_ret (rs := [.tmp 6, .tmp 7]) rfl rfl _ (Ent.refl _) ?_ | refine c_end (rs := [.tmp 6, .tmp 7]) rfl rfl _ (Ent.refl _) ?_
    (refine ⟨?_, ?_⟩ <;> first | rfl | trivial | omega)
end VK
