/- What the reference table's methods do to its seats. Conditions: few bytes; what isn't kept has no reply. -/
import Derived.Test.YtcbhnagihkcafaaSes3
namespace VK
open Go Go.Proofs
set_option linter.unusedSimpArgs false
set_option linter.unusedVariables false
set_option maxRecDepth 100000
set_option maxHeartbeats 40000000
def rtA (r : Nat) (x : Int × List Seat) : Atom := exA fun u : Value => [blk r ⟨[.int .i64 x.1, u], 40⟩, sl u (frow seatC 5 34 x.2)]
/-- the number of a client's seat -/
def findI (l : List Seat) (c : Int) : Nat := l.findIdx fun s => decide (s.client = c)
def findV (l : List Seat) (c : Int) : Int := if findI l c < l.length then (findI l c : Int) else -1
theorem rfind_g {g : Atom → List Atom} {r : Nat} {u : Value} [hp : ∀ c, Pick (blk r) (g (blk r c)) c g] (room : Int) (l : List Seat) [hr : ∀ c, Rd (g (blk r c)) u (frow seatC 5 34 l)] (client : Int) (hl : l.length ≤ 1000) :
    Fn Try.prog 29 [.pointer (some ⟨r, 0, none⟩), .int .i64 client] (g (blk r ⟨[.int .i64 room, u], 40⟩)) fun v L' => v = .int .i64 (findV l client) ∧ L' = g (blk r ⟨[.int .i64 room, u], 40⟩) := by
  refine fn_intro Try.func29 rfl Try.ntmps29 rfl (fun W0 => ?_)
  simp only [argE]
  refine r_seq ?_
  refine r_region (id := 0) ?_
  refine o_give (g_assign (evv rfl)) rfl rfl ?_
  refine o_nil ?_
  refine c_code ?_
  refine r_seq ?_
  refine r_seq ?_
  refine r_region (id := 1) ?_
  refine o_give (g_assign (evv rfl)) rfl rfl ?_
  refine o_nil ?_
  refine c_code ?_
  refine r_block ?_
  refine r_loopE (σ := Nat) (fun k => k ≤ l.length ∧ ∀ j, j < k → ¬ (l.getD j default).client = client) (fun k => l.length - k) (fun k => [(5, .v (.int .i64 k))]) [0, 1] (fun k => g (blk r ⟨[.int .i64 room, u], 40⟩)) 0 (by dsimp only [pickE, pick1, lk2, Nat.reduceBEq, Nat.reduceAdd, Nat.zero_add, cond_true, cond_false] <;> exact rfl) ?_ (by repeat (first | exact trivial | refine ⟨rfl, ?_⟩ | refine envsub_v rfl (by first | rfl | (refine int_eq ?_; first | omega | (simp; omega) | (simp; done)) | (refine bool_eq ?_; first | (simp [*]; done) | (simp; done)) | (refine str_eq ?_; simp; done) | (refine ptr_eq ?_; omega) | fail) ?_)) ?_ ?_
  · exact ⟨Nat.zero_le _, fun j hj => by omega⟩
  · exact Ent.refl _
  rintro k ⟨hk, hn⟩; dsimp only [List.cons_append, List.nil_append]
  refine r_seq ?_
  refine r_seq ?_
  refine r_region (id := 2) ?_
  refine o_give (g_move (evv rfl)) rfl rfl ?_
  refine o_give (g_move (evv rfl)) rfl rfl ?_
  refine o_give (g_nil (evv rfl)) rfl rfl ?_
  refine o_give (g_fld (evv rfl)) rfl rfl ?_
  refine o_give (g_load (evv rfl) (by rfl) (by rfl)) rfl rfl ?_
  refine o_give (g_lenF (evv rfl)) rfl rfl ?_
  refine o_give (g_bin (evv rfl) (evv rfl) (by rfl)) rfl rfl ?_
  refine o_nil ?_
  refine c_code ?_
  refine r_cond rfl (fun hc => ?_) (fun hc => ?_) <;> (try simp only [decide_eq_true_eq, decide_eq_false_iff_not, Bool.and_eq_true, Bool.or_eq_true, Bool.not_eq_true', Bool.and_eq_false_iff, Bool.or_eq_false_iff, Bool.not_eq_false', Bool.not_eq_true, Bool.not_eq_false, Bool.true_eq_false, Bool.false_eq_true, Int.not_lt, Int.not_le, not_and, not_or, ne_eq] at hc)
  · have hk8 : k < l.length := by omega
    refine r_skip ?_
    refine c_code ?_
    refine r_seq ?_
    refine r_block ?_
    refine r_seq ?_
    refine r_region (id := 4) ?_
    refine o_give (g_move (evv rfl)) rfl rfl ?_
    refine o_give (g_nil (evv rfl)) rfl rfl ?_
    refine o_give (g_fld (evv rfl)) rfl rfl ?_
    refine o_give (g_load (evv rfl) (by rfl) (by rfl)) rfl rfl ?_
    refine o_give (g_move (evv rfl)) rfl rfl ?_
    refine o_give (g_idxFN (evv rfl) (evv rfl) (by rfl) (by rfl) (by first | omega | (have := of_decide_eq_true hg; omega) | (simp at hg; omega) | (simp only [List.length_set, List.length_append, List.length_cons, List.length_nil, List.length_map, List.length_take, List.length_drop, List.length_replicate]; omega))) rfl rfl ?_
    refine o_give (g_fldE (evv rfl) (by first | (simp only [frow, mrow]; omega) | (simp only [frow, mrow, List.length_set, List.length_append, List.length_cons]; omega) | fail) (by first | exact Nat.succ_pos _ | decide)) rfl rfl ?_
    refine o_give (g_loadFld (evv rfl) (by rfl) (by intro; rfl) (by first | omega | (have := of_decide_eq_true hg; omega) | (simp at hg; omega) | (simp only [List.length_set, List.length_append, List.length_cons, List.length_nil, List.length_map, List.length_take, List.length_drop, List.length_replicate]; omega)) (by rfl)) rfl rfl ?_
    refine o_give (g_move (evv rfl)) rfl rfl ?_
    refine o_give (g_bin (evv rfl) (evv rfl) (by rfl)) rfl rfl ?_
    refine o_nil ?_
    refine c_code ?_
    refine r_cond rfl (fun h1 => ?_) (fun h1 => ?_) <;> (try simp only [decide_eq_true_eq, decide_eq_false_iff_not, Bool.and_eq_true, Bool.or_eq_true, Bool.not_eq_true', Bool.and_eq_false_iff, Bool.or_eq_false_iff, Bool.not_eq_false', Bool.not_eq_true, Bool.not_eq_false, Bool.true_eq_false, Bool.false_eq_true, Int.not_lt, Int.not_le, not_and, not_or, ne_eq] at h1)
    · have hf : findI l client = k := by
        unfold findI
        refine (List.findIdx_eq hk8).2 ⟨by simpa [hk8] using h1, fun j hj => ?_⟩
        have := hn j hj
        have hjl : j < l.length := by omega
        simpa [hjl] using this
      refine r_seq ?_
      refine r_region (id := 5) ?_
      refine o_give (g_move (evv rfl)) rfl rfl ?_
      refine o_give (g_assign (evv rfl)) rfl rfl ?_
      refine o_nil ?_
      refine c_code ?_
      first | refine r_ret (rs := [.tmp 4]) rfl rfl _ (Ent.refl _) ?_ | refine c_end (rs := [.tmp 4]) rfl rfl _ (Ent.refl _) ?_
      refine ⟨?_, rfl⟩
      rw [findV, hf, if_pos hk8]; rfl
    · refine r_skip ?_
      refine c_blk ?_
      refine c_code ?_
      refine r_region (id := 3) ?_
      refine o_give (g_move (evv rfl)) rfl rfl ?_
      refine o_giveN (g_bin (evv rfl) (evv rfl) (by rfl)) (by simp only [inR]; omega) rfl ?_
      refine o_give (g_assign (evv rfl)) rfl rfl ?_
      refine o_nil ?_
      refine c_loop (k + 1) ?_ ?_ (by repeat (first | exact trivial | refine ⟨rfl, ?_⟩ | refine envsub_v rfl (by first | rfl | (refine int_eq ?_; first | omega | (simp; omega) | (simp; done)) | (refine bool_eq ?_; first | (simp [*]; done) | (simp; done)) | (refine str_eq ?_; simp; done) | (refine ptr_eq ?_; omega) | fail) ?_)) ?_ <;> (try dsimp only)
      · refine ⟨by omega, fun j hj => ?_⟩
        by_cases hjk : j = k
        · subst hjk; exact h1
        · exact hn j (by omega)
      · omega
      · exact Ent.refl _
  · have hf : ¬ findI l client < l.length := by
      intro hh
      have h2 := List.findIdx_getElem (xs := l) (p := fun s : Seat => decide (s.client = client)) (w := hh)
      have h3 := hn (findI l client) (by unfold findI at hh ⊢; omega)
      apply h3
      have : l.getD (findI l client) default = l[findI l client] := by simp [hh]
      rw [this]
      exact of_decide_eq_true h2
    refine r_exit rfl ?_
    refine c_code ?_
    refine r_seq ?_
    refine r_region (id := 6) ?_
    refine o_give (g_assign (evv rfl)) rfl rfl ?_
    refine o_nil ?_
    refine c_code ?_
    first | refine r_ret (rs := [.tmp 4]) rfl rfl _ (Ent.refl _) ?_ | refine c_end (rs := [.tmp 4]) rfl rfl _ (Ent.refl _) ?_
    refine ⟨?_, rfl⟩
    rw [findV, if_neg hf]; rfl
def lookR (l : List Seat) (client number : Int) : Int × List UInt8 :=
  if badRq client number then (0, []) else if findI l client < l.length then lookS (l.getD (findI l client) default) number else (1, [])
theorem rLook_g {g : Atom → List Atom} {r : Nat} {u : Value} [hp : ∀ c, Pick (blk r) (g (blk r c)) c g] (room : Int) (l : List Seat) [hr : ∀ c, Rd (g (blk r c)) u (frow seatC 5 34 l)] (client number : Int) (hl : l.length ≤ 1000) :
    Fn Try.prog 16 [.pointer (some ⟨r, 0, none⟩), .int .i64 client, .int .i64 number] (g (blk r ⟨[.int .i64 room, u], 40⟩)) fun v L' => v = .tuple #[.int .i64 (lookR l client number).1, str (lookR l client number).2] ∧ L' = g (blk r ⟨[.int .i64 room, u], 40⟩) := by
  refine fn_intro Try.func16 rfl Try.ntmps16 rfl (fun W0 => ?_)
  simp only [argE]
  refine r_seq ?_
  refine r_region (id := 0) ?_
  refine o_give (g_assign (evv rfl)) rfl rfl ?_
  refine o_give (g_assign (evv rfl)) rfl rfl ?_
  refine o_nil ?_
  refine c_code ?_
  refine r_seq ?_
  refine r_seq ?_
  refine r_region (id := 1) ?_
  refine o_give (g_move (evv rfl)) rfl rfl ?_
  refine o_give (g_bin (evv rfl) (evv rfl) (by rfl)) rfl rfl ?_
  refine o_give (g_move (evv rfl)) rfl rfl ?_
  refine o_lazy rfl (fun hg => g_move (by first | exact evv rfl | exact evg rfl (by rw [hp]; rfl) | exact evg rfl hp | exact evg rfl hg | exact evg rfl (by first | (simp_all; done) | (simp [*]; done) | fail) | fail)) rfl rfl ?_
  refine o_lazy rfl (fun hg => g_bin (by first | exact evv rfl | exact evg rfl (by rw [hp]; rfl) | exact evg rfl hp | exact evg rfl hg | exact evg rfl (by first | (simp_all; done) | (simp [*]; done) | fail) | fail) (by first | exact evv rfl | exact evg rfl (by rw [hp]; rfl) | exact evg rfl hp | exact evg rfl hg | exact evg rfl (by first | (simp_all; done) | (simp [*]; done) | fail) | fail) (by rfl)) rfl rfl ?_
  refine o_give (g_pick_or (evv rfl) (evv rfl) (fun hp => (by first | exact evv rfl | exact evg rfl (by rw [hp]; rfl) | exact evg rfl hp | exact evg rfl hg | exact evg rfl (by first | (simp_all; done) | (simp [*]; done) | fail) | fail))) rfl rfl ?_
  refine o_give (g_move (evv rfl)) rfl rfl ?_
  refine o_lazy rfl (fun hg => g_move (by first | exact evv rfl | exact evg rfl (by rw [hp]; rfl) | exact evg rfl hp | exact evg rfl hg | exact evg rfl (by first | (simp_all; done) | (simp [*]; done) | fail) | fail)) rfl rfl ?_
  refine o_lazy rfl (fun hg => g_bin (by first | exact evv rfl | exact evg rfl (by rw [hp]; rfl) | exact evg rfl hp | exact evg rfl hg | exact evg rfl (by first | (simp_all; done) | (simp [*]; done) | fail) | fail) (by first | exact evv rfl | exact evg rfl (by rw [hp]; rfl) | exact evg rfl hp | exact evg rfl hg | exact evg rfl (by first | (simp_all; done) | (simp [*]; done) | fail) | fail) (by rfl)) rfl rfl ?_
  refine o_give (g_pick_or (evv rfl) (evv rfl) (fun hp => (by first | exact evv rfl | exact evg rfl (by rw [hp]; rfl) | exact evg rfl hp | exact evg rfl hg | exact evg rfl (by first | (simp_all; done) | (simp [*]; done) | fail) | fail))) rfl rfl ?_
  refine o_give (g_move (evv rfl)) rfl rfl ?_
  refine o_lazy rfl (fun hg => g_move (by first | exact evv rfl | exact evg rfl (by rw [hp]; rfl) | exact evg rfl hp | exact evg rfl hg | exact evg rfl (by first | (simp_all; done) | (simp [*]; done) | fail) | fail)) rfl rfl ?_
  refine o_lazy rfl (fun hg => g_bin (by first | exact evv rfl | exact evg rfl (by rw [hp]; rfl) | exact evg rfl hp | exact evg rfl hg | exact evg rfl (by first | (simp_all; done) | (simp [*]; done) | fail) | fail) (by first | exact evv rfl | exact evg rfl (by rw [hp]; rfl) | exact evg rfl hp | exact evg rfl hg | exact evg rfl (by first | (simp_all; done) | (simp [*]; done) | fail) | fail) (by rfl)) rfl rfl ?_
  refine o_give (g_pick_or (evv rfl) (evv rfl) (fun hp => (by first | exact evv rfl | exact evg rfl (by rw [hp]; rfl) | exact evg rfl hp | exact evg rfl hg | exact evg rfl (by first | (simp_all; done) | (simp [*]; done) | fail) | fail))) rfl rfl ?_
  refine o_nil ?_
  refine c_code ?_
  refine r_cond rfl (fun h1 => ?_) (fun h1 => ?_) <;> (try simp only [decide_eq_true_eq, decide_eq_false_iff_not, Bool.and_eq_true, Bool.or_eq_true, Bool.not_eq_true', Bool.and_eq_false_iff, Bool.or_eq_false_iff, Bool.not_eq_false', Bool.not_eq_true, Bool.not_eq_false, Bool.true_eq_false, Bool.false_eq_true, Int.not_lt, Int.not_le, not_and, not_or, ne_eq] at h1)
  · have hb : badRq client number := by simp only [badRq]; omega
    simp only [lookR, if_pos hb]
    refine r_seq ?_
    refine r_region (id := 2) ?_
    refine o_give (g_assign (evv rfl)) rfl rfl ?_
    refine o_give (g_assign (evv rfl)) rfl rfl ?_
    refine o_nil ?_
    refine c_code ?_
    first | refine r_ret (rs := [.tmp 6, .tmp 7]) rfl rfl _ (Ent.refl _) ?_ | refine c_end (rs := [.tmp 6, .tmp 7]) rfl rfl _ (Ent.refl _) ?_
    (refine ⟨?_, ?_⟩ <;> first | rfl | trivial | omega)
  · have hb : ¬ badRq client number := by simp only [badRq]; omega
    simp only [lookR, if_neg hb]
    refine r_skip ?_
    refine c_code ?_
    refine r_seq ?_
    refine r_region (id := 3) ?_
    refine o_give (g_move (evv rfl)) rfl rfl ?_
    refine o_give (g_move (evv rfl)) rfl rfl ?_
    (refine o_call rfl _ (Ent.refl _) (Fn.atPick (rfind_g _ _ _ (by assumption))) rfl ?_; rintro _ _ ⟨rfl, rfl⟩)
    refine o_give (g_assign (evv rfl)) rfl rfl ?_
    refine o_nil ?_
    refine c_code ?_
    refine r_seq ?_
    refine r_seq ?_
    by_cases hf : findI l client < l.length
    · simp only [findV, if_pos hf]
      generalize hi : findI l client = i at *
      generalize hs : l.getD i default = s
      refine r_region (id := 4) ?_
      refine o_give (g_move (evv rfl)) rfl rfl ?_
      refine o_give (g_bin (evv rfl) (evv rfl) (by rfl)) rfl rfl ?_
      refine o_give (g_move (evv rfl)) rfl rfl ?_
      refine o_gyes rfl ?_
      refine o_give (g_move (evv rfl)) rfl rfl ?_
      refine o_gyes rfl ?_
      refine o_give (g_nil (evv rfl)) rfl rfl ?_
      refine o_gyes rfl ?_
      refine o_give (g_fld (evv rfl)) rfl rfl ?_
      refine o_gyes rfl ?_
      refine o_give (g_load (evv rfl) (by rfl) (by rfl)) rfl rfl ?_
      refine o_gyes rfl ?_
      refine o_give (g_move (evv rfl)) rfl rfl ?_
      refine o_gyes rfl ?_
      refine o_give (g_idxFN (evv rfl) (evv rfl) (by rfl) (by rfl) (by first | omega | (have := of_decide_eq_true hg; omega) | (simp at hg; omega) | (simp only [List.length_set, List.length_append, List.length_cons, List.length_nil, List.length_map, List.length_take, List.length_drop, List.length_replicate]; omega))) rfl rfl ?_
      refine o_gyes rfl ?_
      refine o_give (g_fldE (evv rfl) (by first | (simp only [frow, mrow]; omega) | (simp only [frow, mrow, List.length_set, List.length_append, List.length_cons]; omega) | fail) (by first | exact Nat.succ_pos _ | decide)) rfl rfl ?_
      refine o_gyes rfl ?_
      refine o_give (g_loadFld (evv rfl) (by rfl) (by intro; rfl) (by first | omega | (have := of_decide_eq_true hg; omega) | (simp at hg; omega) | (simp only [List.length_set, List.length_append, List.length_cons, List.length_nil, List.length_map, List.length_take, List.length_drop, List.length_replicate]; omega)) (by rfl)) rfl rfl ?_
      refine o_gyes rfl ?_
      refine o_give (g_move (evv rfl)) rfl rfl ?_
      refine o_gyes rfl ?_
      refine o_give (g_bin (evv rfl) (evv rfl) (by rfl)) rfl rfl ?_
      refine o_give (g_pick (b := false) (evv rfl) (fun h => by cases h) (fun _ => (evv rfl))) rfl rfl ?_
      refine o_nil ?_
      refine c_code ?_
      rw [hs]
      refine r_cond rfl (fun h2 => ?_) (fun h2 => ?_) <;> (try simp only [decide_eq_true_eq, decide_eq_false_iff_not, Bool.and_eq_true, Bool.or_eq_true, Bool.not_eq_true', Bool.and_eq_false_iff, Bool.or_eq_false_iff, Bool.not_eq_false', Bool.not_eq_true, Bool.not_eq_false, Bool.true_eq_false, Bool.false_eq_true, Int.not_lt, Int.not_le, not_and, not_or, ne_eq] at h2)
      · simp only [lookS, if_pos (show s.number < number by omega)]
        refine r_seq ?_
        refine r_region (id := 5) ?_
        refine o_give (g_assign (evv rfl)) rfl rfl ?_
        refine o_give (g_assign (evv rfl)) rfl rfl ?_
        refine o_nil ?_
        refine c_code ?_
        first | refine r_ret (rs := [.tmp 6, .tmp 7]) rfl rfl _ (Ent.refl _) ?_ | refine c_end (rs := [.tmp 6, .tmp 7]) rfl rfl _ (Ent.refl _) ?_
        (refine ⟨?_, ?_⟩ <;> first | rfl | trivial | omega)
      · simp only [lookS, if_neg (show ¬ s.number < number by omega)]
        refine r_skip ?_
        refine c_code ?_
        refine r_seq ?_
        refine r_seq ?_
        refine r_region (id := 6) ?_
        refine o_give (g_move (evv rfl)) rfl rfl ?_
        refine o_give (g_nil (evv rfl)) rfl rfl ?_
        refine o_give (g_fld (evv rfl)) rfl rfl ?_
        refine o_give (g_load (evv rfl) (by rfl) (by rfl)) rfl rfl ?_
        refine o_give (g_move (evv rfl)) rfl rfl ?_
        refine o_give (g_idxFN (evv rfl) (evv rfl) (by rfl) (by rfl) (by first | omega | (have := of_decide_eq_true hg; omega) | (simp at hg; omega) | (simp only [List.length_set, List.length_append, List.length_cons, List.length_nil, List.length_map, List.length_take, List.length_drop, List.length_replicate]; omega))) rfl rfl ?_
        refine o_give (g_fldE (evv rfl) (by first | (simp only [frow, mrow]; omega) | (simp only [frow, mrow, List.length_set, List.length_append, List.length_cons]; omega) | fail) (by first | exact Nat.succ_pos _ | decide)) rfl rfl ?_
        refine o_give (g_loadFld (evv rfl) (by rfl) (by intro; rfl) (by first | omega | (have := of_decide_eq_true hg; omega) | (simp at hg; omega) | (simp only [List.length_set, List.length_append, List.length_cons, List.length_nil, List.length_map, List.length_take, List.length_drop, List.length_replicate]; omega)) (by rfl)) rfl rfl ?_
        refine o_give (g_move (evv rfl)) rfl rfl ?_
        refine o_give (g_bin (evv rfl) (evv rfl) (by rfl)) rfl rfl ?_
        refine o_nil ?_
        refine c_code ?_
        rw [hs]
        refine r_cond rfl (fun h3 => ?_) (fun h3 => ?_) <;> (try simp only [decide_eq_true_eq, decide_eq_false_iff_not, Bool.and_eq_true, Bool.or_eq_true, Bool.not_eq_true', Bool.and_eq_false_iff, Bool.or_eq_false_iff, Bool.not_eq_false', Bool.not_eq_true, Bool.not_eq_false, Bool.true_eq_false, Bool.false_eq_true, Int.not_lt, Int.not_le, not_and, not_or, ne_eq] at h3)
        · rw [if_pos (show number < s.number by omega)]
          refine r_seq ?_
          refine r_region (id := 7) ?_
          refine o_give (g_assign (evv rfl)) rfl rfl ?_
          refine o_give (g_assign (evv rfl)) rfl rfl ?_
          refine o_nil ?_
          refine c_code ?_
          first | refine r_ret (rs := [.tmp 6, .tmp 7]) rfl rfl _ (Ent.refl _) ?_ | refine c_end (rs := [.tmp 6, .tmp 7]) rfl rfl _ (Ent.refl _) ?_
          (refine ⟨?_, ?_⟩ <;> first | rfl | trivial | omega)
        · rw [if_neg (show ¬ number < s.number by omega)]
          refine r_skip ?_
          refine c_code ?_
          refine r_seq ?_
          refine r_seq ?_
          refine r_region (id := 8) ?_
          refine o_give (g_move (evv rfl)) rfl rfl ?_
          refine o_give (g_nil (evv rfl)) rfl rfl ?_
          refine o_give (g_fld (evv rfl)) rfl rfl ?_
          refine o_give (g_load (evv rfl) (by rfl) (by rfl)) rfl rfl ?_
          refine o_give (g_move (evv rfl)) rfl rfl ?_
          refine o_give (g_idxFN (evv rfl) (evv rfl) (by rfl) (by rfl) (by first | omega | (have := of_decide_eq_true hg; omega) | (simp at hg; omega) | (simp only [List.length_set, List.length_append, List.length_cons, List.length_nil, List.length_map, List.length_take, List.length_drop, List.length_replicate]; omega))) rfl rfl ?_
          refine o_give (g_fldE (evv rfl) (by first | (simp only [frow, mrow]; omega) | (simp only [frow, mrow, List.length_set, List.length_append, List.length_cons]; omega) | fail) (by first | exact Nat.succ_pos _ | decide)) rfl rfl ?_
          refine o_give (g_loadFld (evv rfl) (by rfl) (by intro; rfl) (by first | omega | (have := of_decide_eq_true hg; omega) | (simp at hg; omega) | (simp only [List.length_set, List.length_append, List.length_cons, List.length_nil, List.length_map, List.length_take, List.length_drop, List.length_replicate]; omega)) (by rfl)) rfl rfl ?_
          refine o_nil ?_
          refine c_code ?_
          rw [hs]
          refine r_cond rfl (fun h4 => ?_) (fun h4 => ?_) <;> (try simp only [decide_eq_true_eq, decide_eq_false_iff_not, Bool.and_eq_true, Bool.or_eq_true, Bool.not_eq_true', Bool.and_eq_false_iff, Bool.or_eq_false_iff, Bool.not_eq_false', Bool.not_eq_true, Bool.not_eq_false, Bool.true_eq_false, Bool.false_eq_true, Int.not_lt, Int.not_le, not_and, not_or, ne_eq] at h4)
          · rw [if_pos h4]
            refine r_seq ?_
            refine r_quiet (id := 9) Mixed.h (by kernel_rfl) ?_
            refine q_give (g_move (evv rfl)) rfl rfl ?_
            refine q_give (g_nil (evv rfl)) rfl rfl ?_
            refine q_give (g_fld (evv rfl)) rfl rfl ?_
            refine q_give (g_load (evv rfl) (by rfl) (by rfl)) rfl rfl ?_
            refine q_give (g_move (evv rfl)) rfl rfl ?_
            refine q_give (g_idxFN (evv rfl) (evv rfl) (by rfl) (by rfl) (by first | omega | (have := of_decide_eq_true hg; omega) | (simp at hg; omega) | (simp only [List.length_set, List.length_append, List.length_cons, List.length_nil, List.length_map, List.length_take, List.length_drop, List.length_replicate]; omega))) rfl rfl ?_
            refine q_give (g_fldE (evv rfl) (by first | (simp only [frow, mrow]; omega) | (simp only [frow, mrow, List.length_set, List.length_append, List.length_cons]; omega) | fail) (by first | exact Nat.succ_pos _ | decide)) rfl rfl ?_
            refine q_give (g_loadFld (evv rfl) (by rfl) (by intro; rfl) (by first | omega | (have := of_decide_eq_true hg; omega) | (simp at hg; omega) | (simp only [List.length_set, List.length_append, List.length_cons, List.length_nil, List.length_map, List.length_take, List.length_drop, List.length_replicate]; omega)) (by rfl)) rfl rfl ?_
            refine q_give (g_assign (evv rfl)) rfl rfl ?_
            refine q_give (g_assign (evv rfl)) rfl rfl ?_
            refine q_nil ?_
            refine c_code ?_
            rw [hs]
            skip
            first | refine r_ret (rs := [.tmp 6, .tmp 7]) rfl rfl _ (Ent.refl _) ?_ | refine c_end (rs := [.tmp 6, .tmp 7]) rfl rfl _ (Ent.refl _) ?_
            (refine ⟨?_, ?_⟩ <;> first | rfl | trivial | omega)
          · rw [if_neg (by simp [h4])]
            refine r_skip ?_
            refine c_code ?_
            refine r_seq ?_
            refine r_region (id := 10) ?_
            refine o_give (g_assign (evv rfl)) rfl rfl ?_
            refine o_give (g_assign (evv rfl)) rfl rfl ?_
            refine o_nil ?_
            refine c_code ?_
            first | refine r_ret (rs := [.tmp 6, .tmp 7]) rfl rfl _ (Ent.refl _) ?_ | refine c_end (rs := [.tmp 6, .tmp 7]) rfl rfl _ (Ent.refl _) ?_
            (refine ⟨?_, ?_⟩ <;> first | rfl | trivial | omega)
    · simp only [findV, if_neg hf]
      refine r_region (id := 4) ?_
      refine o_give (g_move (evv rfl)) rfl rfl ?_
      refine o_give (g_bin (evv rfl) (evv rfl) (by rfl)) rfl rfl ?_
      refine o_give (g_move (evv rfl)) rfl rfl ?_
      refine o_lazy rfl (fun hg => g_move (by first | exact evv rfl | exact evg rfl (by rw [hp]; rfl) | exact evg rfl hp | exact evg rfl hg | exact evg rfl (by first | (simp_all; done) | (simp [*]; done) | fail) | fail)) rfl rfl ?_
      refine o_lazy rfl (fun hg => g_nil (by first | exact evv rfl | exact evg rfl (by rw [hp]; rfl) | exact evg rfl hp | exact evg rfl hg | exact evg rfl (by first | (simp_all; done) | (simp [*]; done) | fail) | fail)) rfl rfl ?_
      refine o_lazy rfl (fun hg => g_fld (evg rfl hg)) rfl rfl ?_
      refine o_lazy rfl (fun hg => g_load (evg rfl hg) (by rfl) (by rfl)) rfl rfl ?_
      refine o_lazy rfl (fun hg => g_move (by first | exact evv rfl | exact evg rfl (by rw [hp]; rfl) | exact evg rfl hp | exact evg rfl hg | exact evg rfl (by first | (simp_all; done) | (simp [*]; done) | fail) | fail)) rfl rfl ?_
      refine o_lazy (v0 := undef) rfl (fun hg => absurd hg (by first | (simp; done) | fail)) rfl rfl ?_
      refine o_lazy (v0 := undef) rfl (fun hg => absurd hg (by first | (simp; done) | fail)) rfl rfl ?_
      refine o_lazy (v0 := undef) rfl (fun hg => absurd hg (by first | (simp; done) | fail)) rfl rfl ?_
      refine o_lazy rfl (fun hg => g_move (by first | exact evv rfl | exact evg rfl (by rw [hp]; rfl) | exact evg rfl hp | exact evg rfl hg | exact evg rfl (by first | (simp_all; done) | (simp [*]; done) | fail) | fail)) rfl rfl ?_
      refine o_lazy (v0 := undef) rfl (fun hg => absurd hg (by first | (simp; done) | fail)) rfl rfl ?_
      refine o_give (g_pick (b := true) (evv rfl) (fun _ => (evv rfl)) (fun h => by cases h)) rfl rfl ?_
      refine o_nil ?_
      refine c_code ?_
      refine r_cond_true rfl ?_
      refine r_seq ?_
      refine r_region (id := 5) ?_
      refine o_give (g_assign (evv rfl)) rfl rfl ?_
      refine o_give (g_assign (evv rfl)) rfl rfl ?_
      refine o_nil ?_
      refine c_code ?_
      first | refine r_ret (rs := [.tmp 6, .tmp 7]) rfl rfl _ (Ent.refl _) ?_ | refine c_end (rs := [.tmp 6, .tmp 7]) rfl rfl _ (Ent.refl _) ?_
      (refine ⟨?_, ?_⟩ <;> first | rfl | trivial | omega)
theorem rBytes_g {g : Atom → List Atom} {r : Nat} {u : Value} [hp : ∀ c, Pick (blk r) (g (blk r c)) c g] (room : Int) (l : List Seat) [hr : ∀ c, Rd (g (blk r c)) u (frow seatC 5 34 l)] (hl : l.length ≤ 1000) (hb : repB l ≤ 4611686018427387904) :
    Fn Try.prog 50 [.pointer (some ⟨r, 0, none⟩)] (g (blk r ⟨[.int .i64 room, u], 40⟩)) fun v L' => v = .int .i64 (repB l) ∧ L' = g (blk r ⟨[.int .i64 room, u], 40⟩) := by
  refine fn_intro Try.func50 rfl Try.ntmps50 rfl (fun W0 => ?_)
  simp only [argE]
  refine r_seq ?_
  refine r_region (id := 0) ?_
  refine o_give (g_assign (evv rfl)) rfl rfl ?_
  refine o_nil ?_
  refine c_code ?_
  refine r_seq ?_
  refine r_region (id := 1) ?_
  refine o_give (g_assign (evv rfl)) rfl rfl ?_
  refine o_nil ?_
  refine c_code ?_
  refine r_seq ?_
  refine r_seq ?_
  refine r_region (id := 2) ?_
  refine o_give (g_assign (evv rfl)) rfl rfl ?_
  refine o_nil ?_
  refine c_code ?_
  refine r_block ?_
  refine r_loopE (σ := Nat) (fun k => k ≤ l.length) (fun k => l.length - k) (fun k => [(3, .v (.int .i64 (repB (l.take k)))), (4, .v (.int .i64 k))]) [0] (fun k => g (blk r ⟨[.int .i64 room, u], 40⟩)) 0 (by dsimp only [pickE, pick1, lk2, Nat.reduceBEq, Nat.reduceAdd, Nat.zero_add, cond_true, cond_false] <;> exact rfl) ?_ (by repeat (first | exact trivial | refine ⟨rfl, ?_⟩ | refine envsub_v rfl (by first | rfl | (refine int_eq ?_; first | omega | (simp; omega) | (simp; done)) | (refine bool_eq ?_; first | (simp [*]; done) | (simp; done)) | (refine str_eq ?_; simp; done) | (refine ptr_eq ?_; omega) | fail) ?_)) ?_ ?_
  · omega
  · exact Ent.refl _
  rintro k hk; (try dsimp only at hk); dsimp only [List.cons_append, List.nil_append]
  have h1 := repB_take_le l (k + 1)
  refine r_seq ?_
  refine r_seq ?_
  refine r_region (id := 3) ?_
  refine o_give (g_move (evv rfl)) rfl rfl ?_
  refine o_give (g_move (evv rfl)) rfl rfl ?_
  refine o_give (g_nil (evv rfl)) rfl rfl ?_
  refine o_give (g_fld (evv rfl)) rfl rfl ?_
  refine o_give (g_load (evv rfl) (by rfl) (by rfl)) rfl rfl ?_
  refine o_give (g_lenF (evv rfl)) rfl rfl ?_
  refine o_give (g_bin (evv rfl) (evv rfl) (by rfl)) rfl rfl ?_
  refine o_nil ?_
  refine c_code ?_
  refine r_cond rfl (fun hc => ?_) (fun hc => ?_) <;> (try simp only [decide_eq_true_eq, decide_eq_false_iff_not, Bool.and_eq_true, Bool.or_eq_true, Bool.not_eq_true', Bool.and_eq_false_iff, Bool.or_eq_false_iff, Bool.not_eq_false', Bool.not_eq_true, Bool.not_eq_false, Bool.true_eq_false, Bool.false_eq_true, Int.not_lt, Int.not_le, not_and, not_or, ne_eq] at hc)
  · have hk8 : k < l.length := by omega
    rw [repB_take l k hk8] at h1
    refine r_skip ?_
    refine c_code ?_
    refine r_seq ?_
    refine r_block ?_
    refine r_region (id := 5) ?_
    refine o_give (g_move (evv rfl)) rfl rfl ?_
    refine o_give (g_move (evv rfl)) rfl rfl ?_
    refine o_give (g_nil (evv rfl)) rfl rfl ?_
    refine o_give (g_fld (evv rfl)) rfl rfl ?_
    refine o_give (g_load (evv rfl) (by rfl) (by rfl)) rfl rfl ?_
    refine o_give (g_move (evv rfl)) rfl rfl ?_
    refine o_give (g_idxFN (evv rfl) (evv rfl) (by rfl) (by rfl) (by first | omega | (have := of_decide_eq_true hg; omega) | (simp at hg; omega) | (simp only [List.length_set, List.length_append, List.length_cons, List.length_nil, List.length_map, List.length_take, List.length_drop, List.length_replicate]; omega))) rfl rfl ?_
    refine o_give (g_fldE (evv rfl) (by first | (simp only [frow, mrow]; omega) | (simp only [frow, mrow, List.length_set, List.length_append, List.length_cons]; omega) | fail) (by first | exact Nat.succ_pos _ | decide)) rfl rfl ?_
    refine o_give (g_loadFld (evv rfl) (by rfl) (by intro; rfl) (by first | omega | (have := of_decide_eq_true hg; omega) | (simp at hg; omega) | (simp only [List.length_set, List.length_append, List.length_cons, List.length_nil, List.length_map, List.length_take, List.length_drop, List.length_replicate]; omega)) (by rfl)) rfl rfl ?_
    refine o_give (g_lenS TyU.h (evv rfl)) rfl rfl ?_
    refine o_giveN (g_bin (evv rfl) (evv rfl) (by rfl)) (by simp only [inR]; omega) rfl ?_
    refine o_give (g_assign (evv rfl)) rfl rfl ?_
    refine o_nil ?_
    refine c_blk ?_
    refine c_code ?_
    refine r_region (id := 4) ?_
    refine o_give (g_move (evv rfl)) rfl rfl ?_
    refine o_giveN (g_bin (evv rfl) (evv rfl) (by rfl)) (by simp only [inR]; omega) rfl ?_
    refine o_give (g_assign (evv rfl)) rfl rfl ?_
    refine o_nil ?_
    refine c_loop (k + 1) ?_ ?_ (by simp only [repB_take l k hk8]; repeat (first | exact trivial | refine ⟨rfl, ?_⟩ | refine envsub_v rfl (by first | rfl | (refine int_eq ?_; first | omega | (simp; omega) | (simp; done)) | (refine bool_eq ?_; first | (simp [*]; done) | (simp; done)) | (refine str_eq ?_; simp; done) | (refine ptr_eq ?_; omega) | fail) ?_)) ?_ <;> (try dsimp only)
    · omega
    · omega
    · exact Ent.refl _
  · have : k = l.length := by omega
    subst this
    rw [List.take_length]
    refine r_exit rfl ?_
    refine c_code ?_
    refine r_seq ?_
    refine r_region (id := 6) ?_
    refine o_give (g_move (evv rfl)) rfl rfl ?_
    refine o_give (g_assign (evv rfl)) rfl rfl ?_
    refine o_nil ?_
    refine c_code ?_
    first | refine r_ret (rs := [.tmp 2]) rfl rfl _ (Ent.refl _) ?_ | refine c_end (rs := [.tmp 2]) rfl rfl _ (Ent.refl _) ?_
    (refine ⟨?_, ?_⟩ <;> first | rfl | trivial | omega)
def seatsEq (a b : List Seat) : Bool := decide (a = b)
theorem Seats_c (L : List Atom) (u v : Value) (a b : List Seat) [ra : Rd L u (frow seatC 5 34 a)] [rb : Rd L v (frow seatC 5 34 b)] (ha : a.length ≤ 1000) (hb : b.length ≤ 1000) :
    Fn Try.prog 13 [u, v] L fun w L' => w = .bool (decide (a = b)) ∧ L' = L := by
  refine fn_intro Try.func13 rfl Try.ntmps13 rfl (fun W0 => ?_)
  simp only [argE]
  refine r_seq ?_
  refine r_region (id := 0) ?_
  refine o_give (g_assign (evv rfl)) rfl rfl ?_
  refine o_nil ?_
  refine c_code ?_
  refine r_seq ?_
  refine r_seq ?_
  refine r_region (id := 1) ?_
  refine o_give (g_move (evv rfl)) rfl rfl ?_
  refine o_give (g_lenF (evv rfl)) rfl rfl ?_
  refine o_give (g_move (evv rfl)) rfl rfl ?_
  refine o_give (g_lenF (evv rfl)) rfl rfl ?_
  refine o_give (g_bin (evv rfl) (evv rfl) (by rfl)) rfl rfl ?_
  refine o_nil ?_
  refine c_code ?_
  refine r_cond rfl (fun h1 => ?_) (fun h1 => ?_) <;> (try simp only [decide_eq_true_eq, decide_eq_false_iff_not, Bool.and_eq_true, Bool.or_eq_true, Bool.not_eq_true', Bool.and_eq_false_iff, Bool.or_eq_false_iff, Bool.not_eq_false', Bool.not_eq_true, Bool.not_eq_false, Bool.true_eq_false, Bool.false_eq_true, Int.not_lt, Int.not_le, not_and, not_or, ne_eq] at h1)
  · have : a ≠ b := by rintro rfl; exact h1 rfl
    refine r_seq ?_
    refine r_region (id := 2) ?_
    refine o_give (g_assign (evv rfl)) rfl rfl ?_
    refine o_nil ?_
    refine c_code ?_
    first | refine r_ret (rs := [.tmp 4]) rfl rfl _ (Ent.refl _) ?_ | refine c_end (rs := [.tmp 4]) rfl rfl _ (Ent.refl _) ?_
    refine ⟨?_, rfl⟩
    rw [decide_eq_false this]; rfl
  · have h1 : a.length = b.length := by omega
    refine r_skip ?_
    refine c_code ?_
    refine r_seq ?_
    refine r_seq ?_
    refine r_region (id := 3) ?_
    refine o_give (g_assign (evv rfl)) rfl rfl ?_
    refine o_nil ?_
    refine c_code ?_
    refine r_block ?_
    refine r_loopE (σ := Nat) (fun k => k ≤ a.length ∧ a.take k = b.take k) (fun k => a.length - k) (fun k => [(5, .v (.int .i64 k))]) [0, 1] (fun k => L) 0 (by dsimp only [pickE, pick1, lk2, Nat.reduceBEq, Nat.reduceAdd, Nat.zero_add, cond_true, cond_false] <;> exact rfl) ?_ (by repeat (first | exact trivial | refine ⟨rfl, ?_⟩ | refine envsub_v rfl (by first | rfl | (refine int_eq ?_; first | omega | (simp; omega) | (simp; done)) | (refine bool_eq ?_; first | (simp [*]; done) | (simp; done)) | (refine str_eq ?_; simp; done) | (refine ptr_eq ?_; omega) | fail) ?_)) ?_ ?_
    · exact ⟨Nat.zero_le _, rfl⟩
    · exact Ent.refl _
    rintro k ⟨hk, he⟩; dsimp only [List.cons_append, List.nil_append]
    refine r_seq ?_
    refine r_seq ?_
    refine r_region (id := 4) ?_
    refine o_give (g_move (evv rfl)) rfl rfl ?_
    refine o_give (g_move (evv rfl)) rfl rfl ?_
    refine o_give (g_lenF (evv rfl)) rfl rfl ?_
    refine o_give (g_bin (evv rfl) (evv rfl) (by rfl)) rfl rfl ?_
    refine o_nil ?_
    refine c_code ?_
    refine r_cond rfl (fun hc => ?_) (fun hc => ?_) <;> (try simp only [decide_eq_true_eq, decide_eq_false_iff_not, Bool.and_eq_true, Bool.or_eq_true, Bool.not_eq_true', Bool.and_eq_false_iff, Bool.or_eq_false_iff, Bool.not_eq_false', Bool.not_eq_true, Bool.not_eq_false, Bool.true_eq_false, Bool.false_eq_true, Int.not_lt, Int.not_le, not_and, not_or, ne_eq] at hc)
    · have hk8 : k < a.length := by omega
      have hk9 : k < b.length := by omega
      refine r_skip ?_
      refine c_code ?_
      refine r_seq ?_
      refine r_block ?_
      refine r_seq ?_
      refine r_quiet (id := 6) Mixed.h (by kernel_rfl) ?_
      refine q_give (g_move (evv rfl)) rfl rfl ?_
      refine q_give (g_move (evv rfl)) rfl rfl ?_
      refine q_give (g_idxFN (evv rfl) (evv rfl) (by rfl) (by rfl) (by first | omega | (have := of_decide_eq_true hg; omega) | (simp at hg; omega) | (simp only [List.length_set, List.length_append, List.length_cons, List.length_nil, List.length_map, List.length_take, List.length_drop, List.length_replicate]; omega))) rfl rfl ?_
      refine q_give (g_loadFr (evv rfl) (by rfl) (by intro; rfl) (by rfl) (by rfl) (by first | omega | (have := of_decide_eq_true hg; omega) | (simp at hg; omega) | (simp only [List.length_set, List.length_append, List.length_cons, List.length_nil, List.length_map, List.length_take, List.length_drop, List.length_replicate]; omega))) rfl rfl ?_
      refine q_give (g_move (evv rfl)) rfl rfl ?_
      refine q_give (g_move (evv rfl)) rfl rfl ?_
      refine q_give (g_idxFN (evv rfl) (evv rfl) (by rfl) (by rfl) (by first | omega | (have := of_decide_eq_true hg; omega) | (simp at hg; omega) | (simp only [List.length_set, List.length_append, List.length_cons, List.length_nil, List.length_map, List.length_take, List.length_drop, List.length_replicate]; omega))) rfl rfl ?_
      refine q_give (g_loadFr (evv rfl) (by rfl) (by intro; rfl) (by rfl) (by rfl) (by first | omega | (have := of_decide_eq_true hg; omega) | (simp at hg; omega) | (simp only [List.length_set, List.length_append, List.length_cons, List.length_nil, List.length_map, List.length_take, List.length_drop, List.length_replicate]; omega))) rfl rfl ?_
      refine q_give (g_eqS (by kernel_rfl) (evv rfl) (evv rfl) (by rfl)) rfl rfl ?_
      refine q_nil ?_
      refine c_code ?_
      refine r_cond rfl (fun h2 => ?_) (fun h2 => ?_) <;> (try simp only [decide_eq_true_eq, decide_eq_false_iff_not, Bool.and_eq_true, Bool.or_eq_true, Bool.not_eq_true', Bool.and_eq_false_iff, Bool.or_eq_false_iff, Bool.not_eq_false', Bool.not_eq_true, Bool.not_eq_false, Bool.true_eq_false, Bool.false_eq_true, Int.not_lt, Int.not_le, not_and, not_or, ne_eq] at h2)
      · have : a ≠ b := by rintro rfl; exact h2 rfl
        refine r_seq ?_
        refine r_region (id := 7) ?_
        refine o_give (g_assign (evv rfl)) rfl rfl ?_
        refine o_nil ?_
        refine c_code ?_
        first | refine r_ret (rs := [.tmp 4]) rfl rfl _ (Ent.refl _) ?_ | refine c_end (rs := [.tmp 4]) rfl rfl _ (Ent.refl _) ?_
        refine ⟨?_, rfl⟩
        rw [decide_eq_false this]; rfl
      · refine r_skip ?_
        refine c_blk ?_
        refine c_code ?_
        refine r_region (id := 5) ?_
        refine o_give (g_move (evv rfl)) rfl rfl ?_
        refine o_giveN (g_bin (evv rfl) (evv rfl) (by rfl)) (by simp only [inR]; omega) rfl ?_
        refine o_give (g_assign (evv rfl)) rfl rfl ?_
        refine o_nil ?_
        refine c_loop (k + 1) ?_ ?_ (by repeat (first | exact trivial | refine ⟨rfl, ?_⟩ | refine envsub_v rfl (by first | rfl | (refine int_eq ?_; first | omega | (simp; omega) | (simp; done)) | (refine bool_eq ?_; first | (simp [*]; done) | (simp; done)) | (refine str_eq ?_; simp; done) | (refine ptr_eq ?_; omega) | fail) ?_)) ?_ <;> (try dsimp only)
        · refine ⟨by omega, ?_⟩
          rw [List.take_succ_eq_append_getElem hk8, List.take_succ_eq_append_getElem hk9, he]
          simp [hk8, hk9] at h2
          rw [h2]
        · omega
        · exact Ent.refl _
    · have : a = b := by
        rw [List.take_of_length_le (by omega), List.take_of_length_le (by omega)] at he; exact he
      refine r_exit rfl ?_
      refine c_code ?_
      refine r_seq ?_
      refine r_region (id := 8) ?_
      refine o_give (g_assign (evv rfl)) rfl rfl ?_
      refine o_nil ?_
      refine c_code ?_
      first | refine r_ret (rs := [.tmp 4]) rfl rfl _ (Ent.refl _) ?_ | refine c_end (rs := [.tmp 4]) rfl rfl _ (Ent.refl _) ?_
      refine ⟨?_, rfl⟩
      rw [decide_eq_true this]; rfl
end VK
