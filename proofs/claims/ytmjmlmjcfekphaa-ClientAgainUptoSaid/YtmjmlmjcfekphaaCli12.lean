/- The reference's client: Call, Tick, Handle. Conditions: few replicas. -/
import Derived.Test.YtmjmlmjcfekphaaCli11
--%norm
namespace VK
open Go Go.Proofs
set_option linter.unusedSimpArgs false
set_option linter.unusedVariables false
set_option maxRecDepth 100000
set_option maxHeartbeats 40000000
theorem rCallN_c (L : List Atom) (c : Nat) (id n num left t : Int) (o o' : OpS) (ho : o'.ok) (k : CliOk id n num left t) (h : callE num t o' ≠ 0) : Fn Try.prog 14 [.pointer (some ⟨c, 0, none⟩), agg (opSC o')] (blk c ⟨rcC id n num t o, 54⟩ :: L) fun v L' => v = .tuple #[.slice none 0 0, .int .i64 (callE num t o')] ∧ L' = blk c ⟨rcC id n num t o, 54⟩ :: L := by
  obtain ⟨hi, hn, hu, ht, hl, he⟩ := k
  refine fn_intro Try.func14 rfl Try.ntmps14 rfl (fun W0 => ?_)
  simp only [argE]
  refine r_seq ?_
  refine r_region (id := 0) ?_
  refine o_boxA (evv rfl) rfl (fun _ => ?_)
  refine o_give (g_assign (evv rfl)) rfl rfl ?_
  refine o_give (g_assign (evv rfl)) rfl rfl ?_
  refine o_nil ?_
  refine c_code ?_
  refine r_seq ?_
  refine r_seq ?_
  refine r_region (id := 1) ?_
  refine o_give (g_move (evv rfl)) rfl rfl ?_
  refine o_give (g_nil (evv rfl)) rfl rfl ?_
  refine o_give (g_fld (evv rfl)) (by first | (simp only [Nat.zero_add, Nat.reduceAdd]; rfl) | rfl) rfl ?_
  refine o_give (g_loadGt (evv rfl) (by rfl)) rfl rfl ?_
  refine o_give (g_bin (evv rfl) (evv rfl) (by rfl)) rfl rfl ?_
  refine o_nil ?_
  refine c_code ?_
  refine r_cond rfl (fun h1 => ?_) (fun h1 => ?_) <;> (try simp only [decide_eq_true_eq, decide_eq_false_iff_not, Bool.and_eq_true, Bool.or_eq_true, Bool.not_eq_true', Bool.and_eq_false_iff, Bool.or_eq_false_iff, Bool.not_eq_false', Bool.not_eq_true, Bool.not_eq_false, Bool.true_eq_false, Bool.false_eq_true, Int.not_lt, Int.not_le, not_and, not_or, ne_eq] at h1)
  · rw [callE, if_pos h1]
    refine r_seq ?_
    refine r_region (id := 2) ?_
    refine o_give (g_assign (evv rfl)) rfl rfl ?_
    refine o_give (g_assign (evv rfl)) rfl rfl ?_
    refine o_nil ?_
    refine c_code ?_
    first | refine r_ret (rs := [.tmp 4, .tmp 5]) rfl rfl _ ((Lay.ent (L' := blk c ⟨rcC id n num t o, 54⟩ :: L))) ?_ | refine c_end (rs := [.tmp 4, .tmp 5]) rfl rfl _ ((Lay.ent (L' := blk c ⟨rcC id n num t o, 54⟩ :: L))) ?_
    exact ⟨rfl, rfl⟩
  · rw [callE, if_neg (by omega)] at h ⊢
    refine r_skip ?_
    refine c_code ?_
    refine r_seq ?_
    refine r_region (id := 3) ?_
    refine o_give (g_loadF (evv rfl) (by rfl) (by rfl)) rfl rfl ?_
    (refine o_call rfl _ (Ent.refl _) (ROpEnc_c _ _ (by assumption)) rfl ?_; rintro _ _ ⟨v, rfl, rfl⟩)
    refine o_give (g_move (evv rfl)) rfl rfl ?_
    refine o_give (g_extract (evv rfl) (by rfl)) rfl rfl ?_
    refine o_give (g_extract (evv rfl) (by rfl)) rfl rfl ?_
    refine o_give (g_assign (evv rfl)) rfl rfl ?_
    refine o_give (g_assign (evv rfl)) rfl rfl ?_
    refine o_nil ?_
    refine c_code ?_
    refine r_seq ?_
    refine r_seq ?_
    refine r_region (id := 4) ?_
    refine o_give (g_move (evv rfl)) rfl rfl ?_
    refine o_give (g_bin (evv rfl) (evv rfl) (by rfl)) rfl rfl ?_
    refine o_nil ?_
    refine c_code ?_
    by_cases h2 : longOp o'
    · simp only [if_pos h2] at h ⊢
      refine r_cond_true rfl ?_
      refine r_seq ?_
      refine r_region (id := 5) ?_
      refine o_give (g_assign (evv rfl)) rfl rfl ?_
      refine o_give (g_assign (evv rfl)) rfl rfl ?_
      refine o_nil ?_
      refine c_code ?_
      first | refine r_ret (rs := [.tmp 4, .tmp 5]) rfl rfl _ ((Lay.ent (L' := blk c ⟨rcC id n num t o, 54⟩ :: L))) ?_ | refine c_end (rs := [.tmp 4, .tmp 5]) rfl rfl _ ((Lay.ent (L' := blk c ⟨rcC id n num t o, 54⟩ :: L))) ?_
      exact ⟨rfl, rfl⟩
    · simp only [if_neg h2] at h ⊢
      by_cases h3 : 1099511627776 ≤ num
      · rw [if_pos h3]
        refine r_cond_false rfl ?_
        refine r_skip ?_
        refine c_code ?_
        refine r_seq ?_
        refine r_seq ?_
        refine r_region (id := 6) ?_
        refine o_give (g_move (evv rfl)) rfl rfl ?_
        refine o_give (g_nil (evv rfl)) rfl rfl ?_
        refine o_give (g_fld (evv rfl)) (by first | (simp only [Nat.zero_add, Nat.reduceAdd]; rfl) | rfl) rfl ?_
        refine o_give (g_loadGt (evv rfl) (by rfl)) rfl rfl ?_
        refine o_give (g_bin (evv rfl) (evv rfl) (by rfl)) rfl rfl ?_
        refine o_nil ?_
        refine c_code ?_
        refine r_cond rfl (fun h4 => ?_) (fun h4 => ?_) <;> (try simp only [decide_eq_true_eq, decide_eq_false_iff_not, Bool.and_eq_true, Bool.or_eq_true, Bool.not_eq_true', Bool.and_eq_false_iff, Bool.or_eq_false_iff, Bool.not_eq_false', Bool.not_eq_true, Bool.not_eq_false, Bool.true_eq_false, Bool.false_eq_true, Int.not_lt, Int.not_le, not_and, not_or, ne_eq] at h4)
        · refine r_seq ?_
          refine r_region (id := 7) ?_
          refine o_give (g_assign (evv rfl)) rfl rfl ?_
          refine o_give (g_assign (evv rfl)) rfl rfl ?_
          refine o_nil ?_
          refine c_code ?_
          first | refine r_ret (rs := [.tmp 4, .tmp 5]) rfl rfl _ ((Lay.ent (L' := blk c ⟨rcC id n num t o, 54⟩ :: L))) ?_ | refine c_end (rs := [.tmp 4, .tmp 5]) rfl rfl _ ((Lay.ent (L' := blk c ⟨rcC id n num t o, 54⟩ :: L))) ?_
          exact ⟨rfl, rfl⟩
        · omega
      · rw [if_neg h3] at h
        exact absurd rfl h
theorem rCallY_c (L : List Atom) (c : Nat) (id n num left t : Int) (o o' : OpS) (ho : o'.ok) (k : CliOk id n num left t) (h : callE num t o' = 0) : Fn Try.prog 14 [.pointer (some ⟨c, 0, none⟩), agg (opSC o')] (blk c ⟨rcC id n num t o, 54⟩ :: L) fun v L' => ∃ u vs, v = .tuple #[u, .int .i64 0] ∧ (vs.length : Int) = n ∧ L' = blk c ⟨rcC id n (num + 1) 4 o', 54⟩ :: sl u (msgR (reqL id vs)) :: rom (reqRom ⟨id, num + 1, o'⟩ vs) :: L := by
  obtain ⟨hi, hn, hu, ht, hl, he⟩ := k
  by_cases h1 : 0 < t
  · rw [callE, if_pos h1] at h; exact absurd h (by decide)
  rw [callE, if_neg h1] at h
  by_cases h2 : longOp o'
  · rw [if_pos h2] at h; exact absurd h (by decide)
  rw [if_neg h2] at h
  by_cases h3 : 1099511627776 ≤ num
  · rw [if_pos h3] at h; exact absurd h (by decide)
  refine fn_intro Try.func14 rfl Try.ntmps14 rfl (fun W0 => ?_)
  simp only [argE]
  refine r_seq ?_
  refine r_region (id := 0) ?_
  refine o_boxA (evv rfl) rfl (fun _ => ?_)
  refine o_give (g_assign (evv rfl)) rfl rfl ?_
  refine o_give (g_assign (evv rfl)) rfl rfl ?_
  refine o_nil ?_
  refine c_code ?_
  refine r_seq ?_
  refine r_seq ?_
  refine r_region (id := 1) ?_
  refine o_give (g_move (evv rfl)) rfl rfl ?_
  refine o_give (g_nil (evv rfl)) rfl rfl ?_
  refine o_give (g_fld (evv rfl)) (by first | (simp only [Nat.zero_add, Nat.reduceAdd]; rfl) | rfl) rfl ?_
  refine o_give (g_loadGt (evv rfl) (by rfl)) rfl rfl ?_
  refine o_give (g_bin (evv rfl) (evv rfl) (by rfl)) rfl rfl ?_
  refine o_nil ?_
  refine c_code ?_
  refine r_cond rfl (fun h4 => ?_) (fun h4 => ?_) <;> (try simp only [decide_eq_true_eq, decide_eq_false_iff_not, Bool.and_eq_true, Bool.or_eq_true, Bool.not_eq_true', Bool.and_eq_false_iff, Bool.or_eq_false_iff, Bool.not_eq_false', Bool.not_eq_true, Bool.not_eq_false, Bool.true_eq_false, Bool.false_eq_true, Int.not_lt, Int.not_le, not_and, not_or, ne_eq] at h4)
  · omega
  · refine r_skip ?_
    refine c_code ?_
    refine r_seq ?_
    refine r_region (id := 3) ?_
    refine o_give (g_loadF (evv rfl) (by rfl) (by rfl)) rfl rfl ?_
    (refine o_call rfl _ (Ent.refl _) (ROpEnc_c _ _ (by assumption)) rfl ?_; rintro _ _ ⟨v, rfl, rfl⟩)
    refine o_give (g_move (evv rfl)) rfl rfl ?_
    refine o_give (g_extract (evv rfl) (by rfl)) rfl rfl ?_
    refine o_give (g_extract (evv rfl) (by rfl)) rfl rfl ?_
    refine o_give (g_assign (evv rfl)) rfl rfl ?_
    refine o_give (g_assign (evv rfl)) rfl rfl ?_
    refine o_nil ?_
    refine c_code ?_
    refine r_seq ?_
    refine r_seq ?_
    refine r_region (id := 4) ?_
    refine o_give (g_move (evv rfl)) rfl rfl ?_
    refine o_give (g_bin (evv rfl) (evv rfl) (by rfl)) rfl rfl ?_
    refine o_nil ?_
    refine c_code ?_
    simp only [if_neg h2]
    refine r_cond_false rfl ?_
    refine r_skip ?_
    refine c_code ?_
    refine r_seq ?_
    refine r_seq ?_
    refine r_region (id := 6) ?_
    refine o_give (g_move (evv rfl)) rfl rfl ?_
    refine o_give (g_nil (evv rfl)) rfl rfl ?_
    refine o_give (g_fld (evv rfl)) (by first | (simp only [Nat.zero_add, Nat.reduceAdd]; rfl) | rfl) rfl ?_
    refine o_give (g_loadGt (evv rfl) (by rfl)) rfl rfl ?_
    refine o_give (g_bin (evv rfl) (evv rfl) (by rfl)) rfl rfl ?_
    refine o_nil ?_
    refine c_code ?_
    refine r_cond rfl (fun h5 => ?_) (fun h5 => ?_) <;> (try simp only [decide_eq_true_eq, decide_eq_false_iff_not, Bool.and_eq_true, Bool.or_eq_true, Bool.not_eq_true', Bool.and_eq_false_iff, Bool.or_eq_false_iff, Bool.not_eq_false', Bool.not_eq_true, Bool.not_eq_false, Bool.true_eq_false, Bool.false_eq_true, Int.not_lt, Int.not_le, not_and, not_or, ne_eq] at h5)
    · omega
    · refine r_skip ?_
      refine c_code ?_
      refine r_seq ?_
      refine r_region (id := 8) ?_
      refine o_give (g_move (evv rfl)) rfl rfl ?_
      refine o_give (g_nil (evv rfl)) rfl rfl ?_
      refine o_give (g_fld (evv rfl)) (by first | (simp only [Nat.zero_add, Nat.reduceAdd]; rfl) | rfl) rfl ?_
      refine o_give (g_loadGt (evv rfl) (by rfl)) rfl rfl ?_
      refine o_giveN (g_bin (evv rfl) (evv rfl) (by rfl)) (by simp only [inR]; omega) rfl ?_
      refine o_give (g_nil (evv rfl)) rfl rfl ?_
      refine o_give (g_fld (evv rfl)) (by first | (simp only [Nat.zero_add, Nat.reduceAdd]; rfl) | rfl) rfl ?_
      refine o_storeGt (evv rfl) (evv rfl) (by rfl) ?_
      refine o_nil ?_
      refine c_code ?_
      refine r_seq ?_
      refine r_region (id := 9) ?_
      refine o_give (g_move (evv rfl)) rfl rfl ?_
      refine o_give (g_loadF (evv rfl) (by rfl) (by rfl)) rfl rfl ?_
      refine o_give (g_nil (evv rfl)) rfl rfl ?_
      refine o_give (g_fld (evv rfl)) (by first | (simp only [Nat.zero_add, Nat.reduceAdd]; rfl) | rfl) rfl ?_
      refine o_storeA (evv rfl) (evv rfl) (by first | rfl | assumption | exact LenC.h _ | (simp [bys, *]; done) | fail) (by first | (intro _ _ _; exact bys_one _) | exact AllOne.h | (intro _ _ _ u hu; simp at hu; rcases hu with rfl | rfl | rfl | rfl | rfl | rfl | rfl | rfl <;> rfl) | fail) (by rfl) (by rfl) ?_
      refine o_nil ?_
      refine c_code ?_
      refine r_seq ?_
      refine r_region (id := 10) ?_
      refine o_give (g_move (evv rfl)) rfl rfl ?_
      (refine o_call rfl _ (PickR.ent (K := blk c)) (sent_c _ _ _ _ _ _ _ (by assumption) (by assumption)) rfl ?_; rintro _ _ ⟨vs, hvs, rfl⟩)
      refine o_give (g_assign (evv rfl)) rfl rfl ?_
      refine o_give (g_assign (evv rfl)) rfl rfl ?_
      refine o_nil ?_
      refine c_code ?_
      rename_i u
      first | refine r_ret (rs := [.tmp 4, .tmp 5]) rfl rfl _ ((Lay.ent (L' := blk c ⟨rcC id n (num + 1) 4 o', 54⟩ :: sl u (msgR (reqL id vs)) :: rom (reqRom ⟨id, num + 1, o'⟩ vs) :: L))) ?_ | refine c_end (rs := [.tmp 4, .tmp 5]) rfl rfl _ ((Lay.ent (L' := blk c ⟨rcC id n (num + 1) 4 o', 54⟩ :: sl u (msgR (reqL id vs)) :: rom (reqRom ⟨id, num + 1, o'⟩ vs) :: L))) ?_
      exact ⟨u, vs, rfl, hvs, rfl⟩
theorem rTick0_c (L : List Atom) (c : Nat) (id n num : Int) (o : OpS) : Fn Try.prog 17 [.pointer (some ⟨c, 0, none⟩)] (blk c ⟨rcC id n num 0 o, 54⟩ :: L) fun v L' => v = .slice none 0 0 ∧ L' = blk c ⟨rcC id n num 0 o, 54⟩ :: L := by
  refine fn_intro Try.func17 rfl Try.ntmps17 rfl (fun W0 => ?_)
  simp only [argE]
  refine r_seq ?_
  refine r_region (id := 0) ?_
  refine o_give (g_assign (evv rfl)) rfl rfl ?_
  refine o_nil ?_
  refine c_code ?_
  refine r_seq ?_
  refine r_seq ?_
  refine r_region (id := 1) ?_
  refine o_give (g_move (evv rfl)) rfl rfl ?_
  refine o_give (g_nil (evv rfl)) rfl rfl ?_
  refine o_give (g_fld (evv rfl)) (by first | (simp only [Nat.zero_add, Nat.reduceAdd]; rfl) | rfl) rfl ?_
  refine o_give (g_loadGt (evv rfl) (by rfl)) rfl rfl ?_
  refine o_give (g_bin (evv rfl) (evv rfl) (by rfl)) rfl rfl ?_
  refine o_nil ?_
  refine c_code ?_
  refine r_cond_true rfl ?_
  refine r_seq ?_
  refine r_region (id := 2) ?_
  refine o_give (g_assign (evv rfl)) rfl rfl ?_
  refine o_nil ?_
  refine c_code ?_
  first | refine r_ret (rs := [.tmp 2]) rfl rfl _ (Ent.refl _) ?_ | refine c_end (rs := [.tmp 2]) rfl rfl _ (Ent.refl _) ?_
  exact ⟨rfl, rfl⟩
theorem rTick2_c (L : List Atom) (c : Nat) (id n num t : Int) (o : OpS) (h1 : 2 ≤ t) (h2 : t ≤ 4) : Fn Try.prog 17 [.pointer (some ⟨c, 0, none⟩)] (blk c ⟨rcC id n num t o, 54⟩ :: L) fun v L' => v = .slice none 0 0 ∧ L' = blk c ⟨rcC id n num (t - 1) o, 54⟩ :: L := by
  refine fn_intro Try.func17 rfl Try.ntmps17 rfl (fun W0 => ?_)
  simp only [argE]
  refine r_seq ?_
  refine r_region (id := 0) ?_
  refine o_give (g_assign (evv rfl)) rfl rfl ?_
  refine o_nil ?_
  refine c_code ?_
  refine r_seq ?_
  refine r_seq ?_
  refine r_region (id := 1) ?_
  refine o_give (g_move (evv rfl)) rfl rfl ?_
  refine o_give (g_nil (evv rfl)) rfl rfl ?_
  refine o_give (g_fld (evv rfl)) (by first | (simp only [Nat.zero_add, Nat.reduceAdd]; rfl) | rfl) rfl ?_
  refine o_give (g_loadGt (evv rfl) (by rfl)) rfl rfl ?_
  refine o_give (g_bin (evv rfl) (evv rfl) (by rfl)) rfl rfl ?_
  refine o_nil ?_
  refine c_code ?_
  refine r_cond rfl (fun h3 => ?_) (fun h3 => ?_) <;> (try simp only [decide_eq_true_eq, decide_eq_false_iff_not, Bool.and_eq_true, Bool.or_eq_true, Bool.not_eq_true', Bool.and_eq_false_iff, Bool.or_eq_false_iff, Bool.not_eq_false', Bool.not_eq_true, Bool.not_eq_false, Bool.true_eq_false, Bool.false_eq_true, Int.not_lt, Int.not_le, not_and, not_or, ne_eq] at h3)
  · omega
  · refine r_skip ?_
    refine c_code ?_
    refine r_seq ?_
    refine r_seq ?_
    refine r_region (id := 3) ?_
    refine o_give (g_move (evv rfl)) rfl rfl ?_
    refine o_give (g_nil (evv rfl)) rfl rfl ?_
    refine o_give (g_fld (evv rfl)) (by first | (simp only [Nat.zero_add, Nat.reduceAdd]; rfl) | rfl) rfl ?_
    refine o_give (g_loadGt (evv rfl) (by rfl)) rfl rfl ?_
    refine o_give (g_bin (evv rfl) (evv rfl) (by rfl)) rfl rfl ?_
    refine o_nil ?_
    refine c_code ?_
    refine r_cond rfl (fun h4 => ?_) (fun h4 => ?_) <;> (try simp only [decide_eq_true_eq, decide_eq_false_iff_not, Bool.and_eq_true, Bool.or_eq_true, Bool.not_eq_true', Bool.and_eq_false_iff, Bool.or_eq_false_iff, Bool.not_eq_false', Bool.not_eq_true, Bool.not_eq_false, Bool.true_eq_false, Bool.false_eq_true, Int.not_lt, Int.not_le, not_and, not_or, ne_eq] at h4)
    · omega
    · refine r_skip ?_
      refine c_code ?_
      refine r_seq ?_
      refine r_region (id := 5) ?_
      refine o_give (g_move (evv rfl)) rfl rfl ?_
      refine o_give (g_nil (evv rfl)) rfl rfl ?_
      refine o_give (g_fld (evv rfl)) (by first | (simp only [Nat.zero_add, Nat.reduceAdd]; rfl) | rfl) rfl ?_
      refine o_give (g_loadGt (evv rfl) (by rfl)) rfl rfl ?_
      refine o_giveN (g_bin (evv rfl) (evv rfl) (by rfl)) (by simp only [inR]; omega) rfl ?_
      refine o_give (g_nil (evv rfl)) rfl rfl ?_
      refine o_give (g_fld (evv rfl)) (by first | (simp only [Nat.zero_add, Nat.reduceAdd]; rfl) | rfl) rfl ?_
      refine o_storeGt (evv rfl) (evv rfl) (by rfl) ?_
      refine o_nil ?_
      refine c_code ?_
      refine r_seq ?_
      refine r_region (id := 6) ?_
      refine o_give (g_assign (evv rfl)) rfl rfl ?_
      refine o_nil ?_
      refine c_code ?_
      first | refine r_ret (rs := [.tmp 2]) rfl rfl _ (Ent.refl _) ?_ | refine c_end (rs := [.tmp 2]) rfl rfl _ (Ent.refl _) ?_
      exact ⟨rfl, rfl⟩
theorem rTick1_c (L : List Atom) (c : Nat) (id n num : Int) (o : OpS) (hi : 1 ≤ id ∧ id ≤ 8) (hn : n = 3 ∨ n = 5 ∨ n = 7) : Fn Try.prog 17 [.pointer (some ⟨c, 0, none⟩)] (blk c ⟨rcC id n num 1 o, 54⟩ :: L) fun v L' => ∃ vs, (vs.length : Int) = n ∧ L' = blk c ⟨rcC id n num 4 o, 54⟩ :: sl v (msgR (reqL id vs)) :: rom (reqRom ⟨id, num, o⟩ vs) :: L := by
  refine fn_intro Try.func17 rfl Try.ntmps17 rfl (fun W0 => ?_)
  simp only [argE]
  refine r_seq ?_
  refine r_region (id := 0) ?_
  refine o_give (g_assign (evv rfl)) rfl rfl ?_
  refine o_nil ?_
  refine c_code ?_
  refine r_seq ?_
  refine r_seq ?_
  refine r_region (id := 1) ?_
  refine o_give (g_move (evv rfl)) rfl rfl ?_
  refine o_give (g_nil (evv rfl)) rfl rfl ?_
  refine o_give (g_fld (evv rfl)) (by first | (simp only [Nat.zero_add, Nat.reduceAdd]; rfl) | rfl) rfl ?_
  refine o_give (g_loadGt (evv rfl) (by rfl)) rfl rfl ?_
  refine o_give (g_bin (evv rfl) (evv rfl) (by rfl)) rfl rfl ?_
  refine o_nil ?_
  refine c_code ?_
  refine r_cond_false rfl ?_
  refine r_skip ?_
  refine c_code ?_
  refine r_seq ?_
  refine r_seq ?_
  refine r_region (id := 3) ?_
  refine o_give (g_move (evv rfl)) rfl rfl ?_
  refine o_give (g_nil (evv rfl)) rfl rfl ?_
  refine o_give (g_fld (evv rfl)) (by first | (simp only [Nat.zero_add, Nat.reduceAdd]; rfl) | rfl) rfl ?_
  refine o_give (g_loadGt (evv rfl) (by rfl)) rfl rfl ?_
  refine o_give (g_bin (evv rfl) (evv rfl) (by rfl)) rfl rfl ?_
  refine o_nil ?_
  refine c_code ?_
  refine r_cond_true rfl ?_
  refine r_seq ?_
  refine r_region (id := 4) ?_
  refine o_give (g_move (evv rfl)) rfl rfl ?_
  (refine o_call rfl _ (PickR.ent (K := blk c)) (sent_c _ _ _ _ _ _ _ (by assumption) (by assumption)) rfl ?_; rintro _ _ ⟨vs, hvs, rfl⟩)
  refine o_give (g_assign (evv rfl)) rfl rfl ?_
  refine o_nil ?_
  refine c_code ?_
  rename_i v
  first | refine r_ret (rs := [.tmp 2]) rfl rfl _ (Ent.refl _) ?_ | refine c_end (rs := [.tmp 2]) rfl rfl _ (Ent.refl _) ?_
  exact ⟨vs, hvs, rfl⟩
/-- numbers around the edge of a machine's word -/
theorem wrap_to (z id : Int) (hz : inR .i64 z) (hi : 1 ≤ id ∧ id ≤ 8) : (IntKind.i64.wrap (z - 100) = id) ↔ z = 100 + id := by
  simp only [inR] at hz
  simp [IntKind.wrap, IntKind.bits, IntKind.signed]
  split <;> omega
theorem rHdl0_c (L : List Atom) (c : Nat) (id n num left t : Int) (o : OpS) (m : MsgF) (hto : inR .i64 m.to_) (k : CliOk id n num left t) (h : ¬ ansP id num t m) : Fn Try.prog 18 [.pointer (some ⟨c, 0, none⟩), agg (msgC m)] (blk c ⟨rcC id n num t o, 54⟩ :: L) fun v L' => v = .tuple #[agg [.int .i64 0, .bool false, .int .i64 0, str [], .slice none 0 0], .bool false] ∧ L' = blk c ⟨rcC id n num t o, 54⟩ :: L := by
  obtain ⟨hi, hn, hu, ht, hl, he⟩ := k
  unfold ansP at h
  have hw := wrap_to m.to_ id hto hi
  refine fn_intro Try.func18 rfl Try.ntmps18 rfl (fun W0 => ?_)
  simp only [argE]
  refine r_seq ?_
  refine r_region (id := 0) ?_
  refine o_boxA (evv rfl) rfl (fun _ => ?_)
  refine o_alloc rfl rfl (fun _ => ?_)
  refine o_give (g_assign (evv rfl)) rfl rfl ?_
  refine o_nil ?_
  refine c_code ?_
  refine r_seq ?_
  refine r_seq ?_
  rename_i q r
  repeat (first | refine r_seq ?_ | refine c_code ?_ | refine c_blk ?_ | refine r_block ?_ | refine r_skip ?_)
  refine r_held (id := 1) ([blk q ⟨msgC m, 37⟩, blk c ⟨rcC id n num t o, 54⟩]) Mixed.h ?_
  refine h_give (i := 0) (by kernel_rfl) rfl (g_move (evv rfl)) rfl rfl ?_
  refine h_give (i := 1) (by kernel_rfl) rfl (g_nil (evv rfl)) rfl rfl ?_
  refine h_give (i := 2) (by kernel_rfl) rfl (g_fld (evv rfl)) (by first | (simp only [Nat.zero_add, Nat.reduceAdd]; rfl) | rfl) rfl ?_
  refine h_give (i := 3) (by kernel_rfl) rfl (g_loadGt (evv rfl) (by rfl)) rfl rfl ?_
  refine h_give (i := 4) (by kernel_rfl) rfl (g_bin (evv rfl) (evv rfl) (by rfl)) rfl rfl ?_
  refine h_give (i := 5) (by kernel_rfl) rfl (g_move (evv rfl)) rfl rfl ?_
  refine h_lazy (i := 6) (by kernel_rfl) rfl rfl (fun hg => g_fld (evv rfl)) rfl rfl ?_
  refine h_lazy (i := 7) (by kernel_rfl) rfl rfl (fun hg => g_load (evg rfl hg) (by rfl) (by rfl)) rfl rfl ?_
  refine h_lazy (i := 8) (by kernel_rfl) rfl rfl (fun hg => g_bin (by first | exact evv rfl | exact evg rfl (by rw [hp]; rfl) | exact evg rfl hp | exact evg rfl hg | exact evg rfl (by first | (simp_all; done) | (simp [*]; done) | fail) | fail) (by first | exact evv rfl | exact evg rfl (by rw [hp]; rfl) | exact evg rfl hp | exact evg rfl hg | exact evg rfl (by first | (simp_all; done) | (simp [*]; done) | fail) | fail) (by rfl)) rfl rfl ?_
  refine h_give (i := 9) (by kernel_rfl) rfl (g_pick_or (evv rfl) (evv rfl) (fun hp => (by first | exact evv rfl | exact evg rfl (by rw [hp]; rfl) | exact evg rfl hp | exact evg rfl hg | exact evg rfl (by first | (simp_all; done) | (simp [*]; done) | fail) | fail))) rfl rfl ?_
  refine h_give (i := 10) (by kernel_rfl) rfl (g_move (evv rfl)) rfl rfl ?_
  refine h_lazy (i := 11) (by kernel_rfl) rfl rfl (fun hg => g_fld (evv rfl)) rfl rfl ?_
  refine h_lazy (i := 12) (by kernel_rfl) rfl rfl (fun hg => g_load (evg rfl hg) (by rfl) (by rfl)) rfl rfl ?_
  refine h_lazy (i := 13) (by kernel_rfl) rfl rfl (fun hg => g_bin (by first | exact evv rfl | exact evg rfl (by rw [hp]; rfl) | exact evg rfl hp | exact evg rfl hg | exact evg rfl (by first | (simp_all; done) | (simp [*]; done) | fail) | fail) (by first | exact evv rfl | exact evg rfl (by rw [hp]; rfl) | exact evg rfl hp | exact evg rfl hg | exact evg rfl (by first | (simp_all; done) | (simp [*]; done) | fail) | fail) (by rfl)) rfl rfl ?_
  refine h_lazy (i := 14) (by kernel_rfl) rfl rfl (fun hg => g_move (by first | exact evv rfl | exact evg rfl (by rw [hp]; rfl) | exact evg rfl hp | exact evg rfl hg | exact evg rfl (by first | (simp_all; done) | (simp [*]; done) | fail) | fail)) rfl rfl ?_
  refine h_lazy (i := 15) (by kernel_rfl) rfl rfl (fun hg => g_nil (by first | exact evv rfl | exact evg rfl (by rw [hp]; rfl) | exact evg rfl hp | exact evg rfl hg | exact evg rfl (by first | (simp_all; done) | (simp [*]; done) | fail) | fail)) rfl rfl ?_
  refine h_lazy (i := 16) (by kernel_rfl) rfl rfl (fun hg => g_fld (evg rfl hg)) rfl rfl ?_
  refine h_lazy (i := 17) (by kernel_rfl) rfl rfl (fun hg => g_load (evg rfl hg) (by rfl) (by rfl)) rfl rfl ?_
  refine h_lazy (i := 18) (by kernel_rfl) rfl rfl (fun hg => g_bin (by first | exact evv rfl | exact evg rfl (by rw [hp]; rfl) | exact evg rfl hp | exact evg rfl hg | exact evg rfl (by first | (simp_all; done) | (simp [*]; done) | fail) | fail) (by first | exact evv rfl | exact evg rfl (by rw [hp]; rfl) | exact evg rfl hp | exact evg rfl hg | exact evg rfl (by first | (simp_all; done) | (simp [*]; done) | fail) | fail) (by rfl)) rfl rfl ?_
  refine h_give (i := 19) (by kernel_rfl) rfl (g_pick_or (evv rfl) (evv rfl) (fun hp => (by first | exact evv rfl | exact evg rfl (by rw [hp]; rfl) | exact evg rfl hp | exact evg rfl hg | exact evg rfl (by first | (simp_all; done) | (simp [*]; done) | fail) | fail))) rfl rfl ?_
  refine h_give (i := 20) (by kernel_rfl) rfl (g_move (evv rfl)) rfl rfl ?_
  refine h_lazy (i := 21) (by kernel_rfl) rfl rfl (fun hg => g_fld (evv rfl)) rfl rfl ?_
  refine h_lazy (i := 22) (by kernel_rfl) rfl rfl (fun hg => g_load (evg rfl hg) (by rfl) (by rfl)) rfl rfl ?_
  refine h_lazy (i := 23) (by kernel_rfl) rfl rfl (fun hg => g_move (by first | exact evv rfl | exact evg rfl (by rw [hp]; rfl) | exact evg rfl hp | exact evg rfl hg | exact evg rfl (by first | (simp_all; done) | (simp [*]; done) | fail) | fail)) rfl rfl ?_
  refine h_lazy (i := 24) (by kernel_rfl) rfl rfl (fun hg => g_nil (by first | exact evv rfl | exact evg rfl (by rw [hp]; rfl) | exact evg rfl hp | exact evg rfl hg | exact evg rfl (by first | (simp_all; done) | (simp [*]; done) | fail) | fail)) rfl rfl ?_
  refine h_lazy (i := 25) (by kernel_rfl) rfl rfl (fun hg => g_fld (evg rfl hg)) rfl rfl ?_
  refine h_lazy (i := 26) (by kernel_rfl) rfl rfl (fun hg => g_loadGt (evg rfl hg) (by rfl)) rfl rfl ?_
  refine h_lazy (i := 27) (by kernel_rfl) rfl rfl (fun hg => g_bin (by first | exact evv rfl | exact evg rfl (by rw [hp]; rfl) | exact evg rfl hp | exact evg rfl hg | exact evg rfl (by first | (simp_all; done) | (simp [*]; done) | fail) | fail) (by first | exact evv rfl | exact evg rfl (by rw [hp]; rfl) | exact evg rfl hp | exact evg rfl hg | exact evg rfl (by first | (simp_all; done) | (simp [*]; done) | fail) | fail) (by rfl)) rfl rfl ?_
  refine h_give (i := 28) (by kernel_rfl) rfl (g_pick_or (evv rfl) (evv rfl) (fun hp => (by first | exact evv rfl | exact evg rfl (by rw [hp]; rfl) | exact evg rfl hp | exact evg rfl hg | exact evg rfl (by first | (simp_all; done) | (simp [*]; done) | fail) | fail))) rfl rfl ?_
  refine h_done (by kernel_rfl) (Lay.ent) ?_
  refine c_code ?_
  refine r_cond rfl (fun h4 => ?_) (fun h4 => ?_) <;> (try simp only [decide_eq_true_eq, decide_eq_false_iff_not, Bool.and_eq_true, Bool.or_eq_true, Bool.not_eq_true', Bool.and_eq_false_iff, Bool.or_eq_false_iff, Bool.not_eq_false', Bool.not_eq_true, Bool.not_eq_false, Bool.true_eq_false, Bool.false_eq_true, Int.not_lt, Int.not_le, not_and, not_or, ne_eq] at h4)
  · refine r_seq ?_
    refine r_region (id := 2) ?_
    refine o_give (v := agg [(Go.Value.int Go.IntKind.i64 0), (Go.Value.bool false), (Go.Value.int Go.IntKind.i64 0), (Go.Value.string { data := #[] }), (Go.Value.slice none 0 0)]) (g_buildC rfl (by rfl)) rfl rfl ?_
    refine o_storeW (evv rfl) (evv rfl) (by first | rfl | assumption | exact LenC.h _ | (simp [bys, *]; done) | fail) (by first | (intro _ _ _; exact bys_one _) | exact AllOne.h | (intro _ _ _ u hu; simp at hu; rcases hu with rfl | rfl | rfl | rfl | rfl | rfl | rfl | rfl <;> rfl) | fail) (by first | rfl | exact (LenC.h _).trans rfl | exact (LenC.h _).trans (LenC.h _).symm | (simp [bys, *]; done) | (simp only [bys, List.length_map, *]; rfl) | fail) ?_
    refine o_give (g_assign (evv rfl)) rfl rfl ?_
    refine o_nil ?_
    refine c_code ?_
    first | refine r_retC (rs := [.cell 4 35, .tmp 5]) rfl (by first | exact ro_agg rfl rfl (by first | rfl | exact LenC.h _ | (simp [bys, *]; done)) (ro_tmp rfl ro_nil) | exact ro_cell rfl rfl rfl (ro_tmp rfl ro_nil)) _ ((Lay.ent (L' := blk c ⟨rcC id n num t o, 54⟩ :: L))) ?_ | refine c_endC (rs := [.cell 4 35, .tmp 5]) rfl (by first | exact ro_agg rfl rfl (by first | rfl | exact LenC.h _ | (simp [bys, *]; done)) (ro_tmp rfl ro_nil) | exact ro_cell rfl rfl rfl (ro_tmp rfl ro_nil)) _ ((Lay.ent (L' := blk c ⟨rcC id n num t o, 54⟩ :: L))) ?_
    exact ⟨rfl, rfl⟩
  · exact absurd (by omega) h
theorem rHdl1_c (L : List Atom) (c : Nat) (id n num left t : Int) (o : OpS) (m : MsgF) (hto : inR .i64 m.to_) (ns : List (List UInt8)) [rn : Rd L m.names (mrow str 9 ns)] (k : CliOk id n num left t) (h : ansP id num t m) : Fn Try.prog 18 [.pointer (some ⟨c, 0, none⟩), agg (msgC m)] (blk c ⟨rcC id n num t o, 54⟩ :: L) fun v L' => v = .tuple #[agg [.int .i64 m.code, .bool m.dir, .int .i64 m.size, str m.rdata, m.names], .bool true] ∧ L' = blk c ⟨rcC id n num 0 o, 54⟩ :: L := by
  obtain ⟨hi, hn, hu, ht, hl, he⟩ := k
  obtain ⟨h1, h2, h3, h4⟩ := h
  have hw := wrap_to m.to_ id hto hi
  refine fn_intro Try.func18 rfl Try.ntmps18 rfl (fun W0 => ?_)
  simp only [argE]
  refine r_seq ?_
  refine r_region (id := 0) ?_
  refine o_boxA (evv rfl) rfl (fun _ => ?_)
  refine o_alloc rfl rfl (fun _ => ?_)
  refine o_give (g_assign (evv rfl)) rfl rfl ?_
  refine o_nil ?_
  refine c_code ?_
  refine r_seq ?_
  refine r_seq ?_
  rename_i q r
  repeat (first | refine r_seq ?_ | refine c_code ?_ | refine c_blk ?_ | refine r_block ?_ | refine r_skip ?_)
  refine r_held (id := 1) ([blk q ⟨msgC m, 37⟩, blk c ⟨rcC id n num t o, 54⟩]) Mixed.h ?_
  refine h_give (i := 0) (by kernel_rfl) rfl (g_move (evv rfl)) rfl rfl ?_
  refine h_give (i := 1) (by kernel_rfl) rfl (g_nil (evv rfl)) rfl rfl ?_
  refine h_give (i := 2) (by kernel_rfl) rfl (g_fld (evv rfl)) (by first | (simp only [Nat.zero_add, Nat.reduceAdd]; rfl) | rfl) rfl ?_
  refine h_give (i := 3) (by kernel_rfl) rfl (g_loadGt (evv rfl) (by rfl)) rfl rfl ?_
  refine h_give (i := 4) (by kernel_rfl) rfl (g_bin (evv rfl) (evv rfl) (by rfl)) rfl rfl ?_
  refine h_give (i := 5) (by kernel_rfl) rfl (g_move (evv rfl)) rfl rfl ?_
  refine h_lazy (i := 6) (by kernel_rfl) rfl rfl (fun hg => g_fld (evv rfl)) rfl rfl ?_
  refine h_lazy (i := 7) (by kernel_rfl) rfl rfl (fun hg => g_load (evg rfl hg) (by rfl) (by rfl)) rfl rfl ?_
  refine h_lazy (i := 8) (by kernel_rfl) rfl rfl (fun hg => g_bin (by first | exact evv rfl | exact evg rfl (by rw [hp]; rfl) | exact evg rfl hp | exact evg rfl hg | exact evg rfl (by first | (simp_all; done) | (simp [*]; done) | fail) | fail) (by first | exact evv rfl | exact evg rfl (by rw [hp]; rfl) | exact evg rfl hp | exact evg rfl hg | exact evg rfl (by first | (simp_all; done) | (simp [*]; done) | fail) | fail) (by rfl)) rfl rfl ?_
  refine h_give (i := 9) (by kernel_rfl) rfl (g_pick_or (evv rfl) (evv rfl) (fun hp => (by first | exact evv rfl | exact evg rfl (by rw [hp]; rfl) | exact evg rfl hp | exact evg rfl hg | exact evg rfl (by first | (simp_all; done) | (simp [*]; done) | fail) | fail))) rfl rfl ?_
  refine h_give (i := 10) (by kernel_rfl) rfl (g_move (evv rfl)) rfl rfl ?_
  refine h_lazy (i := 11) (by kernel_rfl) rfl rfl (fun hg => g_fld (evv rfl)) rfl rfl ?_
  refine h_lazy (i := 12) (by kernel_rfl) rfl rfl (fun hg => g_load (evg rfl hg) (by rfl) (by rfl)) rfl rfl ?_
  refine h_lazy (i := 13) (by kernel_rfl) rfl rfl (fun hg => Gives.as (g_bin (by first | exact evv rfl | exact evg rfl (by rw [hp]; rfl) | exact evg rfl hp | exact evg rfl hg | exact evg rfl (by first | (simp_all; done) | (simp [*]; done) | fail) | fail) (by first | exact evv rfl | exact evg rfl (by rw [hp]; rfl) | exact evg rfl hp | exact evg rfl hg | exact evg rfl (by first | (simp_all; done) | (simp [*]; done) | fail) | fail) (by rfl)) (by rw [wrap_in (by simp only [inR]; omega)])) rfl rfl ?_
  refine h_lazy (i := 14) (by kernel_rfl) rfl rfl (fun hg => g_move (by first | exact evv rfl | exact evg rfl (by rw [hp]; rfl) | exact evg rfl hp | exact evg rfl hg | exact evg rfl (by first | (simp_all; done) | (simp [*]; done) | fail) | fail)) rfl rfl ?_
  refine h_lazy (i := 15) (by kernel_rfl) rfl rfl (fun hg => g_nil (by first | exact evv rfl | exact evg rfl (by rw [hp]; rfl) | exact evg rfl hp | exact evg rfl hg | exact evg rfl (by first | (simp_all; done) | (simp [*]; done) | fail) | fail)) rfl rfl ?_
  refine h_lazy (i := 16) (by kernel_rfl) rfl rfl (fun hg => g_fld (evg rfl hg)) rfl rfl ?_
  refine h_lazy (i := 17) (by kernel_rfl) rfl rfl (fun hg => g_load (evg rfl hg) (by rfl) (by rfl)) rfl rfl ?_
  refine h_lazy (i := 18) (by kernel_rfl) rfl rfl (fun hg => g_bin (by first | exact evv rfl | exact evg rfl (by rw [hp]; rfl) | exact evg rfl hp | exact evg rfl hg | exact evg rfl (by first | (simp_all; done) | (simp [*]; done) | fail) | fail) (by first | exact evv rfl | exact evg rfl (by rw [hp]; rfl) | exact evg rfl hp | exact evg rfl hg | exact evg rfl (by first | (simp_all; done) | (simp [*]; done) | fail) | fail) (by rfl)) rfl rfl ?_
  refine h_give (i := 19) (by kernel_rfl) rfl (g_pick_or (evv rfl) (evv rfl) (fun hp => (by first | exact evv rfl | exact evg rfl (by rw [hp]; rfl) | exact evg rfl hp | exact evg rfl hg | exact evg rfl (by first | (simp_all; done) | (simp [*]; done) | fail) | fail))) rfl rfl ?_
  refine h_give (i := 20) (by kernel_rfl) rfl (g_move (evv rfl)) rfl rfl ?_
  refine h_lazy (i := 21) (by kernel_rfl) rfl rfl (fun hg => g_fld (evv rfl)) rfl rfl ?_
  refine h_lazy (i := 22) (by kernel_rfl) rfl rfl (fun hg => g_load (evg rfl hg) (by rfl) (by rfl)) rfl rfl ?_
  refine h_lazy (i := 23) (by kernel_rfl) rfl rfl (fun hg => g_move (by first | exact evv rfl | exact evg rfl (by rw [hp]; rfl) | exact evg rfl hp | exact evg rfl hg | exact evg rfl (by first | (simp_all; done) | (simp [*]; done) | fail) | fail)) rfl rfl ?_
  refine h_lazy (i := 24) (by kernel_rfl) rfl rfl (fun hg => g_nil (by first | exact evv rfl | exact evg rfl (by rw [hp]; rfl) | exact evg rfl hp | exact evg rfl hg | exact evg rfl (by first | (simp_all; done) | (simp [*]; done) | fail) | fail)) rfl rfl ?_
  refine h_lazy (i := 25) (by kernel_rfl) rfl rfl (fun hg => g_fld (evg rfl hg)) rfl rfl ?_
  refine h_lazy (i := 26) (by kernel_rfl) rfl rfl (fun hg => g_loadGt (evg rfl hg) (by rfl)) rfl rfl ?_
  refine h_lazy (i := 27) (by kernel_rfl) rfl rfl (fun hg => g_bin (by first | exact evv rfl | exact evg rfl (by rw [hp]; rfl) | exact evg rfl hp | exact evg rfl hg | exact evg rfl (by first | (simp_all; done) | (simp [*]; done) | fail) | fail) (by first | exact evv rfl | exact evg rfl (by rw [hp]; rfl) | exact evg rfl hp | exact evg rfl hg | exact evg rfl (by first | (simp_all; done) | (simp [*]; done) | fail) | fail) (by rfl)) rfl rfl ?_
  refine h_give (i := 28) (by kernel_rfl) rfl (g_pick_or (evv rfl) (evv rfl) (fun hp => (by first | exact evv rfl | exact evg rfl (by rw [hp]; rfl) | exact evg rfl hp | exact evg rfl hg | exact evg rfl (by first | (simp_all; done) | (simp [*]; done) | fail) | fail))) rfl rfl ?_
  refine h_done (by kernel_rfl) (Lay.ent) ?_
  refine c_code ?_
  refine r_cond rfl (fun h5 => ?_) (fun h5 => ?_) <;> (try simp only [decide_eq_true_eq, decide_eq_false_iff_not, Bool.and_eq_true, Bool.or_eq_true, Bool.not_eq_true', Bool.and_eq_false_iff, Bool.or_eq_false_iff, Bool.not_eq_false', Bool.not_eq_true, Bool.not_eq_false, Bool.true_eq_false, Bool.false_eq_true, Int.not_lt, Int.not_le, not_and, not_or, ne_eq] at h5)
  · omega
  · refine r_skip ?_
    refine c_code ?_
    refine r_seq ?_
    refine r_region (id := 3) ?_
    refine o_give (g_move (evv rfl)) rfl rfl ?_
    refine o_give (g_nil (evv rfl)) rfl rfl ?_
    refine o_give (g_fld (evv rfl)) (by first | (simp only [Nat.zero_add, Nat.reduceAdd]; rfl) | rfl) rfl ?_
    refine o_storeGt (evv rfl) (evv rfl) (by rfl) ?_
    refine o_nil ?_
    refine c_code ?_
    refine r_seq ?_
    refine r_region (id := 4) ?_
    refine o_give (g_fld (evv rfl)) (by first | (simp only [Nat.zero_add, Nat.reduceAdd]; rfl) | rfl) rfl ?_
    refine o_give (g_loadPt (evv rfl) (by rfl)) rfl rfl ?_
    refine o_storeW (evv rfl) (evv rfl) (by first | rfl | assumption | exact LenC.h _ | (simp [bys, *]; done) | fail) (by first | (intro _ _ _; exact bys_one _) | exact AllOne.h | (intro _ _ _ u hu; simp at hu; rcases hu with rfl | rfl | rfl | rfl | rfl | rfl | rfl | rfl <;> rfl) | fail) (by first | rfl | exact (LenC.h _).trans rfl | exact (LenC.h _).trans (LenC.h _).symm | (simp [bys, *]; done) | (simp only [bys, List.length_map, *]; rfl) | fail) ?_
    refine o_give (g_assign (evv rfl)) rfl rfl ?_
    refine o_nil ?_
    refine c_code ?_
    first | refine r_retC (rs := [.cell 4 35, .tmp 5]) rfl (by first | exact ro_agg rfl rfl (by first | rfl | exact LenC.h _ | (simp [bys, *]; done)) (ro_tmp rfl ro_nil) | exact ro_cell rfl rfl rfl (ro_tmp rfl ro_nil)) _ ((Lay.ent (L' := blk c ⟨rcC id n num 0 o, 54⟩ :: L))) ?_ | refine c_endC (rs := [.cell 4 35, .tmp 5]) rfl (by first | exact ro_agg rfl rfl (by first | rfl | exact LenC.h _ | (simp [bys, *]; done)) (ro_tmp rfl ro_nil) | exact ro_cell rfl rfl rfl (ro_tmp rfl ro_nil)) _ ((Lay.ent (L' := blk c ⟨rcC id n num 0 o, 54⟩ :: L))) ?_
    exact ⟨rfl, rfl⟩
end VK
