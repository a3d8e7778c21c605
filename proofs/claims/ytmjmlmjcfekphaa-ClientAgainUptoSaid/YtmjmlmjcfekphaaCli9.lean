/- A client's calls: Call, Tick, Waiting, Number. Conditions: few replicas. -/
import Derived.Test.YtmjmlmjcfekphaaCli8
import Derived.Test.YtmjmlmjcfekphaaOpE
namespace VK
open Go Go.Proofs
set_option linter.unusedSimpArgs false
set_option linter.unusedVariables false
set_option maxRecDepth 100000
set_option maxHeartbeats 40000000
def callE (num t : Int) (o : OpS) : Int := if 0 < t then 6 else if longOp o then 1 else if 1099511627776 ≤ num then 8 else 0
structure CliOk (id n num left t : Int) : Prop where
  hi : 1 ≤ id ∧ id ≤ 8
  hn : n = 3 ∨ n = 5 ∨ n = 7
  hu : 0 ≤ num ∧ num ≤ 1099511627776
  ht : 0 ≤ t ∧ t ≤ 4
  hl : 0 ≤ left ∧ left ≤ 4
  he : 0 < t → left = t
theorem CallN_c (L : List Atom) (c : Nat) (id n num left t : Int) (o o' : OpS) (ho : o'.ok) (k : CliOk id n num left t) (h : callE num t o' ≠ 0) : Fn Try.prog 8 [.pointer (some ⟨c, 0, none⟩), agg (opSC o')] (blk c ⟨cliC id n num left (decide (0 < t)) o, 68⟩ :: L) fun v L' => v = .tuple #[.slice none 0 0, .int .i64 (callE num t o')] ∧ L' = blk c ⟨cliC id n num left (decide (0 < t)) o, 68⟩ :: L := by
  obtain ⟨hi, hn, hu, ht, hl, he⟩ := k
  refine fn_intro Try.func8 rfl Try.ntmps8 rfl (fun W0 => ?_)
  simp only [argE]
  refine r_seq ?_
  refine r_region (id := 0) ?_
  refine o_boxA (evv rfl) rfl (fun _ => ?_)
  refine o_give (g_assign (evv rfl)) rfl rfl ?_
  refine o_give (g_assign (evv rfl)) rfl rfl ?_
  refine o_nil ?_
  refine c_code ?_
  refine r_seq ?_
  refine r_region (id := 1) ?_
  refine o_give (g_loadF (evv rfl) (by rfl) (by rfl)) rfl rfl ?_
  (refine o_call rfl _ (Ent.refl _) (OpEnc_c _ _ (by assumption)) rfl ?_; rintro _ _ ⟨v, rfl, rfl⟩)
  refine o_give (g_move (evv rfl)) rfl rfl ?_
  refine o_give (g_extract (evv rfl) (by rfl)) rfl rfl ?_
  refine o_give (g_extract (evv rfl) (by rfl)) rfl rfl ?_
  refine o_give (g_assign (evv rfl)) rfl rfl ?_
  refine o_give (g_assign (evv rfl)) rfl rfl ?_
  refine o_nil ?_
  refine c_code ?_
  refine r_seq ?_
  refine r_block ?_
  refine r_seq ?_
  refine r_region (id := 2) ?_
  refine o_give (g_move (evv rfl)) rfl rfl ?_
  refine o_give (g_pnil TyU.h (evv rfl) (evv rfl) (by simp) (by rfl)) rfl rfl ?_
  refine o_give (g_assign (evv rfl)) rfl rfl ?_
  refine o_nil ?_
  refine c_code ?_
  refine r_cond_false rfl ?_
  refine r_seq ?_
  refine r_region (id := 4) ?_
  refine o_give (g_move (evv rfl)) rfl rfl ?_
  refine o_give (g_nil (evv rfl)) rfl rfl ?_
  refine o_give (g_fld (evv rfl)) rfl rfl ?_
  refine o_give (g_load (evv rfl) (by rfl) (by rfl)) rfl rfl ?_
  refine o_give (g_assign (evv rfl)) rfl rfl ?_
  refine o_nil ?_
  refine c_code ?_
  by_cases h1 : 0 < t
  · rw [callE, if_pos h1]
    simp only [decide_eq_true h1]
    refine r_cond_true rfl ?_
    refine r_seq ?_
    refine r_region (id := 5) ?_
    refine o_give (g_assign (evv rfl)) rfl rfl ?_
    refine o_give (g_assign (evv rfl)) rfl rfl ?_
    refine o_nil ?_
    refine c_code ?_
    first | refine r_ret (rs := [.tmp 4, .tmp 5]) rfl rfl _ ((Lay.ent (L' := blk c ⟨cliC id n num left true o, 68⟩ :: L))) ?_ | refine c_end (rs := [.tmp 4, .tmp 5]) rfl rfl _ ((Lay.ent (L' := blk c ⟨cliC id n num left true o, 68⟩ :: L))) ?_
    exact ⟨rfl, rfl⟩
  · rw [callE, if_neg h1] at h ⊢
    simp only [decide_eq_false h1]
    by_cases h2 : longOp o'
    · simp only [if_pos h2] at h ⊢
      refine r_cond_false rfl ?_
      refine r_seq ?_
      refine r_region (id := 6) ?_
      refine o_give (g_move (evv rfl)) rfl rfl ?_
      refine o_give (g_bin (evv rfl) (evv rfl) (by rfl)) rfl rfl ?_
      refine o_give (g_assign (evv rfl)) rfl rfl ?_
      refine o_nil ?_
      refine c_code ?_
      refine r_cond_true rfl ?_
      refine r_seq ?_
      refine r_region (id := 7) ?_
      refine o_give (g_assign (evv rfl)) rfl rfl ?_
      refine o_give (g_assign (evv rfl)) rfl rfl ?_
      refine o_nil ?_
      refine c_code ?_
      first | refine r_ret (rs := [.tmp 4, .tmp 5]) rfl rfl _ ((Lay.ent (L' := blk c ⟨cliC id n num left false o, 68⟩ :: L))) ?_ | refine c_end (rs := [.tmp 4, .tmp 5]) rfl rfl _ ((Lay.ent (L' := blk c ⟨cliC id n num left false o, 68⟩ :: L))) ?_
      exact ⟨rfl, rfl⟩
    · simp only [if_neg h2] at h ⊢
      by_cases h3 : 1099511627776 ≤ num
      · rw [if_pos h3]
        refine r_cond_false rfl ?_
        refine r_seq ?_
        refine r_region (id := 6) ?_
        refine o_give (g_move (evv rfl)) rfl rfl ?_
        refine o_give (g_bin (evv rfl) (evv rfl) (by rfl)) rfl rfl ?_
        refine o_give (g_assign (evv rfl)) rfl rfl ?_
        refine o_nil ?_
        refine c_code ?_
        refine r_cond_false rfl ?_
        refine r_seq ?_
        refine r_region (id := 8) ?_
        refine o_give (g_move (evv rfl)) rfl rfl ?_
        refine o_give (g_nil (evv rfl)) rfl rfl ?_
        refine o_give (g_fld (evv rfl)) rfl rfl ?_
        refine o_give (g_load (evv rfl) (by rfl) (by rfl)) rfl rfl ?_
        refine o_give (g_bin (evv rfl) (evv rfl) (by rfl)) rfl rfl ?_
        refine o_give (g_assign (evv rfl)) rfl rfl ?_
        refine o_nil ?_
        refine c_code ?_
        refine r_cond rfl (fun h4 => ?_) (fun h4 => ?_) <;> (try simp only [decide_eq_true_eq, decide_eq_false_iff_not, Bool.and_eq_true, Bool.or_eq_true, Bool.not_eq_true', Bool.and_eq_false_iff, Bool.or_eq_false_iff, Bool.not_eq_false', Bool.not_eq_true, Bool.not_eq_false, Bool.true_eq_false, Bool.false_eq_true, Int.not_lt, Int.not_le, not_and, not_or, ne_eq] at h4)
        · refine r_seq ?_
          refine r_region (id := 9) ?_
          refine o_give (g_assign (evv rfl)) rfl rfl ?_
          refine o_give (g_assign (evv rfl)) rfl rfl ?_
          refine o_nil ?_
          refine c_code ?_
          first | refine r_ret (rs := [.tmp 4, .tmp 5]) rfl rfl _ ((Lay.ent (L' := blk c ⟨cliC id n num left false o, 68⟩ :: L))) ?_ | refine c_end (rs := [.tmp 4, .tmp 5]) rfl rfl _ ((Lay.ent (L' := blk c ⟨cliC id n num left false o, 68⟩ :: L))) ?_
          exact ⟨rfl, rfl⟩
        · omega
      · rw [if_neg h3] at h
        exact absurd rfl h
theorem CallY_c (L : List Atom) (c : Nat) (id n num left t : Int) (o o' : OpS) (ho : o'.ok) (k : CliOk id n num left t) (h : callE num t o' = 0) : Fn Try.prog 8 [.pointer (some ⟨c, 0, none⟩), agg (opSC o')] (blk c ⟨cliC id n num left (decide (0 < t)) o, 68⟩ :: L) fun v L' => ∃ u vs, v = .tuple #[u, .int .i64 0] ∧ (vs.length : Int) = n ∧ L' = blk c ⟨cliC id n (num + 1) 4 true o', 68⟩ :: sl u (msgR (reqL id vs)) :: rom (reqRom ⟨id, num + 1, o'⟩ vs) :: L := by
  obtain ⟨hi, hn, hu, ht, hl, he⟩ := k
  refine fn_intro Try.func8 rfl Try.ntmps8 rfl (fun W0 => ?_)
  simp only [argE]
  refine r_seq ?_
  refine r_region (id := 0) ?_
  refine o_boxA (evv rfl) rfl (fun _ => ?_)
  refine o_give (g_assign (evv rfl)) rfl rfl ?_
  refine o_give (g_assign (evv rfl)) rfl rfl ?_
  refine o_nil ?_
  refine c_code ?_
  refine r_seq ?_
  rename_i q
  refine r_region (id := 1) ?_
  refine o_give (g_loadF (evv rfl) (by rfl) (by rfl)) rfl rfl ?_
  (refine o_call rfl _ (Ent.refl _) (OpEnc_c _ _ (by assumption)) rfl ?_; rintro _ _ ⟨v, rfl, rfl⟩)
  refine o_give (g_move (evv rfl)) rfl rfl ?_
  refine o_give (g_extract (evv rfl) (by rfl)) rfl rfl ?_
  refine o_give (g_extract (evv rfl) (by rfl)) rfl rfl ?_
  refine o_give (g_assign (evv rfl)) rfl rfl ?_
  refine o_give (g_assign (evv rfl)) rfl rfl ?_
  refine o_nil ?_
  refine c_code ?_
  refine r_seq ?_
  refine r_block ?_
  refine r_seq ?_
  refine r_region (id := 2) ?_
  refine o_give (g_move (evv rfl)) rfl rfl ?_
  refine o_give (g_pnil TyU.h (evv rfl) (evv rfl) (by simp) (by rfl)) rfl rfl ?_
  refine o_give (g_assign (evv rfl)) rfl rfl ?_
  refine o_nil ?_
  refine c_code ?_
  refine r_cond_false rfl ?_
  refine r_seq ?_
  refine r_region (id := 4) ?_
  refine o_give (g_move (evv rfl)) rfl rfl ?_
  refine o_give (g_nil (evv rfl)) rfl rfl ?_
  refine o_give (g_fld (evv rfl)) rfl rfl ?_
  refine o_give (g_load (evv rfl) (by rfl) (by rfl)) rfl rfl ?_
  refine o_give (g_assign (evv rfl)) rfl rfl ?_
  refine o_nil ?_
  refine c_code ?_
  by_cases h1 : 0 < t
  · rw [callE, if_pos h1] at h; exact absurd h (by decide)
  rw [callE, if_neg h1] at h
  simp only [decide_eq_false h1]
  by_cases h2 : longOp o'
  · rw [if_pos h2] at h; exact absurd h (by decide)
  rw [if_neg h2] at h
  simp only [if_neg h2]
  by_cases h3 : 1099511627776 ≤ num
  · rw [if_pos h3] at h; exact absurd h (by decide)
  refine r_cond_false rfl ?_
  refine r_seq ?_
  refine r_region (id := 6) ?_
  refine o_give (g_move (evv rfl)) rfl rfl ?_
  refine o_give (g_bin (evv rfl) (evv rfl) (by rfl)) rfl rfl ?_
  refine o_give (g_assign (evv rfl)) rfl rfl ?_
  refine o_nil ?_
  refine c_code ?_
  refine r_cond_false rfl ?_
  refine r_seq ?_
  refine r_region (id := 8) ?_
  refine o_give (g_move (evv rfl)) rfl rfl ?_
  refine o_give (g_nil (evv rfl)) rfl rfl ?_
  refine o_give (g_fld (evv rfl)) rfl rfl ?_
  refine o_give (g_load (evv rfl) (by rfl) (by rfl)) rfl rfl ?_
  refine o_give (g_bin (evv rfl) (evv rfl) (by rfl)) rfl rfl ?_
  refine o_give (g_assign (evv rfl)) rfl rfl ?_
  refine o_nil ?_
  refine c_code ?_
  refine r_cond rfl (fun h4 => ?_) (fun h4 => ?_) <;> (try simp only [decide_eq_true_eq, decide_eq_false_iff_not, Bool.and_eq_true, Bool.or_eq_true, Bool.not_eq_true', Bool.and_eq_false_iff, Bool.or_eq_false_iff, Bool.not_eq_false', Bool.not_eq_true, Bool.not_eq_false, Bool.true_eq_false, Bool.false_eq_true, Int.not_lt, Int.not_le, not_and, not_or, ne_eq] at h4)
  · omega
  · refine r_skip ?_
    refine c_blk ?_
    refine c_code ?_
    refine r_seq ?_
    refine r_region (id := 10) ?_
    refine o_give (g_move (evv rfl)) rfl rfl ?_
    refine o_give (g_nil (evv rfl)) rfl rfl ?_
    refine o_give (g_fld (evv rfl)) rfl rfl ?_
    refine o_give (g_load (evv rfl) (by rfl) (by rfl)) rfl rfl ?_
    refine o_giveN (g_bin (evv rfl) (evv rfl) (by rfl)) (by simp only [inR]; omega) rfl ?_
    refine o_give (g_nil (evv rfl)) rfl rfl ?_
    refine o_give (g_fld (evv rfl)) rfl rfl ?_
    refine o_store1 (evv rfl) (evv rfl) (by rfl) (by rfl) (by rfl) ?_
    refine o_nil ?_
    refine c_code ?_
    refine r_seq ?_
    repeat (first | refine r_seq ?_ | refine c_code ?_ | refine c_blk ?_ | refine r_block ?_ | refine r_skip ?_)
    refine r_held (id := 11) ([blk q ⟨opSC o', 29⟩]) Mixed.h ?_
    refine h_give (i := 0) (by kernel_rfl) rfl (g_move (evv rfl)) rfl rfl ?_
    refine h_give (i := 1) (by kernel_rfl) rfl (g_move (evv rfl)) rfl rfl ?_
    refine h_give (i := 2) (by kernel_rfl) rfl (g_loadF (evv rfl) (by rfl) (by rfl)) rfl rfl ?_
    refine h_give (i := 3) (by kernel_rfl) rfl (g_nil (evv rfl)) rfl rfl ?_
    refine h_give (i := 4) (by kernel_rfl) rfl (g_fld (evv rfl)) rfl rfl ?_
    refine h_one (i := 5) (by kernel_rfl) rfl (Lay.ent) ?_
    refine o_store1 (evv rfl) (evv rfl) (by rfl) (by rfl) (by rfl) ?_
    refine o_nil ?_
    refine h_give (i := 6) (by kernel_rfl) rfl (g_nil (evv rfl)) rfl rfl ?_
    refine h_give (i := 7) (by kernel_rfl) rfl (g_fld (evv rfl)) rfl rfl ?_
    refine h_one (i := 8) (by kernel_rfl) rfl (Lay.ent) ?_
    refine o_storeA (evv rfl) (evv rfl) (by first | rfl | assumption | exact LenC.h _ | (simp [bys, *]; done) | fail) (by first | (intro _ _ _; exact bys_one _) | exact AllOne.h | (intro _ _ _ u hu; simp at hu; rcases hu with rfl | rfl | rfl | rfl | rfl | rfl | rfl | rfl <;> rfl) | fail) (by rfl) (by rfl) ?_
    refine o_nil ?_
    refine h_done (by kernel_rfl) (Lay.ent) ?_
    refine c_code ?_
    refine r_seq ?_
    refine r_region (id := 12) ?_
    refine o_give (g_move (evv rfl)) rfl rfl ?_
    (refine o_call rfl _ (PickR.ent (K := blk c)) (request_c _ _ _ _ _ _ _ _ (by assumption) (by assumption)) rfl ?_; rintro _ _ ⟨vs, hvs, rfl⟩)
    refine o_give (g_assign (evv rfl)) rfl rfl ?_
    refine o_give (g_assign (evv rfl)) rfl rfl ?_
    refine o_nil ?_
    refine c_code ?_
    rename_i u
    first | refine r_ret (rs := [.tmp 4, .tmp 5]) rfl rfl _ ((Lay.ent (L' := blk c ⟨cliC id n (num + 1) 4 true o', 68⟩ :: sl u (msgR (reqL id vs)) :: rom (reqRom ⟨id, num + 1, o'⟩ vs) :: L))) ?_ | refine c_end (rs := [.tmp 4, .tmp 5]) rfl rfl _ ((Lay.ent (L' := blk c ⟨cliC id n (num + 1) 4 true o', 68⟩ :: sl u (msgR (reqL id vs)) :: rom (reqRom ⟨id, num + 1, o'⟩ vs) :: L))) ?_
    exact ⟨u, vs, rfl, hvs, rfl⟩
end VK
