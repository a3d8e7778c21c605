/- SessionOnce, walked. Conditions: the script's replies have few bytes. -/
import Derived.Test.YtcbhnagihkcafaaSes7
import Derived.Test.YtcbhnagihkcafaaSesO
namespace VK
open Go Go.Proofs
set_option linter.unusedSimpArgs false
set_option linter.unusedVariables false
set_option maxRecDepth 100000
set_option maxHeartbeats 40000000
theorem SessionOnce_c (W : World) (v : Value) (acts : List Act) [rd : Rd [base W] v (frow actC 5 30 acts)] (room : Int) (hb : actB acts ≤ 4611686018427387904) (hok : ∀ a ∈ acts, a.ok) :
    Fn Try.prog 5 [.int .i64 room, v] [base W] fun w L' => w = .bool true ∧ L' = [base W] := by
  refine fn_lenF rd fun hlen => ?_
  have hlen : acts.length ≤ 2 ^ 63 - 1 := hlen
  refine fn_intro Try.func5 rfl Try.ntmps5 rfl (fun W0 => ?_)
  simp only [argE]
  refine r_seq ?_
  refine r_region (id := 0) ?_
  refine o_give (g_assign (evv rfl)) rfl rfl ?_
  refine o_nil ?_
  refine c_code ?_
  refine r_seq ?_
  refine r_seq ?_
  refine r_region (id := 1) ?_
  (refine o_call rfl _ (Ent.refl _) (awake_c _) rfl ?_; rintro _ _ ⟨rfl, rfl⟩)
  refine o_give (g_not (evv rfl)) rfl rfl ?_
  refine o_nil ?_
  refine c_code ?_
  refine r_cond_false rfl ?_
  refine r_skip ?_
  refine c_code ?_
  refine r_seq ?_
  refine r_seq ?_
  refine r_region (id := 3) ?_
  refine o_give (g_move (evv rfl)) rfl rfl ?_
  (refine o_call rfl _ (Ent.refl _) (fits_c _ _ _ (by first | assumption | omega)) rfl ?_; rintro _ _ ⟨rfl, rfl⟩)
  refine o_give (g_not (evv rfl)) rfl rfl ?_
  refine o_give (g_move (evv rfl)) rfl rfl ?_
  refine o_lazy rfl (fun hg => g_move (by first | exact evv rfl | exact evg rfl (by rw [hp]; rfl) | exact evg rfl hp | exact evg rfl hg | exact evg rfl (by first | (simp_all; done) | (simp [*]; done) | fail) | fail)) rfl rfl ?_
  refine o_lazy rfl (fun hg => g_bin (by first | exact evv rfl | exact evg rfl (by rw [hp]; rfl) | exact evg rfl hp | exact evg rfl hg | exact evg rfl (by first | (simp_all; done) | (simp [*]; done) | fail) | fail) (by first | exact evv rfl | exact evg rfl (by rw [hp]; rfl) | exact evg rfl hp | exact evg rfl hg | exact evg rfl (by first | (simp_all; done) | (simp [*]; done) | fail) | fail) (by rfl)) rfl rfl ?_
  refine o_give (g_pick_or (evv rfl) (evv rfl) (fun hp => (by first | exact evv rfl | exact evg rfl (by rw [hp]; rfl) | exact evg rfl hp | exact evg rfl hg | exact evg rfl (by first | (simp_all; done) | (simp [*]; done) | fail) | fail))) rfl rfl ?_
  refine o_give (g_move (evv rfl)) rfl rfl ?_
  refine o_lazy rfl (fun hg => g_move (by first | exact evv rfl | exact evg rfl (by rw [hp]; rfl) | exact evg rfl hp | exact evg rfl hg | exact evg rfl (by first | (simp_all; done) | (simp [*]; done) | fail) | fail)) rfl rfl ?_
  refine o_lazy rfl (fun hg => g_bin (by first | exact evv rfl | exact evg rfl (by rw [hp]; rfl) | exact evg rfl hp | exact evg rfl hg | exact evg rfl (by first | (simp_all; done) | (simp [*]; done) | fail) | fail) (by first | exact evv rfl | exact evg rfl (by rw [hp]; rfl) | exact evg rfl hp | exact evg rfl hg | exact evg rfl (by first | (simp_all; done) | (simp [*]; done) | fail) | fail) (by rfl)) rfl rfl ?_
  refine o_give (g_pick_or (evv rfl) (evv rfl) (fun hp => (by first | exact evv rfl | exact evg rfl (by rw [hp]; rfl) | exact evg rfl hp | exact evg rfl hg | exact evg rfl (by first | (simp_all; done) | (simp [*]; done) | fail) | fail))) rfl rfl ?_
  refine o_nil ?_
  refine c_code ?_
  refine r_cond rfl (fun hf => ?_) (fun hf => ?_) <;> (try simp only [decide_eq_true_eq, decide_eq_false_iff_not, Bool.and_eq_true, Bool.or_eq_true, Bool.not_eq_true', Bool.and_eq_false_iff, Bool.or_eq_false_iff, Bool.not_eq_false', Bool.not_eq_true, Bool.not_eq_false, Bool.true_eq_false, Bool.false_eq_true, Int.not_lt, Int.not_le, not_and, not_or, ne_eq] at hf)
  · refine r_seq ?_
    refine r_region (id := 4) ?_
    refine o_give (g_assign (evv rfl)) rfl rfl ?_
    refine o_nil ?_
    refine c_code ?_
    first | refine r_ret (rs := [.tmp 4]) rfl rfl _ (Ent.refl _) ?_ | refine c_end (rs := [.tmp 4]) rfl rfl _ (Ent.refl _) ?_
    (refine ⟨?_, ?_⟩ <;> first | rfl | trivial | omega)
  · have h0 : 0 ≤ room := by omega
    have h1 : room ≤ 8192 := by omega
    clear hf
    refine r_skip ?_
    refine c_code ?_
    refine r_seq ?_
    refine r_region (id := 5) ?_
    refine o_give (g_move (evv rfl)) rfl rfl ?_
    (refine o_call rfl _ (Ent.refl _) (Make_ok _ _ (by omega)) rfl ?_; rintro _ _ ⟨tb, rfl, rfl⟩)
    refine o_give (g_move (evv rfl)) rfl rfl ?_
    refine o_give (g_extract (evv rfl) (by rfl)) rfl rfl ?_
    refine o_give (g_extract (evv rfl) (by rfl)) rfl rfl ?_
    refine o_give (g_assign (evv rfl)) rfl rfl ?_
    refine o_give (g_assign (evv rfl)) rfl rfl ?_
    refine o_nil ?_
    refine c_code ?_
    refine r_seq ?_
    refine r_seq ?_
    refine r_region (id := 6) ?_
    refine o_give (g_move (evv rfl)) rfl rfl ?_
    refine o_give (g_pnil TyU.h (evv rfl) (evv rfl) (by simp) (by rfl)) rfl rfl ?_
    refine o_nil ?_
    refine c_code ?_
    refine r_cond_false rfl ?_
    refine r_skip ?_
    refine c_code ?_
    refine r_seq ?_
    refine r_region (id := 8) ?_
    refine o_alloc rfl rfl (fun _ => ?_)
    refine o_nil ?_
    refine c_code ?_
    refine r_seq ?_
    refine r_seq ?_
    refine r_region (id := 9) ?_
    refine o_give (g_assign (evv rfl)) rfl rfl ?_
    refine o_nil ?_
    refine c_code ?_
    refine r_block ?_
    rename_i q
    refine r_ent (blk q ⟨(lastOf (List.replicate 8 default)).map i64v, 48⟩ :: blk tb (tblB room (List.replicate 8 default)) :: [base W]) (Ent.refl _) ?_
    refine r_loopE (σ := Nat × List Seat) (fun ⟨k, l⟩ => k ≤ acts.length ∧ WFT l ∧ (repB l : Int) ≤ room ∧ NB l) (fun ⟨k, l⟩ => acts.length - k) (fun ⟨k, l⟩ => [(8, .v (.int .i64 k))]) [1, 5, 7] (fun ⟨k, l⟩ => blk q ⟨(lastOf l).map i64v, 48⟩ :: blk tb (tblB room l) :: [base W]) (0, List.replicate 8 default) (by dsimp only [pickE, pick1, lk2, Nat.reduceBEq, Nat.reduceAdd, Nat.zero_add, cond_true, cond_false] <;> exact rfl) ?_ (by repeat (first | exact trivial | refine ⟨rfl, ?_⟩ | refine envsub_v rfl (by first | rfl | (refine int_eq ?_; first | omega | (simp; omega) | (simp; done)) | (refine bool_eq ?_; first | (simp [*]; done) | (simp; done)) | (refine str_eq ?_; simp; done) | (refine ptr_eq ?_; omega) | fail) ?_)) ?_ ?_
    · exact ⟨Nat.zero_le _, WFT.init, h0, NB.init⟩
    · exact Ent.refl _
    rintro ⟨k, l⟩ ⟨hk, hw, hr, hn⟩; dsimp only [List.cons_append, List.nil_append]
    have hl8 : l.length = 8 := hw.len
    have hl9 := last_len hl8
    have hwf := hw.wf
    have hrb : repB l ≤ 1000000 := by omega
    refine r_seq ?_
    refine r_seq ?_
    refine r_region (id := 10) ?_
    refine o_give (g_move (evv rfl)) rfl rfl ?_
    refine o_give (g_move (evv rfl)) rfl rfl ?_
    refine o_give (g_lenF (evv rfl)) rfl rfl ?_
    refine o_give (g_bin (evv rfl) (evv rfl) (by rfl)) rfl rfl ?_
    refine o_give (g_move (evv rfl)) rfl rfl ?_
    refine o_lazy rfl (fun hg => g_move (by first | exact evv rfl | exact evg rfl (by rw [hp]; rfl) | exact evg rfl hp | exact evg rfl hg | exact evg rfl (by first | (simp_all; done) | (simp [*]; done) | fail) | fail)) rfl rfl ?_
    refine o_lazy rfl (fun hg => g_bin (by first | exact evv rfl | exact evg rfl (by rw [hp]; rfl) | exact evg rfl hp | exact evg rfl hg | exact evg rfl (by first | (simp_all; done) | (simp [*]; done) | fail) | fail) (by first | exact evv rfl | exact evg rfl (by rw [hp]; rfl) | exact evg rfl hp | exact evg rfl hg | exact evg rfl (by first | (simp_all; done) | (simp [*]; done) | fail) | fail) (by rfl)) rfl rfl ?_
    refine o_give (g_pick_and (evv rfl) (evv rfl) (fun hp => (by first | exact evv rfl | exact evg rfl (by rw [hp]; rfl) | exact evg rfl hp | exact evg rfl hg | exact evg rfl (by first | (simp_all; done) | (simp [*]; done) | fail) | fail))) rfl rfl ?_
    refine o_nil ?_
    refine c_code ?_
    refine r_cond rfl (fun hc => ?_) (fun hc => ?_) <;> (try simp only [decide_eq_true_eq, decide_eq_false_iff_not, Bool.and_eq_true, Bool.or_eq_true, Bool.not_eq_true', Bool.and_eq_false_iff, Bool.or_eq_false_iff, Bool.not_eq_false', Bool.not_eq_true, Bool.not_eq_false, Bool.true_eq_false, Bool.false_eq_true, Int.not_lt, Int.not_le, not_and, not_or, ne_eq] at hc)
    · have hk8 : k < acts.length := by omega
      have hx2 : acts.getD k default ∈ acts := by simp [hk8]
      have hao := hok _ hx2
      generalize hx : acts.getD k default = a at *
      have hac : inR .i64 a.client := hao.2.1
      refine r_skip ?_
      refine c_code ?_
      refine r_seq ?_
      refine r_block ?_
      refine r_seq ?_
      refine r_region (id := 12) ?_
      refine o_give (g_move (evv rfl)) rfl rfl ?_
      refine o_give (g_move (evv rfl)) rfl rfl ?_
      refine o_give (g_idxFN (evv rfl) (evv rfl) (by rfl) (by rfl) (by first | omega | (simp only [List.length_set, List.length_append, List.length_cons, List.length_nil, List.length_map, List.length_take, List.length_drop, List.length_replicate]; omega))) rfl rfl ?_
      refine o_give (g_loadFr (evv rfl) (by rfl) (by intro; rfl) (by rfl) (by rfl) (by first | omega | (simp only [List.length_set, List.length_append, List.length_cons, List.length_nil, List.length_map, List.length_take, List.length_drop, List.length_replicate]; omega))) rfl rfl ?_
      refine o_alloc rfl rfl (fun _ => ?_)
      refine o_storeW (evv rfl) (evv rfl) (by first | rfl | assumption | (simp [bys, *]; done) | fail) (by first | (intro _ _ _; exact bys_one _) | exact AllOne.h | (intro _ _ _ u hu; simp at hu; rcases hu with rfl | rfl | rfl | rfl | rfl | rfl | rfl | rfl <;> rfl) | fail) (by first | rfl | (simp [bys, *]; done) | (simp only [bys, List.length_map, *]; rfl) | fail) ?_
      refine o_nil ?_
      refine c_code ?_
      refine r_seq ?_
      refine r_seq ?_
      rw [hx]
      rename_i p
      refine r_region (id := 13) ?_
      refine o_give (g_fld (evv rfl)) rfl rfl ?_
      refine o_give (g_load (evv rfl) (by rfl) (by rfl)) rfl rfl ?_
      refine o_nil ?_
      refine c_code ?_
      refine r_cond rfl (fun hf => ?_) (fun hf => ?_) <;> (try simp only [decide_eq_true_eq, decide_eq_false_iff_not, Bool.and_eq_true, Bool.or_eq_true, Bool.not_eq_true', Bool.and_eq_false_iff, Bool.or_eq_false_iff, Bool.not_eq_false', Bool.not_eq_true, Bool.not_eq_false, Bool.true_eq_false, Bool.false_eq_true, Int.not_lt, Int.not_le, not_and, not_or, ne_eq] at hf)
      · have e1 : lastOf (forgT l a.client).2 = lastOf l := by rw [lastOf, num_forg hl8, lastOf]
        refine r_seq ?_
        refine r_region (id := 14) ?_
        refine o_give (g_move (evv rfl)) rfl rfl ?_
        refine o_give (g_fld (evv rfl)) rfl rfl ?_
        refine o_give (g_load (evv rfl) (by rfl) (by rfl)) rfl rfl ?_
        (refine o_call rfl _ (Ent.refl _) (Fn.atPick (Forget_g _ _ _ (by first | assumption | (simp only [inR]; omega)) (by assumption))) rfl ?_; rintro _ _ ⟨rfl, rfl⟩)
        refine o_nil ?_
        refine c_code ?_
        refine r_exit rfl ?_
        refine c_code ?_
        refine r_region (id := 11) ?_
        refine o_give (g_move (evv rfl)) rfl rfl ?_
        refine o_giveN (g_bin (evv rfl) (evv rfl) (by rfl)) (by simp only [inR]; omega) rfl ?_
        refine o_give (g_assign (evv rfl)) rfl rfl ?_
        refine o_nil ?_
        refine c_loop (k + 1, (forgT l a.client).2) ?_ ?_ (by repeat (first | exact trivial | refine ⟨rfl, ?_⟩ | refine envsub_v rfl (by first | rfl | (refine int_eq ?_; first | omega | (simp; omega) | (simp; done)) | (refine bool_eq ?_; first | (simp [*]; done) | (simp; done)) | (refine str_eq ?_; simp; done) | (refine ptr_eq ?_; omega) | fail) ?_)) ?_ <;> (try dsimp only)
        · exact ⟨by omega, (forg_list hw a.client).2, forg_room hr _, hn.of_map (num_forg hl8 _)⟩
        · omega
        · rw [e1]; exact Lay.ent
      · refine r_skip ?_
        refine c_code ?_
        refine r_seq ?_
        refine r_region (id := 15) ?_
        refine o_give (g_move (evv rfl)) rfl rfl ?_
        refine o_give (g_fld (evv rfl)) rfl rfl ?_
        refine o_give (g_load (evv rfl) (by rfl) (by rfl)) rfl rfl ?_
        refine o_give (g_fld (evv rfl)) rfl rfl ?_
        refine o_give (g_load (evv rfl) (by rfl) (by rfl)) rfl rfl ?_
        refine o_give (g_fld (evv rfl)) rfl rfl ?_
        refine o_give (g_load (evv rfl) (by rfl) (by rfl)) rfl rfl ?_
        refine o_give (g_fld (evv rfl)) rfl rfl ?_
        refine o_give (g_load (evv rfl) (by rfl) (by rfl)) rfl rfl ?_
        (refine o_call rfl _ (Ent.refl _) (Fn.atPick (Record_g _ _ _ _ _ _ (by first | assumption | (simp only [inR]; omega)) (by assumption) (by first | assumption | omega) (by assumption) (by assumption))) rfl ?_; rintro _ _ ⟨rfl, rfl⟩)
        refine o_give (g_assign (evv rfl)) rfl rfl ?_
        refine o_nil ?_
        refine c_code ?_
        refine r_seq ?_
        refine r_seq ?_
        refine r_region (id := 16) ?_
        refine o_give (g_fld (evv rfl)) rfl rfl ?_
        refine o_give (g_load (evv rfl) (by rfl) (by rfl)) rfl rfl ?_
        refine o_give (g_bin (evv rfl) (evv rfl) (by rfl)) rfl rfl ?_
        refine o_give (g_move (evv rfl)) rfl rfl ?_
        refine o_lazy rfl (fun hg => g_fld (evv rfl)) rfl rfl ?_
        refine o_lazy rfl (fun hg => g_load (evg rfl hg) (by rfl) (by rfl)) rfl rfl ?_
        refine o_lazy rfl (fun hg => g_bin (by first | exact evv rfl | exact evg rfl (by rw [hp]; rfl) | exact evg rfl hp | exact evg rfl hg | exact evg rfl (by first | (simp_all; done) | (simp [*]; done) | fail) | fail) (by first | exact evv rfl | exact evg rfl (by rw [hp]; rfl) | exact evg rfl hp | exact evg rfl hg | exact evg rfl (by first | (simp_all; done) | (simp [*]; done) | fail) | fail) (by rfl)) rfl rfl ?_
        refine o_give (g_pick_or (evv rfl) (evv rfl) (fun hp => (by first | exact evv rfl | exact evg rfl (by rw [hp]; rfl) | exact evg rfl hp | exact evg rfl hg | exact evg rfl (by first | (simp_all; done) | (simp [*]; done) | fail) | fail))) rfl rfl ?_
        refine o_nil ?_
        refine c_code ?_
        refine r_cond rfl (fun hcl => ?_) (fun hcl => ?_) <;> (try simp only [decide_eq_true_eq, decide_eq_false_iff_not, Bool.and_eq_true, Bool.or_eq_true, Bool.not_eq_true', Bool.and_eq_false_iff, Bool.or_eq_false_iff, Bool.not_eq_false', Bool.not_eq_true, Bool.not_eq_false, Bool.true_eq_false, Bool.false_eq_true, Int.not_lt, Int.not_le, not_and, not_or, ne_eq] at hcl)
        · rw [rec_bad (by omega)]
          refine r_seq ?_
          refine r_seq ?_
          refine r_region (id := 17) ?_
          refine o_give (g_move (evv rfl)) rfl rfl ?_
          refine o_give (g_bin (evv rfl) (evv rfl) (by rfl)) rfl rfl ?_
          refine o_nil ?_
          refine c_code ?_
          refine r_cond_false rfl ?_
          refine r_skip ?_
          refine c_code ?_
          refine r_exit rfl ?_
          refine c_code ?_
          refine r_region (id := 11) ?_
          refine o_give (g_move (evv rfl)) rfl rfl ?_
          refine o_giveN (g_bin (evv rfl) (evv rfl) (by rfl)) (by simp only [inR]; omega) rfl ?_
          refine o_give (g_assign (evv rfl)) rfl rfl ?_
          refine o_nil ?_
          refine c_loop (k + 1, l) ?_ ?_ (by repeat (first | exact trivial | refine ⟨rfl, ?_⟩ | refine envsub_v rfl (by first | rfl | (refine int_eq ?_; first | omega | (simp; omega) | (simp; done)) | (refine bool_eq ?_; first | (simp [*]; done) | (simp; done)) | (refine str_eq ?_; simp; done) | (refine ptr_eq ?_; omega) | fail) ?_)) ?_ <;> (try dsimp only)
          · exact ⟨by omega, hw, hr, hn⟩
          · omega
          · exact Lay.ent
        · have hnx1 := (rec_list hw h0 a.client a.number a.at_ a.reply).2
          have hnx2 := rec_room hw h0 hr a.client a.number a.at_ a.reply
          have hfact := once_fact (c := a.client) (n := a.number) (a := a.at_) (r := a.reply) hw hn h0
          have hsame := rec_same (room := room) (l := l) (c := a.client) (n := a.number) (a := a.at_) (r := a.reply)
          have hla := last_at (l := l) (c := a.client) hl8 (by omega) (by omega)
          generalize hF : recT room l a.client a.number a.at_ a.reply = fr at *
          have hn2 : NB fr.2 := by
            by_cases h : fr.1 = 0
            · exact (hfact h).2.2.2.2
            · rw [hsame h]; exact hn
          refine r_skip ?_
          refine c_code ?_
          refine r_seq ?_
          refine r_seq ?_
          refine r_region (id := 19) ?_
          refine o_give (g_move (evv rfl)) rfl rfl ?_
          refine o_give (g_bin (evv rfl) (evv rfl) (by rfl)) rfl rfl ?_
          refine o_nil ?_
          refine c_code ?_
          repeat (first | refine r_seq ?_ | refine c_code ?_ | refine c_blk ?_ | refine r_block ?_ | refine r_skip ?_)
          refine r_cutE (σ := Unit) (fun u => []) [1,5,7,8] (fun u => blk q ⟨(lastOf fr.2).map i64v, 48⟩ :: blk tb (tblB room fr.2) :: [base W]) (by dsimp only [pickE, pick1, lk2, Nat.reduceBEq, Nat.reduceAdd, Nat.zero_add, cond_true, cond_false] <;> exact rfl) ?_ ?_
          · refine r_cond rfl (fun hz => ?_) (fun hz => ?_) <;> (try simp only [decide_eq_true_eq, decide_eq_false_iff_not, Bool.and_eq_true, Bool.or_eq_true, Bool.not_eq_true', Bool.and_eq_false_iff, Bool.or_eq_false_iff, Bool.not_eq_false', Bool.not_eq_true, Bool.not_eq_false, Bool.true_eq_false, Bool.false_eq_true, Int.not_lt, Int.not_le, not_and, not_or, ne_eq] at hz)
            · obtain ⟨g1, g2, g3, g4, g5⟩ := hfact hz
              rw [g4]
              refine r_seq ?_
              refine r_seq ?_
              refine r_quiet (id := 20) Mixed.h (by kernel_rfl) ?_
              refine q_give (g_fld (evv rfl)) rfl rfl ?_
              refine q_give (g_load (evv rfl) (by rfl) (by rfl)) rfl rfl ?_
              refine q_give (g_fld (evv rfl)) rfl rfl ?_
              refine q_give (g_load (evv rfl) (by rfl) (by rfl)) rfl rfl ?_
              refine q_give (g_idxA (evv rfl) (evv rfl) (by omega) (by omega)) rfl rfl ?_
              refine q_give (g_loadMp (evv rfl) (by rfl) (by first | omega | (simp only [List.length_set, List.length_append, List.length_cons, List.length_nil, List.length_map, List.length_take, List.length_drop, List.length_replicate]; omega))) rfl rfl ?_
              refine q_give (g_bin (evv rfl) (evv rfl) (by rfl)) rfl rfl ?_
              refine q_nil ?_
              refine c_code ?_
              rw [hla]
              refine r_cond rfl (fun hbad => ?_) (fun hbad => ?_) <;> (try simp only [decide_eq_true_eq, decide_eq_false_iff_not, Bool.and_eq_true, Bool.or_eq_true, Bool.not_eq_true', Bool.and_eq_false_iff, Bool.or_eq_false_iff, Bool.not_eq_false', Bool.not_eq_true, Bool.not_eq_false, Bool.true_eq_false, Bool.false_eq_true, Int.not_lt, Int.not_le, not_and, not_or, ne_eq] at hbad)
              · exfalso; omega
              · clear hbad
                refine r_skip ?_
                refine c_code ?_
                refine r_region (id := 22) ?_
                refine o_give (g_fld (evv rfl)) rfl rfl ?_
                refine o_give (g_load (evv rfl) (by rfl) (by rfl)) rfl rfl ?_
                refine o_give (g_fld (evv rfl)) rfl rfl ?_
                refine o_give (g_load (evv rfl) (by rfl) (by rfl)) rfl rfl ?_
                refine o_give (g_idxA (evv rfl) (evv rfl) (by omega) (by omega)) rfl rfl ?_
                refine o_storeMp (evv rfl) (evv rfl) (by rfl) (by first | omega | (simp only [List.length_set, List.length_append, List.length_cons, List.length_nil, List.length_map, List.length_take, List.length_drop, List.length_replicate]; omega)) ?_
                refine o_nil ?_
                skip
                exact c_cut () (by repeat (first | exact trivial | refine ⟨rfl, ?_⟩ | refine envsub_v rfl (by first | rfl | (refine int_eq ?_; first | omega | (simp; omega) | (simp; done)) | (refine bool_eq ?_; first | (simp [*]; done) | (simp; done)) | (refine str_eq ?_; simp; done) | (refine ptr_eq ?_; omega) | fail) ?_)) (Lay.ent)
            · rw [hsame hz]
              refine r_skip ?_
              exact c_cut () (by repeat (first | exact trivial | refine ⟨rfl, ?_⟩ | refine envsub_v rfl (by first | rfl | (refine int_eq ?_; first | omega | (simp; omega) | (simp; done)) | (refine bool_eq ?_; first | (simp [*]; done) | (simp; done)) | (refine str_eq ?_; simp; done) | (refine ptr_eq ?_; omega) | fail) ?_)) (Lay.ent)
          intro u
          dsimp only [List.cons_append, List.nil_append]
          have hl82 := hnx1.len
          have hl92 := last_len hl82
          generalize hl2 : fr.2 = l2 at *
          refine c_code ?_
          refine r_seq ?_
          refine r_region (id := 23) ?_
          refine o_give (g_assign (evv rfl)) rfl rfl ?_
          refine o_nil ?_
          refine c_code ?_
          refine r_block ?_
          refine r_loopE (σ := Nat) (fun c => 1 ≤ c ∧ c ≤ 9) (fun c => 9 - c) (fun c => [(11, .v (.int .i64 c))]) [1, 5, 7, 8] (fun c => blk q ⟨(lastOf l2).map i64v, 48⟩ :: blk tb (tblB room l2) :: [base W]) 1 (by dsimp only [pickE, pick1, lk2, Nat.reduceBEq, Nat.reduceAdd, Nat.zero_add, cond_true, cond_false] <;> exact rfl) ?_ (by repeat (first | exact trivial | refine ⟨rfl, ?_⟩ | refine envsub_v rfl (by first | rfl | (refine int_eq ?_; first | omega | (simp; omega) | (simp; done)) | (refine bool_eq ?_; first | (simp [*]; done) | (simp; done)) | (refine str_eq ?_; simp; done) | (refine ptr_eq ?_; omega) | fail) ?_)) ?_ ?_
          · omega
          · exact Lay.ent
          rintro c hc9; (try dsimp only at hc9); dsimp only [List.cons_append, List.nil_append]
          refine r_seq ?_
          refine r_seq ?_
          refine r_region (id := 24) ?_
          refine o_give (g_move (evv rfl)) rfl rfl ?_
          refine o_give (g_bin (evv rfl) (evv rfl) (by rfl)) rfl rfl ?_
          refine o_nil ?_
          refine c_code ?_
          refine r_cond rfl (fun hc8 => ?_) (fun hc8 => ?_) <;> (try simp only [decide_eq_true_eq, decide_eq_false_iff_not, Bool.and_eq_true, Bool.or_eq_true, Bool.not_eq_true', Bool.and_eq_false_iff, Bool.or_eq_false_iff, Bool.not_eq_false', Bool.not_eq_true, Bool.not_eq_false, Bool.true_eq_false, Bool.false_eq_true, Int.not_lt, Int.not_le, not_and, not_or, ne_eq] at hc8)
          · have hlc := last_at (l := l2) (c := (c : Int)) hl82 (by omega) (by omega)
            rw [Int.toNat_natCast] at hlc
            obtain ⟨f1, f2⟩ := look_last hnx1 hn2 (c := (c : Int)) (by omega) (by omega)
            refine r_skip ?_
            refine c_code ?_
            refine r_seq ?_
            refine r_block ?_
            refine r_seq ?_
            refine r_region (id := 26) ?_
            refine o_give (g_move (evv rfl)) rfl rfl ?_
            refine o_give (g_move (evv rfl)) rfl rfl ?_
            refine o_give (g_move (evv rfl)) rfl rfl ?_
            refine o_give (g_idxAN (evv rfl) (evv rfl) (by omega)) rfl rfl ?_
            refine o_give (g_loadMp (evv rfl) (by rfl) (by first | omega | (simp only [List.length_set, List.length_append, List.length_cons, List.length_nil, List.length_map, List.length_take, List.length_drop, List.length_replicate]; omega))) rfl rfl ?_
            (refine o_call rfl _ (Ent.refl _) (Fn.atPick (Look_g _ _ _ _ (by first | assumption | (simp only [inR]; omega)) (by assumption))) rfl ?_; rintro _ _ ⟨rfl, rfl⟩)
            refine o_give (g_move (evv rfl)) rfl rfl ?_
            refine o_give (g_extract (evv rfl) (by rfl)) rfl rfl ?_
            refine o_give (g_extract (evv rfl) (by rfl)) rfl rfl ?_
            refine o_give (g_assign (evv rfl)) rfl rfl ?_
            refine o_give (g_assign (evv rfl)) rfl rfl ?_
            refine o_nil ?_
            refine c_code ?_
            refine r_seq ?_
            rw [hlc]
            refine r_region (id := 27) ?_
            refine o_give (g_move (evv rfl)) rfl rfl ?_
            refine o_give (g_bin (evv rfl) (evv rfl) (by rfl)) rfl rfl ?_
            refine o_give (g_move (evv rfl)) rfl rfl ?_
            refine o_lazy rfl (fun hg => g_move (by first | exact evv rfl | exact evg rfl (by rw [hp]; rfl) | exact evg rfl hp | exact evg rfl hg | exact evg rfl (by first | (simp_all; done) | (simp [*]; done) | fail) | fail)) rfl rfl ?_
            refine o_lazy rfl (fun hg => g_bin (by first | exact evv rfl | exact evg rfl (by rw [hp]; rfl) | exact evg rfl hp | exact evg rfl hg | exact evg rfl (by first | (simp_all; done) | (simp [*]; done) | fail) | fail) (by first | exact evv rfl | exact evg rfl (by rw [hp]; rfl) | exact evg rfl hp | exact evg rfl hg | exact evg rfl (by first | (simp_all; done) | (simp [*]; done) | fail) | fail) (by rfl)) rfl rfl ?_
            refine o_lazy rfl (fun hg => g_move (by first | exact evv rfl | exact evg rfl (by rw [hp]; rfl) | exact evg rfl hp | exact evg rfl hg | exact evg rfl (by first | (simp_all; done) | (simp [*]; done) | fail) | fail)) rfl rfl ?_
            refine o_lazy rfl (fun hg => g_idxAN (evv rfl) (evg rfl hg) (by omega)) rfl rfl ?_
            refine o_lazy rfl (fun hg => g_loadMp (evg rfl hg) (by rfl) (by first | omega | (simp only [List.length_set, List.length_append, List.length_cons, List.length_nil, List.length_map, List.length_take, List.length_drop, List.length_replicate]; omega))) rfl rfl ?_
            refine o_lazy rfl (fun hg => g_bin (by first | exact evv rfl | exact evg rfl (by rw [hp]; rfl) | exact evg rfl hp | exact evg rfl hg | exact evg rfl (by first | (simp_all; done) | (simp [*]; done) | fail) | fail) (by first | exact evv rfl | exact evg rfl (by rw [hp]; rfl) | exact evg rfl hp | exact evg rfl hg | exact evg rfl (by first | (simp_all; done) | (simp [*]; done) | fail) | fail) (by rfl)) rfl rfl ?_
            refine o_lazy rfl (fun hg => g_binB TyU.h (by first | exact evv rfl | exact evg rfl (by rw [hp]; rfl) | exact evg rfl hp | exact evg rfl hg | exact evg rfl (by first | (simp_all; done) | (simp [*]; done) | fail) | fail) (by first | exact evv rfl | exact evg rfl (by rw [hp]; rfl) | exact evg rfl hp | exact evg rfl hg | exact evg rfl (by first | (simp_all; done) | (simp [*]; done) | fail) | fail) (by rfl)) rfl rfl ?_
            refine o_give (g_pick_or (evv rfl) (evv rfl) (fun hp => (by first | exact evv rfl | exact evg rfl (by rw [hp]; rfl) | exact evg rfl hp | exact evg rfl hg | exact evg rfl (by first | (simp_all; done) | (simp [*]; done) | fail) | fail))) rfl rfl ?_
            refine o_nil ?_
            refine c_code ?_
            rw [hlc]
            refine r_cond rfl (fun hbad => ?_) (fun hbad => ?_) <;> (try simp only [decide_eq_true_eq, decide_eq_false_iff_not, Bool.and_eq_true, Bool.or_eq_true, Bool.not_eq_true', Bool.and_eq_false_iff, Bool.or_eq_false_iff, Bool.not_eq_false', Bool.not_eq_true, Bool.not_eq_false, Bool.true_eq_false, Bool.false_eq_true, Int.not_lt, Int.not_le, not_and, not_or, ne_eq] at hbad)
            · exfalso
              rcases hbad with hbad | hbad
              · exact f1 hbad
              · simp [f2] at hbad
            · clear hbad
              refine r_skip ?_
              refine c_blk ?_
              refine c_code ?_
              refine r_region (id := 25) ?_
              refine o_give (g_move (evv rfl)) rfl rfl ?_
              refine o_giveN (g_bin (evv rfl) (evv rfl) (by rfl)) (by simp only [inR]; omega) rfl ?_
              refine o_give (g_assign (evv rfl)) rfl rfl ?_
              refine o_nil ?_
              refine c_loop (c + 1) ?_ ?_ (by repeat (first | exact trivial | refine ⟨rfl, ?_⟩ | refine envsub_v rfl (by first | rfl | (refine int_eq ?_; first | omega | (simp; omega) | (simp; done)) | (refine bool_eq ?_; first | (simp [*]; done) | (simp; done)) | (refine str_eq ?_; simp; done) | (refine ptr_eq ?_; omega) | fail) ?_)) ?_ <;> (try dsimp only)
              · omega
              · omega
              · exact Lay.ent
          · refine r_exit rfl ?_
            refine c_blk ?_
            refine c_code ?_
            refine r_region (id := 11) ?_
            refine o_give (g_move (evv rfl)) rfl rfl ?_
            refine o_giveN (g_bin (evv rfl) (evv rfl) (by rfl)) (by simp only [inR]; omega) rfl ?_
            refine o_give (g_assign (evv rfl)) rfl rfl ?_
            refine o_nil ?_
            refine c_loop (k + 1, l2) ?_ ?_ (by repeat (first | exact trivial | refine ⟨rfl, ?_⟩ | refine envsub_v rfl (by first | rfl | (refine int_eq ?_; first | omega | (simp; omega) | (simp; done)) | (refine bool_eq ?_; first | (simp [*]; done) | (simp; done)) | (refine str_eq ?_; simp; done) | (refine ptr_eq ?_; omega) | fail) ?_)) ?_ <;> (try dsimp only)
            · exact ⟨by omega, hnx1, hnx2, hn2⟩
            · omega
            · exact Lay.ent
    · have hlt : (listT l).length ≤ 1000 := by have := list_len hw; omega
      refine r_exit rfl ?_
      refine c_code ?_
      refine r_seq ?_
      refine r_region (id := 29) ?_
      refine o_give (g_move (evv rfl)) rfl rfl ?_
      (refine o_call rfl _ (Ent.refl _) (Fn.atPick (List_g _ _ (by assumption))) rfl ?_; rintro _ _ ⟨-, rfl⟩)
      refine o_give (g_assign (evv rfl)) rfl rfl ?_
      refine o_nil ?_
      refine c_code ?_
      refine r_seq ?_
      refine r_seq ?_
      refine r_region (id := 30) ?_
      refine o_give (g_assign (evv rfl)) rfl rfl ?_
      refine o_nil ?_
      refine c_code ?_
      refine r_block ?_
      rename_i w
      refine r_loopE (σ := Nat) (fun j => j ≤ (listT l).length) (fun j => (listT l).length - j) (fun j => [(15, .v (.int .i64 j))]) [7, 14] (fun j => sl w (frow seatC 5 34 (listT l)) :: blk q ⟨(lastOf l).map i64v, 48⟩ :: [base W]) 0 (by dsimp only [pickE, pick1, lk2, Nat.reduceBEq, Nat.reduceAdd, Nat.zero_add, cond_true, cond_false] <;> exact rfl) ?_ (by repeat (first | exact trivial | refine ⟨rfl, ?_⟩ | refine envsub_v rfl (by first | rfl | (refine int_eq ?_; first | omega | (simp; omega) | (simp; done)) | (refine bool_eq ?_; first | (simp [*]; done) | (simp; done)) | (refine str_eq ?_; simp; done) | (refine ptr_eq ?_; omega) | fail) ?_)) ?_ ?_
      · exact Nat.zero_le _
      · exact Lay.ent
      rintro j hj; (try dsimp only at hj); dsimp only [List.cons_append, List.nil_append]
      refine r_seq ?_
      refine r_seq ?_
      refine r_region (id := 31) ?_
      refine o_give (g_move (evv rfl)) rfl rfl ?_
      refine o_give (g_move (evv rfl)) rfl rfl ?_
      refine o_give (g_lenF (evv rfl)) rfl rfl ?_
      refine o_give (g_bin (evv rfl) (evv rfl) (by rfl)) rfl rfl ?_
      refine o_nil ?_
      refine c_code ?_
      refine r_cond rfl (fun hj1 => ?_) (fun hj1 => ?_) <;> (try simp only [decide_eq_true_eq, decide_eq_false_iff_not, Bool.and_eq_true, Bool.or_eq_true, Bool.not_eq_true', Bool.and_eq_false_iff, Bool.or_eq_false_iff, Bool.not_eq_false', Bool.not_eq_true, Bool.not_eq_false, Bool.true_eq_false, Bool.false_eq_true, Int.not_lt, Int.not_le, not_and, not_or, ne_eq] at hj1)
      · have hj2 : j < (listT l).length := by omega
        have hm : (listT l).getD j default ∈ listT l := by simp [hj2]
        obtain ⟨f1, f2, f3⟩ := list_last hw hm
        refine r_skip ?_
        refine c_code ?_
        refine r_seq ?_
        refine r_block ?_
        refine r_seq ?_
        refine r_quiet (id := 33) Mixed.h (by kernel_rfl) ?_
        refine q_give (g_move (evv rfl)) rfl rfl ?_
        refine q_give (g_move (evv rfl)) rfl rfl ?_
        refine q_give (g_idxFN (evv rfl) (evv rfl) (by rfl) (by rfl) (by first | omega | (simp only [List.length_set, List.length_append, List.length_cons, List.length_nil, List.length_map, List.length_take, List.length_drop, List.length_replicate]; omega))) rfl rfl ?_
        refine q_give (g_fldE (evv rfl) (by first | (simp only [frow, mrow]; omega) | (simp only [frow, mrow, List.length_set, List.length_append, List.length_cons]; omega) | fail) (by first | exact Nat.succ_pos _ | decide)) rfl rfl ?_
        refine q_give (g_loadFld (evv rfl) (by rfl) (by intro; rfl) (by first | omega | (simp only [List.length_set, List.length_append, List.length_cons, List.length_nil, List.length_map, List.length_take, List.length_drop, List.length_replicate]; omega)) (by rfl)) rfl rfl ?_
        refine q_give (g_move (evv rfl)) rfl rfl ?_
        refine q_give (g_move (evv rfl)) rfl rfl ?_
        refine q_give (g_idxFN (evv rfl) (evv rfl) (by rfl) (by rfl) (by first | omega | (simp only [List.length_set, List.length_append, List.length_cons, List.length_nil, List.length_map, List.length_take, List.length_drop, List.length_replicate]; omega))) rfl rfl ?_
        refine q_give (g_fldE (evv rfl) (by first | (simp only [frow, mrow]; omega) | (simp only [frow, mrow, List.length_set, List.length_append, List.length_cons]; omega) | fail) (by first | exact Nat.succ_pos _ | decide)) rfl rfl ?_
        refine q_give (g_loadFld (evv rfl) (by rfl) (by intro; rfl) (by first | omega | (simp only [List.length_set, List.length_append, List.length_cons, List.length_nil, List.length_map, List.length_take, List.length_drop, List.length_replicate]; omega)) (by rfl)) rfl rfl ?_
        refine q_give (g_idxA (evv rfl) (evv rfl) (by omega) (by omega)) rfl rfl ?_
        refine q_give (g_loadMp (evv rfl) (by rfl) (by first | omega | (simp only [List.length_set, List.length_append, List.length_cons, List.length_nil, List.length_map, List.length_take, List.length_drop, List.length_replicate]; omega))) rfl rfl ?_
        refine q_give (g_bin (evv rfl) (evv rfl) (by rfl)) rfl rfl ?_
        refine q_nil ?_
        refine c_code ?_
        rw [f3]
        refine r_cond rfl (fun hbad => ?_) (fun hbad => ?_) <;> (try simp only [decide_eq_true_eq, decide_eq_false_iff_not, Bool.and_eq_true, Bool.or_eq_true, Bool.not_eq_true', Bool.and_eq_false_iff, Bool.or_eq_false_iff, Bool.not_eq_false', Bool.not_eq_true, Bool.not_eq_false, Bool.true_eq_false, Bool.false_eq_true, Int.not_lt, Int.not_le, not_and, not_or, ne_eq] at hbad)
        · exact absurd trivial hbad
        · clear hbad
          refine r_skip ?_
          refine c_blk ?_
          refine c_code ?_
          refine r_region (id := 32) ?_
          refine o_give (g_move (evv rfl)) rfl rfl ?_
          refine o_giveN (g_bin (evv rfl) (evv rfl) (by rfl)) (by simp only [inR]; omega) rfl ?_
          refine o_give (g_assign (evv rfl)) rfl rfl ?_
          refine o_nil ?_
          refine c_loop (j + 1) ?_ ?_ (by repeat (first | exact trivial | refine ⟨rfl, ?_⟩ | refine envsub_v rfl (by first | rfl | (refine int_eq ?_; first | omega | (simp; omega) | (simp; done)) | (refine bool_eq ?_; first | (simp [*]; done) | (simp; done)) | (refine str_eq ?_; simp; done) | (refine ptr_eq ?_; omega) | fail) ?_)) ?_ <;> (try dsimp only)
          · omega
          · omega
          · exact Lay.ent
      · refine r_exit rfl ?_
        refine c_code ?_
        refine r_seq ?_
        refine r_region (id := 35) ?_
        refine o_give (g_assign (evv rfl)) rfl rfl ?_
        refine o_nil ?_
        refine c_code ?_
        first | refine r_ret (rs := [.tmp 4]) rfl rfl _ ((Lay.ent (L' := [base W]))) ?_ | refine c_end (rs := [.tmp 4]) rfl rfl _ ((Lay.ent (L' := [base W]))) ?_
        (refine ⟨?_, ?_⟩ <;> first | rfl | trivial | omega)
end VK
