/- Messages compared. Conditions: none. -/
import Derived.Test.YtmjmlmjcfekphaaMsg
namespace VK
open Go Go.Proofs
set_option linter.unusedSimpArgs false
set_option linter.unusedVariables false
set_option maxRecDepth 100000
set_option maxHeartbeats 40000000
theorem SameMsg_c (L : List Atom) (a b : MsgF) (h : MsgEq L a b) : Fn Try.prog 27 [agg (msgC a), agg (msgC b)] L fun w L' => w = .bool true ∧ L' = L := by
  obtain ⟨hf, ⟨es, re1, re2⟩, ⟨ns, rn1, rn2⟩⟩ := h
  obtain ⟨k, f, t, v, n, l, c, bh, root, e, d, co, di, si, rd, nm⟩ := a
  obtain ⟨k', f', t', v', n', l', c', bh', root', e', d', co', di', si', rd', nm'⟩ := b
  simp only [MsgF.mk.injEq] at hf
  obtain ⟨rfl, rfl, rfl, rfl, rfl, rfl, rfl, rfl, rfl, -, rfl, rfl, rfl, rfl, rfl, -⟩ := hf
  dsimp only at re1 re2 rn1 rn2
  simp only [msgC]
  refine fn_intro Try.func27 rfl Try.ntmps27 rfl (fun W0 => ?_)
  simp only [argE]
  refine r_seq ?_
  refine r_region (id := 0) ?_
  refine o_boxA (evv rfl) rfl (fun _ => ?_)
  refine o_boxA (evv rfl) rfl (fun _ => ?_)
  refine o_give (g_assign (evv rfl)) rfl rfl ?_
  refine o_nil ?_
  refine c_code ?_
  refine r_seq ?_
  refine r_seq ?_
  refine r_region (id := 1) ?_
  refine o_give (g_fld (evv rfl)) rfl rfl ?_
  refine o_give (g_load (evv rfl) (by rfl) (by rfl)) rfl rfl ?_
  refine o_give (g_fld (evv rfl)) rfl rfl ?_
  refine o_give (g_load (evv rfl) (by rfl) (by rfl)) rfl rfl ?_
  refine o_give (g_bin (evv rfl) (evv rfl) (by rfl)) rfl rfl ?_
  refine o_give (g_move (evv rfl)) rfl rfl ?_
  refine o_lazy rfl (fun hg => g_fld (evv rfl)) rfl rfl ?_
  refine o_lazy rfl (fun hg => g_load (evg rfl hg) (by rfl) (by rfl)) rfl rfl ?_
  refine o_lazy rfl (fun hg => g_fld (evv rfl)) rfl rfl ?_
  refine o_lazy rfl (fun hg => g_load (evg rfl hg) (by rfl) (by rfl)) rfl rfl ?_
  refine o_lazy rfl (fun hg => g_bin (by first | exact evv rfl | exact evg rfl (by rw [hp]; rfl) | exact evg rfl hp | exact evg rfl hg | exact evg rfl (by first | (simp_all; done) | (simp [*]; done) | fail) | fail) (by first | exact evv rfl | exact evg rfl (by rw [hp]; rfl) | exact evg rfl hp | exact evg rfl hg | exact evg rfl (by first | (simp_all; done) | (simp [*]; done) | fail) | fail) (by rfl)) rfl rfl ?_
  refine o_give (g_pick_or (evv rfl) (evv rfl) (fun hp => (by first | exact evv rfl | exact evg rfl (by rw [hp]; rfl) | exact evg rfl hp | exact evg rfl hg | exact evg rfl (by first | (simp_all; done) | (simp [*]; done) | fail) | fail))) rfl rfl ?_
  refine o_give (g_move (evv rfl)) rfl rfl ?_
  refine o_lazy rfl (fun hg => g_fld (evv rfl)) rfl rfl ?_
  refine o_lazy rfl (fun hg => g_load (evg rfl hg) (by rfl) (by rfl)) rfl rfl ?_
  refine o_lazy rfl (fun hg => g_fld (evv rfl)) rfl rfl ?_
  refine o_lazy rfl (fun hg => g_load (evg rfl hg) (by rfl) (by rfl)) rfl rfl ?_
  refine o_lazy rfl (fun hg => g_bin (by first | exact evv rfl | exact evg rfl (by rw [hp]; rfl) | exact evg rfl hp | exact evg rfl hg | exact evg rfl (by first | (simp_all; done) | (simp [*]; done) | fail) | fail) (by first | exact evv rfl | exact evg rfl (by rw [hp]; rfl) | exact evg rfl hp | exact evg rfl hg | exact evg rfl (by first | (simp_all; done) | (simp [*]; done) | fail) | fail) (by rfl)) rfl rfl ?_
  refine o_give (g_pick_or (evv rfl) (evv rfl) (fun hp => (by first | exact evv rfl | exact evg rfl (by rw [hp]; rfl) | exact evg rfl hp | exact evg rfl hg | exact evg rfl (by first | (simp_all; done) | (simp [*]; done) | fail) | fail))) rfl rfl ?_
  refine o_give (g_move (evv rfl)) rfl rfl ?_
  refine o_lazy rfl (fun hg => g_fld (evv rfl)) rfl rfl ?_
  refine o_lazy rfl (fun hg => g_load (evg rfl hg) (by rfl) (by rfl)) rfl rfl ?_
  refine o_lazy rfl (fun hg => g_fld (evv rfl)) rfl rfl ?_
  refine o_lazy rfl (fun hg => g_load (evg rfl hg) (by rfl) (by rfl)) rfl rfl ?_
  refine o_lazy rfl (fun hg => g_bin (by first | exact evv rfl | exact evg rfl (by rw [hp]; rfl) | exact evg rfl hp | exact evg rfl hg | exact evg rfl (by first | (simp_all; done) | (simp [*]; done) | fail) | fail) (by first | exact evv rfl | exact evg rfl (by rw [hp]; rfl) | exact evg rfl hp | exact evg rfl hg | exact evg rfl (by first | (simp_all; done) | (simp [*]; done) | fail) | fail) (by rfl)) rfl rfl ?_
  refine o_give (g_pick_or (evv rfl) (evv rfl) (fun hp => (by first | exact evv rfl | exact evg rfl (by rw [hp]; rfl) | exact evg rfl hp | exact evg rfl hg | exact evg rfl (by first | (simp_all; done) | (simp [*]; done) | fail) | fail))) rfl rfl ?_
  refine o_give (g_move (evv rfl)) rfl rfl ?_
  refine o_lazy rfl (fun hg => g_fld (evv rfl)) rfl rfl ?_
  refine o_lazy rfl (fun hg => g_load (evg rfl hg) (by rfl) (by rfl)) rfl rfl ?_
  refine o_lazy rfl (fun hg => g_fld (evv rfl)) rfl rfl ?_
  refine o_lazy rfl (fun hg => g_load (evg rfl hg) (by rfl) (by rfl)) rfl rfl ?_
  refine o_lazy rfl (fun hg => g_bin (by first | exact evv rfl | exact evg rfl (by rw [hp]; rfl) | exact evg rfl hp | exact evg rfl hg | exact evg rfl (by first | (simp_all; done) | (simp [*]; done) | fail) | fail) (by first | exact evv rfl | exact evg rfl (by rw [hp]; rfl) | exact evg rfl hp | exact evg rfl hg | exact evg rfl (by first | (simp_all; done) | (simp [*]; done) | fail) | fail) (by rfl)) rfl rfl ?_
  refine o_give (g_pick_or (evv rfl) (evv rfl) (fun hp => (by first | exact evv rfl | exact evg rfl (by rw [hp]; rfl) | exact evg rfl hp | exact evg rfl hg | exact evg rfl (by first | (simp_all; done) | (simp [*]; done) | fail) | fail))) rfl rfl ?_
  refine o_give (g_move (evv rfl)) rfl rfl ?_
  refine o_lazy rfl (fun hg => g_fld (evv rfl)) rfl rfl ?_
  refine o_lazy rfl (fun hg => g_load (evg rfl hg) (by rfl) (by rfl)) rfl rfl ?_
  refine o_lazy rfl (fun hg => g_fld (evv rfl)) rfl rfl ?_
  refine o_lazy rfl (fun hg => g_load (evg rfl hg) (by rfl) (by rfl)) rfl rfl ?_
  refine o_lazy rfl (fun hg => g_bin (by first | exact evv rfl | exact evg rfl (by rw [hp]; rfl) | exact evg rfl hp | exact evg rfl hg | exact evg rfl (by first | (simp_all; done) | (simp [*]; done) | fail) | fail) (by first | exact evv rfl | exact evg rfl (by rw [hp]; rfl) | exact evg rfl hp | exact evg rfl hg | exact evg rfl (by first | (simp_all; done) | (simp [*]; done) | fail) | fail) (by rfl)) rfl rfl ?_
  refine o_give (g_pick_or (evv rfl) (evv rfl) (fun hp => (by first | exact evv rfl | exact evg rfl (by rw [hp]; rfl) | exact evg rfl hp | exact evg rfl hg | exact evg rfl (by first | (simp_all; done) | (simp [*]; done) | fail) | fail))) rfl rfl ?_
  refine o_give (g_move (evv rfl)) rfl rfl ?_
  refine o_lazy rfl (fun hg => g_fld (evv rfl)) rfl rfl ?_
  refine o_lazy rfl (fun hg => g_load (evg rfl hg) (by rfl) (by rfl)) rfl rfl ?_
  refine o_lazy rfl (fun hg => g_fld (evv rfl)) rfl rfl ?_
  refine o_lazy rfl (fun hg => g_load (evg rfl hg) (by rfl) (by rfl)) rfl rfl ?_
  refine o_lazy rfl (fun hg => g_bin (by first | exact evv rfl | exact evg rfl (by rw [hp]; rfl) | exact evg rfl hp | exact evg rfl hg | exact evg rfl (by first | (simp_all; done) | (simp [*]; done) | fail) | fail) (by first | exact evv rfl | exact evg rfl (by rw [hp]; rfl) | exact evg rfl hp | exact evg rfl hg | exact evg rfl (by first | (simp_all; done) | (simp [*]; done) | fail) | fail) (by rfl)) rfl rfl ?_
  refine o_give (g_pick_or (evv rfl) (evv rfl) (fun hp => (by first | exact evv rfl | exact evg rfl (by rw [hp]; rfl) | exact evg rfl hp | exact evg rfl hg | exact evg rfl (by first | (simp_all; done) | (simp [*]; done) | fail) | fail))) rfl rfl ?_
  refine o_give (g_move (evv rfl)) rfl rfl ?_
  refine o_lazy rfl (fun hg => g_fld (evv rfl)) rfl rfl ?_
  refine o_lazy rfl (fun hg => g_load (evg rfl hg) (by rfl) (by rfl)) rfl rfl ?_
  refine o_lazy rfl (fun hg => g_fld (evv rfl)) rfl rfl ?_
  refine o_lazy rfl (fun hg => g_load (evg rfl hg) (by rfl) (by rfl)) rfl rfl ?_
  refine o_lazy rfl (fun hg => g_bin (by first | exact evv rfl | exact evg rfl (by rw [hp]; rfl) | exact evg rfl hp | exact evg rfl hg | exact evg rfl (by first | (simp_all; done) | (simp [*]; done) | fail) | fail) (by first | exact evv rfl | exact evg rfl (by rw [hp]; rfl) | exact evg rfl hp | exact evg rfl hg | exact evg rfl (by first | (simp_all; done) | (simp [*]; done) | fail) | fail) (by rfl)) rfl rfl ?_
  refine o_give (g_pick_or (evv rfl) (evv rfl) (fun hp => (by first | exact evv rfl | exact evg rfl (by rw [hp]; rfl) | exact evg rfl hp | exact evg rfl hg | exact evg rfl (by first | (simp_all; done) | (simp [*]; done) | fail) | fail))) rfl rfl ?_
  refine o_give (g_move (evv rfl)) rfl rfl ?_
  refine o_lazy rfl (fun hg => g_fld (evv rfl)) rfl rfl ?_
  refine o_lazy rfl (fun hg => g_loadPt (evg rfl hg) (by rfl)) rfl rfl ?_
  refine o_lazy rfl (fun hg => g_fld (evv rfl)) rfl rfl ?_
  refine o_lazy rfl (fun hg => g_loadPt (evg rfl hg) (by rfl)) rfl rfl ?_
  refine o_lazy rfl (fun hg => g_eqB (by kernel_rfl) (by first | exact evv rfl | exact evg rfl (by rw [hp]; rfl) | exact evg rfl hp | exact evg rfl hg | exact evg rfl (by first | (simp_all; done) | (simp [*]; done) | fail) | fail) (by first | exact evv rfl | exact evg rfl (by rw [hp]; rfl) | exact evg rfl hp | exact evg rfl hg | exact evg rfl (by first | (simp_all; done) | (simp [*]; done) | fail) | fail) (by rfl) (by rfl)) rfl rfl ?_
  refine o_give (g_pick_or (evv rfl) (evv rfl) (fun hp => (by first | exact evv rfl | exact evg rfl (by rw [hp]; rfl) | exact evg rfl hp | exact evg rfl hg | exact evg rfl (by first | (simp_all; done) | (simp [*]; done) | fail) | fail))) rfl rfl ?_
  refine o_give (g_move (evv rfl)) rfl rfl ?_
  refine o_lazy rfl (fun hg => g_fld (evv rfl)) rfl rfl ?_
  refine o_lazy rfl (fun hg => g_loadGt (evg rfl hg) (by rfl)) rfl rfl ?_
  refine o_lazy rfl (fun hg => g_fld (evv rfl)) rfl rfl ?_
  refine o_lazy rfl (fun hg => g_loadGt (evg rfl hg) (by rfl)) rfl rfl ?_
  refine o_lazy rfl (fun hg => g_binS (by first | exact evv rfl | exact evg rfl (by rw [hp]; rfl) | exact evg rfl hp | exact evg rfl hg | exact evg rfl (by first | (simp_all; done) | (simp [*]; done) | fail) | fail) (by first | exact evv rfl | exact evg rfl (by rw [hp]; rfl) | exact evg rfl hp | exact evg rfl hg | exact evg rfl (by first | (simp_all; done) | (simp [*]; done) | fail) | fail) (by rfl)) rfl rfl ?_
  refine o_give (g_pick_or (evv rfl) (evv rfl) (fun hp => (by first | exact evv rfl | exact evg rfl (by rw [hp]; rfl) | exact evg rfl hp | exact evg rfl hg | exact evg rfl (by first | (simp_all; done) | (simp [*]; done) | fail) | fail))) rfl rfl ?_
  refine o_nil ?_
  refine c_code ?_
  simp only [bne_self_eq_false, decide_true, Bool.not_true, Bool.or_false]
  refine r_cond_false rfl ?_
  refine r_skip ?_
  refine c_code ?_
  refine r_seq ?_
  refine r_region (id := 3) ?_
  refine o_give (g_fld (evv rfl)) rfl rfl ?_
  refine o_give (g_loadGt (evv rfl) (by rfl)) rfl rfl ?_
  refine o_give (g_fld (evv rfl)) rfl rfl ?_
  refine o_give (g_loadGt (evv rfl) (by rfl)) rfl rfl ?_
  (refine o_call rfl _ (Ent.refl _) (SameEntries_c _ _ _ _) rfl ?_; rintro _ _ ⟨rfl, hLz⟩; obtain rfl := hLz.symm; clear hLz)
  refine o_give (g_move (evv rfl)) rfl rfl ?_
  refine o_gyes rfl ?_
  refine o_give (g_fld (evv rfl)) rfl rfl ?_
  refine o_gyes rfl ?_
  refine o_give (g_loadPt (evv rfl) (by rfl)) rfl rfl ?_
  refine o_gyes rfl ?_
  refine o_give (g_fld (evv rfl)) rfl rfl ?_
  refine o_gyes rfl ?_
  refine o_give (g_loadPt (evv rfl) (by rfl)) rfl rfl ?_
  refine o_gyes rfl ?_
  refine o_call rfl _ (Ent.refl _) (Same_c _ ⟨co, di, si, rd, ns⟩ _ _) rfl ?_
  rintro _ _ ⟨rfl, hLz⟩
  obtain rfl := hLz.symm
  clear hLz
  refine o_give (g_pick (b := true) (evv rfl) (fun _ => (evv rfl)) (fun h => by cases h)) rfl rfl ?_
  refine o_give (g_assign (evv rfl)) rfl rfl ?_
  refine o_nil ?_
  refine c_code ?_
  first | refine r_ret (rs := [.tmp 4]) rfl rfl _ ((Lay.ent (L' := L))) ?_ | refine c_end (rs := [.tmp 4]) rfl rfl _ ((Lay.ent (L' := L))) ?_
  exact ⟨rfl, rfl⟩
theorem SameOut_c (L : List Atom) (va vb : Value) (la lb : List MsgF) [ra : Rd L va (msgR la)] [rb : Rd L vb (msgR lb)] (hl : la.length = lb.length) (h : ∀ i, i < la.length → MsgEq L (la.getD i default) (lb.getD i default)) : Fn Try.prog 15 [va, vb] L fun w L' => w = .bool true ∧ L' = L := by
  refine fn_lenF ra fun hlen => ?_
  have hlen : la.length ≤ 2 ^ 63 - 1 := hlen
  refine fn_intro Try.func15 rfl Try.ntmps15 rfl (fun W0 => ?_)
  simp only [argE]
  refine r_seq ?_
  refine r_region (id := 0) ?_
  refine o_give (g_assign (evv rfl)) rfl rfl ?_
  refine o_nil ?_
  refine c_code ?_
  refine r_seq ?_
  refine r_seq ?_
  refine r_region (id := 1) ?_
  refine o_give (g_move (evv rfl)) rfl rfl ?_
  refine o_give (g_lenF (evv rfl)) rfl rfl ?_
  refine o_give (g_move (evv rfl)) rfl rfl ?_
  refine o_give (g_lenF (evv rfl)) rfl rfl ?_
  refine o_give (g_bin (evv rfl) (evv rfl) (by rfl)) rfl rfl ?_
  refine o_nil ?_
  refine c_code ?_
  refine r_cond rfl (fun hn => ?_) (fun hn => ?_) <;> (try simp only [decide_eq_true_eq, decide_eq_false_iff_not, Bool.and_eq_true, Bool.or_eq_true, Bool.not_eq_true', Bool.and_eq_false_iff, Bool.or_eq_false_iff, Bool.not_eq_false', Bool.not_eq_true, Bool.not_eq_false, Bool.true_eq_false, Bool.false_eq_true, Int.not_lt, Int.not_le, not_and, not_or, ne_eq] at hn)
  · exact absurd (by rw [hl]) hn
  · refine r_skip ?_
    refine c_code ?_
    refine r_seq ?_
    refine r_seq ?_
    refine r_region (id := 3) ?_
    refine o_give (g_assign (evv rfl)) rfl rfl ?_
    refine o_nil ?_
    refine c_code ?_
    refine r_block ?_
    refine r_loopE (σ := Nat) (fun i => i ≤ la.length) (fun i => la.length - i) (fun i => [(5, .v (.int .i64 i))]) [0, 1] (fun i => L) 0 (by dsimp only [pickE, pick1, lk2, Nat.reduceBEq, Nat.reduceAdd, Nat.zero_add, cond_true, cond_false] <;> exact rfl) ?_ (by repeat (first | exact trivial | refine ⟨rfl, ?_⟩ | refine envsub_v rfl (by first | rfl | (refine int_eq ?_; first | omega | (simp; omega) | (simp; done)) | (refine bool_eq ?_; first | (simp [*]; done) | (simp; done)) | (refine str_eq ?_; simp; done) | (refine ptr_eq ?_; omega) | fail) ?_)) ?_ ?_
    · exact Nat.zero_le _
    · exact Ent.refl _
    rintro i hi; (try dsimp only at hi); dsimp only [List.cons_append, List.nil_append]
    refine r_seq ?_
    refine r_seq ?_
    refine r_region (id := 4) ?_
    refine o_give (g_move (evv rfl)) rfl rfl ?_
    refine o_give (g_move (evv rfl)) rfl rfl ?_
    refine o_give (g_lenF (evv rfl)) rfl rfl ?_
    refine o_give (g_bin (evv rfl) (evv rfl) (by rfl)) rfl rfl ?_
    refine o_nil ?_
    refine c_code ?_
    refine r_cond rfl (fun hc => ?_) (fun hc => ?_) <;> (try simp only [decide_eq_true_eq, decide_eq_false_iff_not, Bool.and_eq_true, Bool.or_eq_true, Bool.not_eq_true', Bool.and_eq_false_iff, Bool.or_eq_false_iff, Bool.not_eq_false', Bool.not_eq_true, Bool.not_eq_false, Bool.true_eq_false, Bool.false_eq_true, Int.not_lt, Int.not_le, not_and, not_or, ne_eq] at hc)
    · have h1 : i < la.length := by omega
      have h2 : i < lb.length := by omega
      have hq := h i h1
      repeat (first | refine r_seq ?_ | refine c_code ?_ | refine c_blk ?_ | refine r_block ?_ | refine r_skip ?_)
      refine r_held (id := 6) (L) Mixed.h ?_
      refine h_give (i := 0) (by kernel_rfl) rfl (g_move (evv rfl)) rfl rfl ?_
      refine h_give (i := 1) (by kernel_rfl) rfl (g_move (evv rfl)) rfl rfl ?_
      refine h_give (i := 2) (by kernel_rfl) rfl (g_idxFN (evv rfl) (evv rfl) (by rfl) (by rfl) (by first | omega | (have := of_decide_eq_true hg; omega) | (simp at hg; omega) | (simp only [List.length_set, List.length_append, List.length_cons, List.length_nil, List.length_map, List.length_take, List.length_drop, List.length_replicate]; omega))) rfl rfl ?_
      refine h_give (i := 3) (by kernel_rfl) rfl (g_loadFr (evv rfl) (by rfl) (by first | (intro; rfl) | exact LenC.h) (by rfl) (by rfl) (by first | omega | (have := of_decide_eq_true hg; omega) | (simp at hg; omega) | (simp only [List.length_set, List.length_append, List.length_cons, List.length_nil, List.length_map, List.length_take, List.length_drop, List.length_replicate]; omega))) rfl rfl ?_
      refine h_give (i := 4) (by kernel_rfl) rfl (g_move (evv rfl)) rfl rfl ?_
      refine h_give (i := 5) (by kernel_rfl) rfl (g_move (evv rfl)) rfl rfl ?_
      refine h_give (i := 6) (by kernel_rfl) rfl (g_idxFN (evv rfl) (evv rfl) (by rfl) (by rfl) (by first | omega | (have := of_decide_eq_true hg; omega) | (simp at hg; omega) | (simp only [List.length_set, List.length_append, List.length_cons, List.length_nil, List.length_map, List.length_take, List.length_drop, List.length_replicate]; omega))) rfl rfl ?_
      refine h_give (i := 7) (by kernel_rfl) rfl (g_loadFr (evv rfl) (by rfl) (by first | (intro; rfl) | exact LenC.h) (by rfl) (by rfl) (by first | omega | (have := of_decide_eq_true hg; omega) | (simp at hg; omega) | (simp only [List.length_set, List.length_append, List.length_cons, List.length_nil, List.length_map, List.length_take, List.length_drop, List.length_replicate]; omega))) rfl rfl ?_
      refine h_one (i := 8) (by kernel_rfl) rfl (Ent.refl _) ?_
      (refine o_call rfl _ (Ent.refl _) (SameMsg_c _ _ _ (by assumption)) rfl ?_; rintro _ _ ⟨rfl, hLz⟩; obtain rfl := hLz.symm; clear hLz)
      refine o_nil ?_
      refine h_give (i := 9) (by kernel_rfl) rfl (g_not (evv rfl)) rfl rfl ?_
      refine h_done (by kernel_rfl) (Ent.refl _) ?_
      simp only [Bool.not_true]
      refine c_code ?_
      refine r_cond_false rfl ?_
      refine r_skip ?_
      refine c_blk ?_
      refine c_code ?_
      refine r_region (id := 5) ?_
      refine o_give (g_move (evv rfl)) rfl rfl ?_
      refine o_giveN (g_bin (evv rfl) (evv rfl) (by rfl)) (by simp only [inR]; omega) rfl ?_
      refine o_give (g_assign (evv rfl)) rfl rfl ?_
      refine o_nil ?_
      refine c_loop (i + 1) ?_ ?_ (by repeat (first | exact trivial | refine ⟨rfl, ?_⟩ | refine envsub_v rfl (by first | rfl | (refine int_eq ?_; first | omega | (simp; omega) | (simp; done)) | (refine bool_eq ?_; first | (simp [*]; done) | (simp; done)) | (refine str_eq ?_; simp; done) | (refine ptr_eq ?_; omega) | fail) ?_)) ?_ <;> (try dsimp only)
      · omega
      · omega
      · exact Ent.refl _
    · refine r_exit rfl ?_
      refine c_code ?_
      refine r_seq ?_
      refine r_region (id := 8) ?_
      refine o_give (g_assign (evv rfl)) rfl rfl ?_
      refine o_nil ?_
      refine c_code ?_
      first | refine r_ret (rs := [.tmp 4]) rfl rfl _ (Ent.refl _) ?_ | refine c_end (rs := [.tmp 4]) rfl rfl _ (Ent.refl _) ?_
      exact ⟨rfl, rfl⟩
end VK
