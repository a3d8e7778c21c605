/- ClientAgain, walked. Conditions: none. -/
import Derived.Test.YtmjmlmjcfekphaaCli15
--%norm
namespace VK
open Go Go.Proofs
set_option linter.unusedSimpArgs false
set_option linter.unusedVariables false
set_option maxRecDepth 100000
set_option maxHeartbeats 40000000
def ans8 : MsgF := ⟨13, 0, 108, 0, 0, 1, 0, 0, default, .slice none 0 0, [], 0, false, 0, [], .slice none 0 0⟩
theorem ClientAgain_c (W : World) (op : OpS) (ticks : Int) (ho : op.ok) (ht : inR .u8 ticks) : Fn Try.prog 5 [agg (opSC op), .int .u8 ticks] [base W] fun w L' => w = .bool true ∧ L' = [base W] := by
  have hc : cliOk 8 7 := by decide
  have k0 : CliOk 8 7 0 0 0 := ⟨by omega, by omega, by omega, by omega, by omega, by omega⟩
  refine fn_intro Try.func5 rfl Try.ntmps5 rfl (fun W0 => ?_)
  simp only [argE]
  refine r_seq ?_
  refine r_region (id := 0) ?_
  refine o_boxA (evv rfl) rfl (fun _ => ?_)
  refine o_give (g_assign (evv rfl)) rfl rfl ?_
  refine o_nil ?_
  refine c_code ?_
  refine r_seq ?_
  refine r_seq ?_
  refine r_region (id := 1) ?_
  (refine o_call rfl _ (Ent.refl _) (cAwake_c _) rfl ?_; rintro _ _ ⟨rfl, hLz⟩; obtain rfl := hLz.symm; clear hLz)
  refine o_give (g_not (evv rfl)) rfl rfl ?_
  refine o_nil ?_
  refine c_code ?_
  refine r_cond_false rfl ?_
  refine r_skip ?_
  refine c_code ?_
  refine r_seq ?_
  refine r_region (id := 3) ?_
  (refine o_call rfl _ (Ent.refl _) (CNewN_c _ _ _ (by assumption)) rfl ?_; rintro _ _ ⟨cb, rfl, rfl⟩)
  refine o_give (g_move (evv rfl)) rfl rfl ?_
  refine o_give (g_extract (evv rfl) (by rfl)) rfl rfl ?_
  refine o_give (g_extract (evv rfl) (by rfl)) rfl rfl ?_
  refine o_give (g_assign (evv rfl)) rfl rfl ?_
  refine o_give (g_assign (evv rfl)) rfl rfl ?_
  refine o_nil ?_
  refine c_code ?_
  refine r_seq ?_
  refine r_seq ?_
  refine r_region (id := 4) ?_
  refine o_give (g_move (evv rfl)) rfl rfl ?_
  refine o_give (g_pnil TyU.h (evv rfl) (evv rfl) (by simp) (by rfl)) rfl rfl ?_
  refine o_nil ?_
  refine c_code ?_
  refine r_cond_false rfl ?_
  refine r_skip ?_
  refine c_code ?_
  refine r_seq ?_
  rename_i q
  by_cases hE : callE 0 0 op = 0
  · repeat (first | refine r_seq ?_ | refine c_code ?_ | refine c_blk ?_ | refine r_skip ?_ | refine r_cond_false rfl ?_)
    refine r_region (id := 6) ?_
    refine o_give (g_move (evv rfl)) rfl rfl ?_
    refine o_give (g_loadF (evv rfl) (by rfl) (by rfl)) rfl rfl ?_
    refine o_call rfl _ (PickR.ent (K := blk cb)) (CallY_c _ cb 8 7 0 0 0 zeroOp op ho k0 hE) rfl ?_
    rintro _ _ ⟨u, vs, rfl, hvs, rfl⟩
    simp only [Int.zero_add]
    refine o_give (g_move (evv rfl)) rfl rfl ?_
    refine o_give (g_extract (evv rfl) (by rfl)) rfl rfl ?_
    refine o_give (g_extract (evv rfl) (by rfl)) rfl rfl ?_
    refine o_give (g_assign (evv rfl)) rfl rfl ?_
    refine o_give (g_assign (evv rfl)) rfl rfl ?_
    refine o_nil ?_
    refine c_code ?_
    refine r_seq ?_
    refine r_seq ?_
    have hlv : vs.length = 7 := by omega
    have hrl : (reqL 8 vs).length = 7 := by rw [reqL_len]; exact hlv
    refine r_region (id := 7) ?_
    refine o_give (g_move (evv rfl)) rfl rfl ?_
    refine o_give (g_bin (evv rfl) (evv rfl) (by rfl)) rfl rfl ?_
    refine o_nil ?_
    refine c_code ?_
    refine r_cond_false rfl ?_
    refine r_skip ?_
    refine c_code ?_
    refine r_seq ?_
    refine r_seq ?_
    refine r_region (id := 9) ?_
    refine o_give (g_assign (evv rfl)) rfl rfl ?_
    refine o_nil ?_
    refine c_code ?_
    refine r_block ?_
    refine r_loopE (σ := Nat) (fun i => i ≤ 7) (fun i => 7 - i) (fun i => [(9, .v (.int .i64 (i : Int)))]) [1, 2, 5, 7] (fun i => blk cb ⟨cliC 8 7 1 4 true op, 68⟩ :: sl u (msgR (reqL 8 vs)) :: rom (reqRom ⟨8, 1, op⟩ vs) :: blk q ⟨opSC op, 29⟩ :: [base W]) 0 (by dsimp only [pickE, pick1, lk2, Nat.reduceBEq, Nat.reduceAdd, Nat.zero_add, cond_true, cond_false] <;> exact rfl) ?_ (by repeat (first | exact trivial | refine ⟨rfl, ?_⟩ | refine envsub_v rfl (by first | rfl | (refine int_eq ?_; first | omega | (simp; omega) | (simp; done)) | (refine bool_eq ?_; first | (simp [*]; done) | (simp; done)) | (refine str_eq ?_; simp; done) | (refine ptr_eq ?_; omega) | fail) ?_)) ?_ ?_
    · omega
    · exact Lay.ent
    rintro i hi; (try dsimp only at hi); dsimp only [List.cons_append, List.nil_append]
    refine r_seq ?_
    refine r_seq ?_
    refine r_region (id := 10) ?_
    refine o_give (g_move (evv rfl)) rfl rfl ?_
    refine o_give (g_move (evv rfl)) rfl rfl ?_
    refine o_give (g_lenF (evv rfl)) rfl rfl ?_
    refine o_give (g_bin (evv rfl) (evv rfl) (by rfl)) rfl rfl ?_
    refine o_nil ?_
    refine c_code ?_
    refine r_cond rfl (fun hcnd => ?_) (fun hcnd => ?_) <;> (try simp only [decide_eq_true_eq, decide_eq_false_iff_not, Bool.and_eq_true, Bool.or_eq_true, Bool.not_eq_true', Bool.and_eq_false_iff, Bool.or_eq_false_iff, Bool.not_eq_false', Bool.not_eq_true, Bool.not_eq_false, Bool.true_eq_false, Bool.false_eq_true, Int.not_lt, Int.not_le, not_and, not_or, ne_eq] at hcnd)
    · have hX := reqL_get (id := 8) (vs := vs) (i := i) (by omega)
      have hil : i < (reqL 8 vs).length := by omega
      have hmem : (vs.getD i undef, entR [⟨8, 1, op⟩]) ∈ reqRom ⟨8, 1, op⟩ vs := by simp [reqRom, show i < vs.length by omega]
      haveI : Rd (blk cb ⟨cliC 8 7 1 4 true op, 68⟩ :: sl u (msgR (reqL 8 vs)) :: rom (reqRom ⟨8, 1, op⟩ vs) :: blk q ⟨opSC op, 29⟩ :: [base W]) (vs.getD i undef) (entR [⟨8, 1, op⟩]) := (inferInstance : AllRd _ (reqRom ⟨8, 1, op⟩ vs)).h _ hmem
      repeat (first | refine r_seq ?_ | refine c_code ?_ | refine c_blk ?_ | refine r_block ?_ | refine r_skip ?_)
      refine r_held (id := 12) (blk cb ⟨cliC 8 7 1 4 true op, 68⟩ :: sl u (msgR (reqL 8 vs)) :: rom (reqRom ⟨8, 1, op⟩ vs) :: blk q ⟨opSC op, 29⟩ :: [base W]) Mixed.h ?_
      refine h_give (i := 0) (by kernel_rfl) rfl (g_move (evv rfl)) rfl rfl ?_
      refine h_give (i := 1) (by kernel_rfl) rfl (g_move (evv rfl)) rfl rfl ?_
      refine h_give (i := 2) (by kernel_rfl) rfl (g_idxFN (evv rfl) (evv rfl) (by rfl) (by rfl) (by first | omega | (have := of_decide_eq_true hg; omega) | (simp at hg; omega) | (simp only [List.length_set, List.length_append, List.length_cons, List.length_nil, List.length_map, List.length_take, List.length_drop, List.length_replicate]; omega))) rfl rfl ?_
      refine h_give (i := 3) (by kernel_rfl) rfl (g_fldE (evv rfl) (by first | (simp only [frow, mrow]; omega) | (simp only [frow, mrow, List.length_set, List.length_append, List.length_cons]; omega) | fail) (by first | exact Nat.succ_pos _ | decide)) rfl rfl ?_
      refine h_give (i := 4) (by kernel_rfl) rfl (g_loadFld (evv rfl) (by rfl) (by first | (intro; rfl) | exact LenC.h) (by first | omega | (have := of_decide_eq_true hg; omega) | (simp at hg; omega) | (simp only [List.length_set, List.length_append, List.length_cons, List.length_nil, List.length_map, List.length_take, List.length_drop, List.length_replicate]; omega)) (by rfl)) rfl rfl ?_
      simp only [hX, reqM]
      refine h_give (i := 5) (by kernel_rfl) rfl (g_bin (evv rfl) (evv rfl) (by rfl)) rfl rfl ?_
      simp only [show decide ((100 : Int) + 8 = 108) = true from rfl, Bool.not_true]
      refine h_give (i := 6) (by kernel_rfl) rfl (g_move (evv rfl)) rfl rfl ?_
      refine h_sure (i := 7) (by kernel_rfl) rfl rfl (g_move (evv rfl)) rfl rfl ?_
      refine h_sure (i := 8) (by kernel_rfl) rfl rfl (g_move (evv rfl)) rfl rfl ?_
      refine h_sure (i := 9) (by kernel_rfl) rfl rfl (g_idxFN (evv rfl) (evv rfl) (by rfl) (by rfl) (by first | omega | (have := of_decide_eq_true hg; omega) | (simp at hg; omega) | (simp only [List.length_set, List.length_append, List.length_cons, List.length_nil, List.length_map, List.length_take, List.length_drop, List.length_replicate]; omega))) rfl rfl ?_
      refine h_sure (i := 10) (by kernel_rfl) rfl rfl (g_fldE (evv rfl) (by first | (simp only [frow, mrow]; omega) | (simp only [frow, mrow, List.length_set, List.length_append, List.length_cons]; omega) | fail) (by first | exact Nat.succ_pos _ | decide)) rfl rfl ?_
      refine h_sure (i := 11) (by kernel_rfl) rfl rfl (g_loadFld (evv rfl) (by rfl) (by first | (intro; rfl) | exact LenC.h) (by first | omega | (have := of_decide_eq_true hg; omega) | (simp at hg; omega) | (simp only [List.length_set, List.length_append, List.length_cons, List.length_nil, List.length_map, List.length_take, List.length_drop, List.length_replicate]; omega)) (by rfl)) rfl rfl ?_
      simp only [hX, reqM]
      refine h_sure (i := 12) (by kernel_rfl) rfl rfl (g_move (evv rfl)) rfl rfl ?_
      refine h_sure (i := 13) (by kernel_rfl) rfl rfl (g_bin (evv rfl) (evv rfl) (by rfl)) rfl rfl ?_
      refine h_give (i := 14) (by kernel_rfl) rfl (g_pick (b := false) (evv rfl) (fun h => by cases h) (fun _ => (evv rfl))) rfl rfl ?_
      simp only [decide_true, Bool.not_true, Bool.or_false]
      refine h_give (i := 15) (by kernel_rfl) rfl (g_move (evv rfl)) rfl rfl ?_
      refine h_sure (i := 16) (by kernel_rfl) rfl rfl (g_move (evv rfl)) rfl rfl ?_
      refine h_sure (i := 17) (by kernel_rfl) rfl rfl (g_move (evv rfl)) rfl rfl ?_
      refine h_sure (i := 18) (by kernel_rfl) rfl rfl (g_idxFN (evv rfl) (evv rfl) (by rfl) (by rfl) (by first | omega | (have := of_decide_eq_true hg; omega) | (simp at hg; omega) | (simp only [List.length_set, List.length_append, List.length_cons, List.length_nil, List.length_map, List.length_take, List.length_drop, List.length_replicate]; omega))) rfl rfl ?_
      refine h_sure (i := 19) (by kernel_rfl) rfl rfl (g_fldE (evv rfl) (by first | (simp only [frow, mrow]; omega) | (simp only [frow, mrow, List.length_set, List.length_append, List.length_cons]; omega) | fail) (by first | exact Nat.succ_pos _ | decide)) rfl rfl ?_
      refine h_sure (i := 20) (by kernel_rfl) rfl rfl (g_loadFldG (evv rfl) (by rfl) (by first | omega | (have := of_decide_eq_true hg; omega) | (simp at hg; omega) | (simp only [List.length_set, List.length_append, List.length_cons, List.length_nil, List.length_map, List.length_take, List.length_drop, List.length_replicate]; omega))) rfl rfl ?_
      simp only [hX, reqM]
      refine h_sure (i := 21) (by kernel_rfl) rfl rfl (g_lenF (evv rfl)) rfl rfl ?_
      refine h_sure (i := 22) (by kernel_rfl) rfl rfl (g_bin (evv rfl) (evv rfl) (by rfl)) rfl rfl ?_
      refine h_give (i := 23) (by kernel_rfl) rfl (g_pick (b := false) (evv rfl) (fun h => by cases h) (fun _ => (evv rfl))) rfl rfl ?_
      simp only [show decide (((([⟨8, 1, op⟩] : List EntS).length : Nat) : Int) = 1) = true from rfl, Bool.not_true, Bool.or_false]
      refine h_give (i := 24) (by kernel_rfl) rfl (g_move (evv rfl)) rfl rfl ?_
      refine h_sure (i := 25) (by kernel_rfl) rfl rfl (g_move (evv rfl)) rfl rfl ?_
      refine h_sure (i := 26) (by kernel_rfl) rfl rfl (g_move (evv rfl)) rfl rfl ?_
      refine h_sure (i := 27) (by kernel_rfl) rfl rfl (g_idxFN (evv rfl) (evv rfl) (by rfl) (by rfl) (by first | omega | (have := of_decide_eq_true hg; omega) | (simp at hg; omega) | (simp only [List.length_set, List.length_append, List.length_cons, List.length_nil, List.length_map, List.length_take, List.length_drop, List.length_replicate]; omega))) rfl rfl ?_
      refine h_sure (i := 28) (by kernel_rfl) rfl rfl (g_fldE (evv rfl) (by first | (simp only [frow, mrow]; omega) | (simp only [frow, mrow, List.length_set, List.length_append, List.length_cons]; omega) | fail) (by first | exact Nat.succ_pos _ | decide)) rfl rfl ?_
      refine h_sure (i := 29) (by kernel_rfl) rfl rfl (g_loadFldG (evv rfl) (by rfl) (by first | omega | (have := of_decide_eq_true hg; omega) | (simp at hg; omega) | (simp only [List.length_set, List.length_append, List.length_cons, List.length_nil, List.length_map, List.length_take, List.length_drop, List.length_replicate]; omega))) rfl rfl ?_
      simp only [hX, reqM]
      refine h_sure (i := 30) (by kernel_rfl) rfl rfl (g_idxFN (evv rfl) (evv rfl) (by rfl) (by rfl) (by first | omega | (have := of_decide_eq_true hg; omega) | (simp at hg; omega) | (simp only [List.length_set, List.length_append, List.length_cons, List.length_nil, List.length_map, List.length_take, List.length_drop, List.length_replicate]; omega))) rfl rfl ?_
      refine h_sure (i := 31) (by kernel_rfl) rfl rfl (g_loadFr (evv rfl) (by rfl) (by first | (intro; rfl) | exact LenC.h) (by rfl) (by rfl) (by first | omega | (have := of_decide_eq_true hg; omega) | (simp at hg; omega) | (simp only [List.length_set, List.length_append, List.length_cons, List.length_nil, List.length_map, List.length_take, List.length_drop, List.length_replicate]; omega))) rfl rfl ?_
      refine h_sure (i := 32) (by kernel_rfl) rfl rfl (g_loadF (evv rfl) (by rfl) (by rfl)) rfl rfl ?_
      refine h_sure (i := 33) (by kernel_rfl) rfl rfl (g_buildC rfl (by rfl)) rfl rfl ?_
      simp only [show agg [Value.int IntKind.i64 8, Value.int IntKind.i64 1, Value.int IntKind.i64 op.kind, str op.path, str op.to_, str op.data, Value.int IntKind.i64 op.at_, Value.int IntKind.i64 op.size] = agg (entC ⟨8, 1, op⟩) from rfl, show (([⟨8, 1, op⟩] : List EntS).getD 0 default) = ⟨8, 1, op⟩ from rfl]
      refine h_sure (i := 34) (by kernel_rfl) rfl rfl (g_eqS (by kernel_rfl) (evv rfl) (evv rfl) (by rfl)) rfl rfl ?_
      refine h_give (i := 35) (by kernel_rfl) rfl (g_pick (b := false) (evv rfl) (fun h => by cases h) (fun _ => (evv rfl))) rfl rfl ?_
      simp only [decide_true, Bool.not_true, Bool.or_false]
      refine h_done (by kernel_rfl) (Lay.ent) ?_
      refine c_code ?_
      refine r_cond_false rfl ?_
      refine r_skip ?_
      refine c_blk ?_
      refine c_code ?_
      refine r_region (id := 11) ?_
      refine o_give (g_move (evv rfl)) rfl rfl ?_
      refine o_giveN (g_bin (evv rfl) (evv rfl) (by rfl)) (by simp only [inR]; omega) rfl ?_
      refine o_give (g_assign (evv rfl)) rfl rfl ?_
      refine o_nil ?_
      refine c_loop (i + 1) ?_ ?_ (by repeat (first | exact trivial | refine ⟨rfl, ?_⟩ | refine envsub_v rfl (by first | rfl | (refine int_eq ?_; first | omega | (simp; omega) | (simp; done)) | (refine bool_eq ?_; first | (simp [*]; done) | (simp; done)) | (refine str_eq ?_; simp; done) | (refine ptr_eq ?_; omega) | fail) ?_)) ?_ <;> (try dsimp only)
      · omega
      · omega
      · exact Lay.ent
    · have hn : 0 ≤ ticks % 60 ∧ ticks % 60 ≤ 59 := by omega
      have htk : 0 ≤ ticks := by simp only [inR] at ht; omega
      refine r_exit rfl ?_
      refine c_code ?_
      refine r_seq ?_
      refine r_region (id := 14) ?_
      refine o_give (g_move (evv rfl)) rfl rfl ?_
      refine o_give (g_remP (evv rfl) (evv rfl) (by omega) (by omega)) rfl rfl ?_
      refine o_giveN (g_conv TyU.h TyU.h (evv rfl)) (by simp only [inR]; omega) rfl ?_
      refine o_give (g_assign (evv rfl)) rfl rfl ?_
      refine o_nil ?_
      refine c_code ?_
      refine r_seq ?_
      refine r_seq ?_
      refine r_region (id := 15) ?_
      refine o_give (g_assign (evv rfl)) rfl rfl ?_
      refine o_nil ?_
      refine c_code ?_
      refine r_block ?_
      refine r_loopE (σ := Int × Int) (fun x => 1 ≤ x.1 ∧ x.1 ≤ ticks % 60 + 1 ∧ 1 ≤ x.2 ∧ x.2 ≤ 4 ∧ (x.2 + x.1) % 4 = 1) (fun x => (ticks % 60 + 1 - x.1).toNat) (fun x => [(11, .v (.int .i64 x.1))]) [2, 5, 7, 10] (fun x => blk cb ⟨cliC 8 7 1 x.2 (decide (0 < x.2)) op, 68⟩ :: sl u (msgR (reqL 8 vs)) :: rom (reqRom ⟨8, 1, op⟩ vs) :: blk q ⟨opSC op, 29⟩ :: [base W]) (1, 4) (by dsimp only [pickE, pick1, lk2, Nat.reduceBEq, Nat.reduceAdd, Nat.zero_add, cond_true, cond_false] <;> exact rfl) ?_ (by repeat (first | exact trivial | refine ⟨rfl, ?_⟩ | refine envsub_v rfl (by first | rfl | (refine int_eq ?_; first | omega | (simp; omega) | (simp; done)) | (refine bool_eq ?_; first | (simp [*]; done) | (simp; done)) | (refine str_eq ?_; simp; done) | (refine ptr_eq ?_; omega) | fail) ?_)) ?_ ?_
      · exact ⟨by decide, by dsimp only; omega, by decide, by decide, by decide⟩
      · exact (show Ent _ (blk cb ⟨cliC 8 7 1 4 true op, 68⟩ :: sl u (msgR (reqL 8 vs)) :: rom (reqRom ⟨8, 1, op⟩ vs) :: blk q ⟨opSC op, 29⟩ :: [base W]) from Lay.ent)
      rintro ⟨i, t⟩ ⟨g1, g2, g3, g4, g5⟩; dsimp only [List.cons_append, List.nil_append]
      dsimp only at g1 g2 g3 g4 g5
      refine r_seq ?_
      refine r_seq ?_
      refine r_region (id := 16) ?_
      refine o_give (g_move (evv rfl)) rfl rfl ?_
      refine o_give (g_move (evv rfl)) rfl rfl ?_
      refine o_give (g_bin (evv rfl) (evv rfl) (by rfl)) rfl rfl ?_
      refine o_nil ?_
      refine c_code ?_
      refine r_cond rfl (fun hcn => ?_) (fun hcn => ?_) <;> (try simp only [decide_eq_true_eq, decide_eq_false_iff_not, Bool.and_eq_true, Bool.or_eq_true, Bool.not_eq_true', Bool.and_eq_false_iff, Bool.or_eq_false_iff, Bool.not_eq_false', Bool.not_eq_true, Bool.not_eq_false, Bool.true_eq_false, Bool.false_eq_true, Int.not_lt, Int.not_le, not_and, not_or, ne_eq] at hcn)
      · simp only [decide_eq_true (show 0 < t by omega)]
        by_cases t1 : t = 1
        · subst t1
          have h4 : i % 4 = 0 := by omega
          refine r_skip ?_
          refine c_code ?_
          refine r_seq ?_
          refine r_block ?_
          refine r_seq ?_
          refine r_region (id := 18) ?_
          refine o_give (g_move (evv rfl)) rfl rfl ?_
          (refine o_call rfl _ (PickR.ent (K := blk cb)) (Tick1_c _ cb 8 7 1 op (by decide) (by decide)) rfl ?_; rintro u2 _ ⟨vs2, hvs2, rfl⟩)
          refine o_give (g_assign (evv rfl)) rfl rfl ?_
          refine o_nil ?_
          refine c_code ?_
          refine r_seq ?_
          refine r_region (id := 19) ?_
          refine o_give (g_move (evv rfl)) rfl rfl ?_
          refine o_give (g_remP (evv rfl) (evv rfl) (by omega) (by omega)) rfl rfl ?_
          refine o_give (g_bin (evv rfl) (evv rfl) (by rfl)) rfl rfl ?_
          refine o_give (g_move (evv rfl)) rfl rfl ?_
          refine o_lazy rfl (fun hg => g_move (by first | exact evv rfl | exact evg rfl (by rw [hp]; rfl) | exact evg rfl hp | exact evg rfl hg | exact evg rfl (by first | (simp_all; done) | (simp [*]; done) | fail) | fail)) rfl rfl ?_
          refine o_lazy rfl (fun hg => g_move (by first | exact evv rfl | exact evg rfl (by rw [hp]; rfl) | exact evg rfl hp | exact evg rfl hg | exact evg rfl (by first | (simp_all; done) | (simp [*]; done) | fail) | fail)) rfl rfl ?_
          simp only [decide_eq_true h4]
          refine o_sure (t := 110) rfl rfl ?_
          refine o_sure (t := 111) rfl rfl ?_
          refine o_gyes rfl ?_
          (refine o_call rfl _ (Ent.refl _) (SameOut_c _ u2 u (reqL 8 vs2) (reqL 8 vs) (by rw [reqL_len, reqL_len]; omega) (reqEq (e := ⟨8, 1, op⟩) (by omega))) rfl ?_; rintro _ _ ⟨rfl, hLz⟩; obtain rfl := hLz.symm; clear hLz)
          refine o_gyes rfl ?_
          refine o_give (g_not (evv rfl)) rfl rfl ?_
          refine o_give (g_pick (b := true) (evv rfl) (fun _ => (evv rfl)) (fun h => by cases h)) rfl rfl ?_
          refine o_give (g_move (evv rfl)) rfl rfl ?_
          refine o_gyes rfl ?_
          refine o_give (g_move (evv rfl)) rfl rfl ?_
          refine o_gyes rfl ?_
          refine o_give (g_remP (evv rfl) (evv rfl) (by omega) (by omega)) rfl rfl ?_
          refine o_gyes rfl ?_
          refine o_give (g_bin (evv rfl) (evv rfl) (by rfl)) rfl rfl ?_
          refine o_gyes rfl ?_
          refine o_give (g_move (evv rfl)) rfl rfl ?_
          refine o_lazy rfl (fun hg => g_move (by first | exact evv rfl | exact evg rfl (by rw [hp]; rfl) | exact evg rfl hp | exact evg rfl hg | exact evg rfl (by first | (simp_all; done) | (simp [*]; done) | fail) | fail)) rfl rfl ?_
          refine o_lazy rfl (fun hg => g_lenF (by first | exact evv rfl | exact evg rfl (by rw [hp]; rfl) | exact evg rfl hp | exact evg rfl hg | exact evg rfl (by first | (simp_all; done) | (simp [*]; done) | fail) | fail)) rfl rfl ?_
          refine o_lazy rfl (fun hg => g_bin (by first | exact evv rfl | exact evg rfl (by rw [hp]; rfl) | exact evg rfl hp | exact evg rfl hg | exact evg rfl (by first | (simp_all; done) | (simp [*]; done) | fail) | fail) (by first | exact evv rfl | exact evg rfl (by rw [hp]; rfl) | exact evg rfl hp | exact evg rfl hg | exact evg rfl (by first | (simp_all; done) | (simp [*]; done) | fail) | fail) (by rfl)) rfl rfl ?_
          refine o_gyes rfl ?_
          refine o_give (g_pick_and (evv rfl) (evv rfl) (fun hp => (by first | exact evv rfl | exact evg rfl (by rw [hp]; rfl) | exact evg rfl hp | exact evg rfl hg | exact evg rfl (by first | (simp_all; done) | (simp [*]; done) | fail) | fail))) rfl rfl ?_
          refine o_give (g_pick (b := false) (evv rfl) (fun h => by cases h) (fun _ => (evv rfl))) rfl rfl ?_
          refine o_nil ?_
          refine c_code ?_
          simp only [decide_eq_true h4, Bool.not_true, Bool.false_and]
          refine r_cond_false rfl ?_
          refine r_skip ?_
          refine c_blk ?_
          refine c_code ?_
          refine r_region (id := 17) ?_
          refine o_give (g_move (evv rfl)) rfl rfl ?_
          refine o_giveN (g_bin (evv rfl) (evv rfl) (by rfl)) (by simp only [inR]; omega) rfl ?_
          refine o_give (g_assign (evv rfl)) rfl rfl ?_
          refine o_nil ?_
          refine c_loop (i + 1, 4) ?_ ?_ (by repeat (first | exact trivial | refine ⟨rfl, ?_⟩ | refine envsub_v rfl (by first | rfl | (refine int_eq ?_; first | omega | (simp; omega) | (simp; done)) | (refine bool_eq ?_; first | (simp [*]; done) | (simp; done)) | (refine str_eq ?_; simp; done) | (refine ptr_eq ?_; omega) | fail) ?_)) ?_ <;> (try dsimp only)
          · exact ⟨by omega, by omega, by omega, by omega, by omega⟩
          · omega
          · exact (show Ent _ (blk cb ⟨cliC 8 7 1 4 true op, 68⟩ :: sl u (msgR (reqL 8 vs)) :: rom (reqRom ⟨8, 1, op⟩ vs) :: blk q ⟨opSC op, 29⟩ :: [base W]) from Lay.ent)
        · have t2 : 2 ≤ t := by omega
          have h4 : ¬ i % 4 = 0 := by omega
          refine r_skip ?_
          refine c_code ?_
          refine r_seq ?_
          refine r_block ?_
          refine r_seq ?_
          refine r_region (id := 18) ?_
          refine o_give (g_move (evv rfl)) rfl rfl ?_
          (refine o_call rfl _ (PickR.ent (K := blk cb)) (Tick2_c _ cb 8 7 1 t op t2 g4) rfl ?_; rintro _ _ ⟨rfl, rfl⟩)
          refine o_give (g_assign (evv rfl)) rfl rfl ?_
          refine o_nil ?_
          refine c_code ?_
          refine r_seq ?_
          refine r_region (id := 19) ?_
          refine o_give (g_move (evv rfl)) rfl rfl ?_
          refine o_give (g_remP (evv rfl) (evv rfl) (by omega) (by omega)) rfl rfl ?_
          refine o_give (g_bin (evv rfl) (evv rfl) (by rfl)) rfl rfl ?_
          refine o_give (g_move (evv rfl)) rfl rfl ?_
          refine o_lazy rfl (fun hg => g_move (by first | exact evv rfl | exact evg rfl (by rw [hp]; rfl) | exact evg rfl hp | exact evg rfl hg | exact evg rfl (by first | (simp_all; done) | (simp [*]; done) | fail) | fail)) rfl rfl ?_
          refine o_lazy rfl (fun hg => g_move (by first | exact evv rfl | exact evg rfl (by rw [hp]; rfl) | exact evg rfl hp | exact evg rfl hg | exact evg rfl (by first | (simp_all; done) | (simp [*]; done) | fail) | fail)) rfl rfl ?_
          simp only [decide_eq_false h4]
          refine o_lazy (v0 := undef) rfl (fun hg => absurd hg (by first | (simp; done) | fail)) rfl rfl ?_
          refine o_lazy (v0 := undef) rfl (fun hg => absurd hg (by first | (simp; done) | fail)) rfl rfl ?_
          refine o_give (g_pick (b := false) (evv rfl) (fun h => by cases h) (fun _ => (evv rfl))) rfl rfl ?_
          refine o_give (g_move (evv rfl)) rfl rfl ?_
          refine o_gyes rfl ?_
          refine o_give (g_move (evv rfl)) rfl rfl ?_
          refine o_gyes rfl ?_
          refine o_give (g_remP (evv rfl) (evv rfl) (by omega) (by omega)) rfl rfl ?_
          refine o_gyes rfl ?_
          refine o_give (g_bin (evv rfl) (evv rfl) (by rfl)) rfl rfl ?_
          refine o_gyes rfl ?_
          refine o_give (g_move (evv rfl)) rfl rfl ?_
          refine o_lazy rfl (fun hg => g_move (by first | exact evv rfl | exact evg rfl (by rw [hp]; rfl) | exact evg rfl hp | exact evg rfl hg | exact evg rfl (by first | (simp_all; done) | (simp [*]; done) | fail) | fail)) rfl rfl ?_
          refine o_lazy rfl (fun hg => g_len TyU.h (by first | exact evv rfl | exact evg rfl (by rw [hp]; rfl) | exact evg rfl hp | exact evg rfl hg | exact evg rfl (by first | (simp_all; done) | (simp [*]; done) | fail) | fail)) rfl rfl ?_
          refine o_lazy rfl (fun hg => g_bin (by first | exact evv rfl | exact evg rfl (by rw [hp]; rfl) | exact evg rfl hp | exact evg rfl hg | exact evg rfl (by first | (simp_all; done) | (simp [*]; done) | fail) | fail) (by first | exact evv rfl | exact evg rfl (by rw [hp]; rfl) | exact evg rfl hp | exact evg rfl hg | exact evg rfl (by first | (simp_all; done) | (simp [*]; done) | fail) | fail) (by rfl)) rfl rfl ?_
          refine o_gyes rfl ?_
          refine o_give (g_pick_and (evv rfl) (evv rfl) (fun hp => (by first | exact evv rfl | exact evg rfl (by rw [hp]; rfl) | exact evg rfl hp | exact evg rfl hg | exact evg rfl (by first | (simp_all; done) | (simp [*]; done) | fail) | fail))) rfl rfl ?_
          refine o_give (g_pick (b := false) (evv rfl) (fun h => by cases h) (fun _ => (evv rfl))) rfl rfl ?_
          refine o_nil ?_
          refine c_code ?_
          simp only [show decide (((0 : Nat) : Int) = 0) = true from rfl, Bool.not_true, Bool.and_false]
          refine r_cond_false rfl ?_
          refine r_skip ?_
          refine c_blk ?_
          refine c_code ?_
          refine r_region (id := 17) ?_
          refine o_give (g_move (evv rfl)) rfl rfl ?_
          refine o_giveN (g_bin (evv rfl) (evv rfl) (by rfl)) (by simp only [inR]; omega) rfl ?_
          refine o_give (g_assign (evv rfl)) rfl rfl ?_
          refine o_nil ?_
          refine c_loop (i + 1, t - 1) ?_ ?_ (by repeat (first | exact trivial | refine ⟨rfl, ?_⟩ | refine envsub_v rfl (by first | rfl | (refine int_eq ?_; first | omega | (simp; omega) | (simp; done)) | (refine bool_eq ?_; first | (simp [*]; done) | (simp; done)) | (refine str_eq ?_; simp; done) | (refine ptr_eq ?_; omega) | fail) ?_)) ?_ <;> (try dsimp only)
          · exact ⟨by omega, by omega, by omega, by omega, by omega⟩
          · omega
          · rw [decide_eq_true (show 0 < t - 1 by omega)]
            exact Lay.ent
      · repeat (first | refine r_seq ?_ | refine c_code ?_ | refine c_blk ?_ | refine r_skip ?_ | refine r_cond_false rfl ?_ | refine r_exit rfl ?_)
        refine r_region (id := 21) ?_
        refine o_give (g_move (evv rfl)) rfl rfl ?_
        refine o_give (g_buildX (is := [0, 2, 5]) rfl rfl (show cellsL _ = ((Go.Value.int Go.IntKind.i64 0) :: (Go.Value.int Go.IntKind.i64 0) :: (Go.Value.int Go.IntKind.i64 0) :: (Go.Value.int Go.IntKind.i64 0) :: (Go.Value.int Go.IntKind.i64 0) :: (Go.Value.int Go.IntKind.i64 0) :: (Go.Value.int Go.IntKind.i64 0) :: (Go.Value.int Go.IntKind.i64 0) :: (bys (List.replicate 32 0) ++ (Go.Value.slice none 0 0) :: (Go.Value.string { data := #[] }) :: (Go.Value.int Go.IntKind.i64 0) :: (Go.Value.bool false) :: (Go.Value.int Go.IntKind.i64 0) :: (Go.Value.string { data := #[] }) :: (Go.Value.slice none 0 0) :: [])) from rfl)) rfl rfl ?_
        refine o_call (vs := [_, agg (msgC ans8)]) rfl _ (Ent.refl _) (Hdl1_c _ cb 8 7 1 t t op ans8 [] (by decide) (rn := Rd.nilM str _) ⟨by decide, by decide, by decide, by omega, by omega, fun _ => rfl⟩ ⟨by omega, rfl, rfl, rfl⟩) rfl ?_
        rintro _ _ ⟨u3, rfl, rfl⟩
        refine o_give (g_move (evv rfl)) rfl rfl ?_
        refine o_give (g_extract (evv rfl) (by rfl)) rfl rfl ?_
        refine o_give (g_extract (evv rfl) (by rfl)) rfl rfl ?_
        refine o_alloc rfl rfl (fun _ => ?_)
        refine o_storeW (evv rfl) (evv rfl) (by first | rfl | assumption | exact LenC.h _ | (simp [bys, *]; done) | fail) (by first | (intro _ _ _; exact bys_one _) | exact AllOne.h | (intro _ _ _ u hu; simp at hu; rcases hu with rfl | rfl | rfl | rfl | rfl | rfl | rfl | rfl <;> rfl) | fail) (by first | rfl | exact (LenC.h _).trans rfl | exact (LenC.h _).trans (LenC.h _).symm | (simp [bys, *]; done) | (simp only [bys, List.length_map, *]; rfl) | fail) ?_
        refine o_give (g_assign (evv rfl)) rfl rfl ?_
        refine o_nil ?_
        refine c_code ?_
        refine r_seq ?_
        refine r_seq ?_
        refine r_region (id := 22) ?_
        refine o_give (g_assign (evv rfl)) rfl rfl ?_
        refine o_nil ?_
        refine c_code ?_
        refine r_block ?_
        refine r_loopE (σ := Nat) (fun j => j ≤ 9) (fun j => 9 - j) (fun j => [(15, .v (.int .i64 (j : Int)))]) [2, 5, 7, 14] (fun j => blk cb ⟨cliC 8 7 1 t false op, 68⟩ :: sl u (msgR (reqL 8 vs)) :: rom (reqRom ⟨8, 1, op⟩ vs) :: blk q ⟨opSC op, 29⟩ :: [base W]) 0 (by dsimp only [pickE, pick1, lk2, Nat.reduceBEq, Nat.reduceAdd, Nat.zero_add, cond_true, cond_false] <;> exact rfl) ?_ (by repeat (first | exact trivial | refine ⟨rfl, ?_⟩ | refine envsub_v rfl (by first | rfl | (refine int_eq ?_; first | omega | (simp; omega) | (simp; done)) | (refine bool_eq ?_; first | (simp [*]; done) | (simp; done)) | (refine str_eq ?_; simp; done) | (refine ptr_eq ?_; omega) | fail) ?_)) ?_ ?_
        · omega
        · exact Lay.ent
        rintro j hj; (try dsimp only at hj); dsimp only [List.cons_append, List.nil_append]
        refine r_seq ?_
        refine r_seq ?_
        refine r_region (id := 23) ?_
        refine o_give (g_move (evv rfl)) rfl rfl ?_
        refine o_give (g_bin (evv rfl) (evv rfl) (by rfl)) rfl rfl ?_
        refine o_nil ?_
        refine c_code ?_
        refine r_cond rfl (fun hj9 => ?_) (fun hj9 => ?_) <;> (try simp only [decide_eq_true_eq, decide_eq_false_iff_not, Bool.and_eq_true, Bool.or_eq_true, Bool.not_eq_true', Bool.and_eq_false_iff, Bool.or_eq_false_iff, Bool.not_eq_false', Bool.not_eq_true, Bool.not_eq_false, Bool.true_eq_false, Bool.false_eq_true, Int.not_lt, Int.not_le, not_and, not_or, ne_eq] at hj9)
        · refine r_skip ?_
          refine c_code ?_
          refine r_seq ?_
          refine r_block ?_
          refine r_seq ?_
          refine r_region (id := 25) ?_
          refine o_give (g_move (evv rfl)) rfl rfl ?_
          (refine o_call rfl _ (PickR.ent (K := blk cb)) (Tick0_c _ cb 8 7 1 t op) rfl ?_; rintro _ _ ⟨rfl, rfl⟩)
          refine o_give (g_len TyU.h (evv rfl)) rfl rfl ?_
          refine o_give (g_bin (evv rfl) (evv rfl) (by rfl)) rfl rfl ?_
          refine o_nil ?_
          refine c_code ?_
          refine r_cond_false rfl ?_
          refine r_skip ?_
          refine c_blk ?_
          refine c_code ?_
          refine r_region (id := 24) ?_
          refine o_give (g_move (evv rfl)) rfl rfl ?_
          refine o_giveN (g_bin (evv rfl) (evv rfl) (by rfl)) (by simp only [inR]; omega) rfl ?_
          refine o_give (g_assign (evv rfl)) rfl rfl ?_
          refine o_nil ?_
          refine c_loop (j + 1) ?_ ?_ (by repeat (first | exact trivial | refine ⟨rfl, ?_⟩ | refine envsub_v rfl (by first | rfl | (refine int_eq ?_; first | omega | (simp; omega) | (simp; done)) | (refine bool_eq ?_; first | (simp [*]; done) | (simp; done)) | (refine str_eq ?_; simp; done) | (refine ptr_eq ?_; omega) | fail) ?_)) ?_ <;> (try dsimp only)
          · omega
          · omega
          · exact Lay.ent
        · refine r_exit rfl ?_
          refine c_code ?_
          refine r_seq ?_
          refine r_region (id := 27) ?_
          refine o_give (g_assign (evv rfl)) rfl rfl ?_
          refine o_nil ?_
          refine c_code ?_
          refine r_seq ?_
          refine r_region (id := 28) ?_
          refine o_give (g_move (evv rfl)) rfl rfl ?_
          refine o_give (g_loadF (evv rfl) (by rfl) (by rfl)) rfl rfl ?_
          (refine o_call rfl _ (Ent.refl _) (Call_nil _ op ho) rfl ?_; rintro _ _ ⟨rfl, hLz⟩; obtain rfl := hLz.symm; clear hLz)
          refine o_give (g_move (evv rfl)) rfl rfl ?_
          refine o_give (g_extract (evv rfl) (by rfl)) rfl rfl ?_
          refine o_give (g_extract (evv rfl) (by rfl)) rfl rfl ?_
          refine o_give (g_assign (evv rfl)) rfl rfl ?_
          refine o_give (g_assign (evv rfl)) rfl rfl ?_
          refine o_nil ?_
          refine c_code ?_
          refine r_seq ?_
          repeat (first | refine r_seq ?_ | refine c_code ?_ | refine c_blk ?_ | refine r_skip ?_ | refine r_cond_false rfl ?_ | refine r_exit rfl ?_)
          refine r_region (id := 29) ?_
          refine o_give (g_move (evv rfl)) rfl rfl ?_
          refine o_give (v := agg ((Go.Value.int Go.IntKind.i64 0) :: (Go.Value.int Go.IntKind.i64 0) :: (Go.Value.int Go.IntKind.i64 0) :: (Go.Value.int Go.IntKind.i64 0) :: (Go.Value.int Go.IntKind.i64 0) :: (Go.Value.int Go.IntKind.i64 0) :: (Go.Value.int Go.IntKind.i64 0) :: (Go.Value.int Go.IntKind.i64 0) :: (bys (List.replicate 32 0) ++ (Go.Value.slice none 0 0) :: (Go.Value.string { data := #[] }) :: (Go.Value.int Go.IntKind.i64 0) :: (Go.Value.bool false) :: (Go.Value.int Go.IntKind.i64 0) :: (Go.Value.string { data := #[] }) :: (Go.Value.slice none 0 0) :: []))) (g_buildC rfl (by rfl)) rfl rfl ?_
          refine o_call (vs := [_, agg (msgC default)]) rfl _ (Ent.refl _) (Hdl_nil _ default) rfl ?_
          rintro _ _ ⟨rfl, hLz⟩
          obtain rfl := hLz.symm
          clear hLz
          refine o_give (g_move (evv rfl)) rfl rfl ?_
          refine o_give (g_extract (evv rfl) (by rfl)) rfl rfl ?_
          refine o_give (g_extract (evv rfl) (by rfl)) rfl rfl ?_
          refine o_alloc rfl rfl (fun _ => ?_)
          refine o_storeW (evv rfl) (evv rfl) (by first | rfl | assumption | exact LenC.h _ | (simp [bys, *]; done) | fail) (by first | (intro _ _ _; exact bys_one _) | exact AllOne.h | (intro _ _ _ u hu; simp at hu; rcases hu with rfl | rfl | rfl | rfl | rfl | rfl | rfl | rfl <;> rfl) | fail) (by first | rfl | exact (LenC.h _).trans rfl | exact (LenC.h _).trans (LenC.h _).symm | (simp [bys, *]; done) | (simp only [bys, List.length_map, *]; rfl) | fail) ?_
          refine o_give (g_assign (evv rfl)) rfl rfl ?_
          refine o_nil ?_
          refine c_code ?_
          refine r_seq ?_
          have e7 : (((reqL 8 vs).length : Nat) : Int) = 7 := by rw [hrl]; rfl
          refine r_region (id := 30) ?_
          refine o_give (g_move (evv rfl)) rfl rfl ?_
          refine o_give (g_lenF (evv rfl)) rfl rfl ?_
          refine o_give (g_bin (evv rfl) (evv rfl) (by rfl)) rfl rfl ?_
          refine o_give (g_move (evv rfl)) rfl rfl ?_
          refine o_lazy rfl (fun hg => g_move (by first | exact evv rfl | exact evg rfl (by rw [hp]; rfl) | exact evg rfl hp | exact evg rfl hg | exact evg rfl (by first | (simp_all; done) | (simp [*]; done) | fail) | fail)) rfl rfl ?_
          refine o_give (g_pick_and (evv rfl) (evv rfl) (fun hp => (by first | exact evv rfl | exact evg rfl (by rw [hp]; rfl) | exact evg rfl hp | exact evg rfl hg | exact evg rfl (by first | (simp_all; done) | (simp [*]; done) | fail) | fail))) rfl rfl ?_
          refine o_give (g_move (evv rfl)) rfl rfl ?_
          refine o_lazy rfl (fun hg => g_move (by first | exact evv rfl | exact evg rfl (by rw [hp]; rfl) | exact evg rfl hp | exact evg rfl hg | exact evg rfl (by first | (simp_all; done) | (simp [*]; done) | fail) | fail)) rfl rfl ?_
          refine o_lazy rfl (fun hg => g_bin (by first | exact evv rfl | exact evg rfl (by rw [hp]; rfl) | exact evg rfl hp | exact evg rfl hg | exact evg rfl (by first | (simp_all; done) | (simp [*]; done) | fail) | fail) (by first | exact evv rfl | exact evg rfl (by rw [hp]; rfl) | exact evg rfl hp | exact evg rfl hg | exact evg rfl (by first | (simp_all; done) | (simp [*]; done) | fail) | fail) (by rfl)) rfl rfl ?_
          refine o_give (g_pick_and (evv rfl) (evv rfl) (fun hp => (by first | exact evv rfl | exact evg rfl (by rw [hp]; rfl) | exact evg rfl hp | exact evg rfl hg | exact evg rfl (by first | (simp_all; done) | (simp [*]; done) | fail) | fail))) rfl rfl ?_
          refine o_give (g_move (evv rfl)) rfl rfl ?_
          refine o_lazy rfl (fun hg => g_move (by first | exact evv rfl | exact evg rfl (by rw [hp]; rfl) | exact evg rfl hp | exact evg rfl hg | exact evg rfl (by first | (simp_all; done) | (simp [*]; done) | fail) | fail)) rfl rfl ?_
          refine o_lazy rfl (fun hg => g_not (by first | exact evv rfl | exact evg rfl (by rw [hp]; rfl) | exact evg rfl hp | exact evg rfl hg | exact evg rfl (by first | (simp_all; done) | (simp [*]; done) | fail) | fail)) rfl rfl ?_
          refine o_give (g_pick_and (evv rfl) (evv rfl) (fun hp => (by first | exact evv rfl | exact evg rfl (by rw [hp]; rfl) | exact evg rfl hp | exact evg rfl hg | exact evg rfl (by first | (simp_all; done) | (simp [*]; done) | fail) | fail))) rfl rfl ?_
          refine o_give (g_move (evv rfl)) rfl rfl ?_
          refine o_lazy rfl (fun hg => g_move (by first | exact evv rfl | exact evg rfl (by rw [hp]; rfl) | exact evg rfl hp | exact evg rfl hg | exact evg rfl (by first | (simp_all; done) | (simp [*]; done) | fail) | fail)) rfl rfl ?_
          simp only [e7, show decide ((7 : Int) = 7) = true from rfl, Bool.and_true, Bool.not_false]
          refine o_sure (t := 166) rfl rfl ?_
          refine o_gyes rfl ?_
          (refine o_call rfl _ (Ent.refl _) (Tick_nil _) rfl ?_; rintro _ _ ⟨rfl, hLz⟩; obtain rfl := hLz.symm; clear hLz)
          refine o_gyes rfl ?_
          refine o_give (g_len TyU.h (evv rfl)) rfl rfl ?_
          refine o_gyes rfl ?_
          refine o_give (g_bin (evv rfl) (evv rfl) (by rfl)) rfl rfl ?_
          refine o_give (g_pick (b := true) (evv rfl) (fun _ => (evv rfl)) (fun h => by cases h)) rfl rfl ?_
          refine o_give (g_move (evv rfl)) rfl rfl ?_
          refine o_gyes rfl ?_
          refine o_give (g_move (evv rfl)) rfl rfl ?_
          refine o_gyes rfl ?_
          (refine o_call rfl _ (Ent.refl _) (Wtg_nil _) rfl ?_; rintro _ _ ⟨rfl, hLz⟩; obtain rfl := hLz.symm; clear hLz)
          refine o_gyes rfl ?_
          refine o_give (g_not (evv rfl)) rfl rfl ?_
          refine o_give (g_pick (b := true) (evv rfl) (fun _ => (evv rfl)) (fun h => by cases h)) rfl rfl ?_
          refine o_give (g_move (evv rfl)) rfl rfl ?_
          refine o_gyes rfl ?_
          refine o_give (g_move (evv rfl)) rfl rfl ?_
          refine o_gyes rfl ?_
          (refine o_call rfl _ (Ent.refl _) (CNum_nil _) rfl ?_; rintro _ _ ⟨rfl, hLz⟩; obtain rfl := hLz.symm; clear hLz)
          refine o_gyes rfl ?_
          refine o_give (g_bin (evv rfl) (evv rfl) (by rfl)) rfl rfl ?_
          refine o_give (g_pick (b := true) (evv rfl) (fun _ => (evv rfl)) (fun h => by cases h)) rfl rfl ?_
          refine o_give (g_assign (evv rfl)) rfl rfl ?_
          refine o_nil ?_
          refine c_code ?_
          skip
          first | refine r_ret (rs := [.tmp 4]) rfl rfl _ ((Lay.ent (L' := [base W]))) ?_ | refine c_end (rs := [.tmp 4]) rfl rfl _ ((Lay.ent (L' := [base W]))) ?_
          exact ⟨rfl, rfl⟩
  · repeat (first | refine r_seq ?_ | refine c_code ?_ | refine c_blk ?_ | refine r_skip ?_ | refine r_cond_false rfl ?_)
    refine r_region (id := 6) ?_
    refine o_give (g_move (evv rfl)) rfl rfl ?_
    refine o_give (g_loadF (evv rfl) (by rfl) (by rfl)) rfl rfl ?_
    refine o_call rfl _ (PickR.ent (K := blk cb)) (CallN_c _ cb 8 7 0 0 0 zeroOp op ho k0 hE) rfl ?_
    rintro _ _ ⟨rfl, rfl⟩
    refine o_give (g_move (evv rfl)) rfl rfl ?_
    refine o_give (g_extract (evv rfl) (by rfl)) rfl rfl ?_
    refine o_give (g_extract (evv rfl) (by rfl)) rfl rfl ?_
    refine o_give (g_assign (evv rfl)) rfl rfl ?_
    refine o_give (g_assign (evv rfl)) rfl rfl ?_
    refine o_nil ?_
    refine c_code ?_
    refine r_seq ?_
    refine r_seq ?_
    have h1 : callE 0 0 op = 1 := by
      unfold callE at hE ⊢
      rw [if_neg (by omega)] at hE ⊢
      split
      · rfl
      · rename_i h2
        rw [if_neg h2, if_neg (by omega)] at hE
        exact absurd rfl hE
    simp only [h1]
    refine r_region (id := 7) ?_
    refine o_give (g_move (evv rfl)) rfl rfl ?_
    refine o_give (g_bin (evv rfl) (evv rfl) (by rfl)) rfl rfl ?_
    refine o_nil ?_
    refine c_code ?_
    refine r_cond_true rfl ?_
    refine r_seq ?_
    refine r_region (id := 8) ?_
    refine o_give (g_move (evv rfl)) rfl rfl ?_
    refine o_give (g_bin (evv rfl) (evv rfl) (by rfl)) rfl rfl ?_
    refine o_give (g_move (evv rfl)) rfl rfl ?_
    refine o_gyes rfl ?_
    refine o_give (g_move (evv rfl)) rfl rfl ?_
    refine o_gyes rfl ?_
    (refine o_call rfl _ (PickR.ent (K := blk cb)) (Wtg_c _ cb _ _ _ _ _ _) rfl ?_; rintro _ _ ⟨rfl, rfl⟩)
    refine o_gyes rfl ?_
    refine o_give (g_not (evv rfl)) rfl rfl ?_
    refine o_give (g_pick (b := true) (evv rfl) (fun _ => (evv rfl)) (fun h => by cases h)) rfl rfl ?_
    refine o_give (g_move (evv rfl)) rfl rfl ?_
    refine o_gyes rfl ?_
    refine o_give (g_move (evv rfl)) rfl rfl ?_
    refine o_gyes rfl ?_
    (refine o_call rfl _ (PickR.ent (K := blk cb)) (CNum_c _ cb _ _ _ _ _ _) rfl ?_; rintro _ _ ⟨rfl, rfl⟩)
    refine o_gyes rfl ?_
    refine o_give (g_bin (evv rfl) (evv rfl) (by rfl)) rfl rfl ?_
    refine o_give (g_pick (b := true) (evv rfl) (fun _ => (evv rfl)) (fun h => by cases h)) rfl rfl ?_
    refine o_give (g_move (evv rfl)) rfl rfl ?_
    refine o_gyes rfl ?_
    refine o_give (g_move (evv rfl)) rfl rfl ?_
    refine o_gyes rfl ?_
    refine o_give (g_len TyU.h (evv rfl)) rfl rfl ?_
    refine o_gyes rfl ?_
    refine o_give (g_bin (evv rfl) (evv rfl) (by rfl)) rfl rfl ?_
    refine o_give (g_pick (b := true) (evv rfl) (fun _ => (evv rfl)) (fun h => by cases h)) rfl rfl ?_
    refine o_give (g_assign (evv rfl)) rfl rfl ?_
    refine o_nil ?_
    refine c_code ?_
    first | refine r_ret (rs := [.tmp 4]) rfl rfl _ ((Lay.ent (L' := [base W]))) ?_ | refine c_end (rs := [.tmp 4]) rfl rfl _ ((Lay.ent (L' := [base W]))) ?_
    exact ⟨rfl, rfl⟩
end VK
