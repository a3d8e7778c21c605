/- The law NodeKeeps, walked: what is handed in stays, what is answered is new memory. Conditions: texts of a machine's size. -/
import Derived.Test.YtpknikpkepcbcaaNode12
namespace VK
open Go Go.Proofs
set_option linter.unusedSimpArgs false
set_option linter.unusedVariables false
set_option maxRecDepth 100000
set_option maxHeartbeats 40000000
instance (a : Itm) (v : Value) (l : List UInt8) [h : AsStr v l] : SetF itmC a 0 v { a with name := l } := ⟨by rw [h.h]; rfl⟩
theorem NodeKeeps_c (W : World) (r : RawS) (pv nv kv sv vb : Value) (b : List UInt8) (hok : RawOk r) (h : RawR [base W] r pv nv kv sv) (hb : b.length ≤ 1048576) [rd : Rd [base W] vb (mrow by8 5 b)] : Fn Try.prog 7 [agg (rawV r pv nv kv sv), vb] [base W] fun w L' => w = .bool true ∧ L' = [base W] := by
  have ho := hok.ok
  obtain ⟨hl1, hl2⟩ := rawN_len h
  have e4 : List.take (b.length - 0) (List.drop 0 (b ++ [7])) = b := by simp
  have g : (decide ((if decN b = none then 21 else 0) = (0 : Int)) == !decide ((decM b).kind = 0)) = true := by
    unfold decM
    cases hd : decN b with
    | none => rfl
    | some m =>
      have hm := (decN_canon hd).2
      have : ¬ m.kind = 0 := by rcases hm with h | h | h <;> have := h.1 <;> omega
      simp [this]
  have hB2 : (List.take (b.length - 0) (List.drop 0 (b ++ [7]))).length ≤ 140737488355000 := by rw [e4]; omega
  refine fn_intro Try.func7 rfl Try.ntmps7 rfl (fun W0 => ?_)
  simp only [argE, rawV]
  refine r_seq ?_
  refine r_region (id := 0) ?_
  refine o_boxA (evv rfl) rfl (fun _ => ?_)
  refine o_give (g_assign (evv rfl)) rfl rfl ?_
  refine o_nil ?_
  refine c_code ?_
  refine r_seq ?_
  refine r_seq ?_
  refine r_region (id := 1) ?_
  (refine o_call rfl _ (Ent.refl _) (awake_c _) rfl ?_; rintro _ _ ⟨rfl, hLz⟩; obtain rfl := hLz.symm; clear hLz)
  refine o_give (g_not (evv rfl)) rfl rfl ?_
  refine o_nil ?_
  refine c_code ?_
  refine r_cond_false rfl ?_
  refine r_skip ?_
  refine c_code ?_
  refine r_seq ?_
  refine r_region (id := 3) ?_
  refine o_give (g_loadF (evv rfl) (by rfl) (by rfl)) rfl rfl ?_
  (refine o_call rfl _ (Ent.refl _) (mkNode_c _ _ _ _ _ _ (by repeat (first | assumption | refine RawR.tail ?_))) rfl ?_; rintro _ _ ⟨qv, iv, rfl, rfl⟩)
  refine o_alloc rfl rfl (fun _ => ?_)
  refine o_storeW (evv rfl) (evv rfl) (by first | rfl | assumption | exact LenC.h _ | (simp [bys, *]; done) | fail) (by first | (intro _ _ _; exact bys_one _) | exact AllOne.h | (intro _ _ _ u hu; simp at hu; rcases hu with rfl | rfl | rfl | rfl | rfl | rfl | rfl | rfl <;> rfl) | fail) (by first | rfl | exact (LenC.h _).trans rfl | exact (LenC.h _).trans (LenC.h _).symm | (simp [bys, *]; done) | (simp only [bys, List.length_map, *]; rfl) | fail) ?_
  refine o_nil ?_
  refine c_code ?_
  refine r_seq ?_
  refine r_region (id := 4) ?_
  refine o_lit0 by8 (by rfl) rfl (fun _ => ?_)
  refine o_give (g_move (evv rfl)) rfl rfl ?_
  refine o_appM (evv rfl) (evv rfl) (by rfl) (by rfl) (by rfl) (by (try simp only [bsOf, List.length_append, List.length_cons, List.length_nil, List.length_take, List.length_drop, List.length_map, List.length_range]); omega) rfl (fun _ => ?_)
  refine o_litB rfl (by rfl) (by omega) (by first | omega | exact Int.ofNat_le.2 (Nat.le_of_lt_succ (Nat.or_lt_two_pow (n := 8) (by omega) (by omega))) | exact Int.ofNat_le.2 (Nat.le_of_lt_succ (Nat.xor_lt_two_pow (n := 8) (by omega) (by omega)))) rfl (fun _ => ?_)
  refine o_appM (evv rfl) (evv rfl) (by rfl) (by rfl) (by rfl) (by (try simp only [bsOf, List.length_append, List.length_cons, List.length_nil, List.length_take, List.length_drop, List.length_map, List.length_range]); omega) rfl (fun _ => ?_)
  refine o_give (g_assign (evv rfl)) rfl rfl ?_
  refine o_nil ?_
  refine c_code ?_
  refine r_seq ?_
  rw [show [] ++ b ++ [UInt8.ofNat (Int.toNat 7)] = b ++ [7] from rfl]
  rename_i q p x3 x2 x1 room
  revert iv
  intro iv0
  refine r_region (id := 5) ?_
  refine o_give (g_move (evv rfl)) rfl rfl ?_
  refine o_give (g_move (evv rfl)) rfl rfl ?_
  refine o_give (g_lenM (evv rfl)) rfl rfl ?_
  refine o_give (g_subM (evv rfl) _ _ bnd_none (bnd_some (evv rfl) rfl) (by rfl) (by omega) (by first | omega | (simp only [List.length_append, List.length_cons, List.length_nil, List.length_set, List.length_map]; omega))) rfl rfl ?_
  (refine o_call rfl _ (Ent.refl _) (nDec_c _ _ _ (by first | assumption | omega)) rfl ?_; rintro _ _ ⟨pv, iv, rfl, rfl⟩)
  refine o_give (g_move (evv rfl)) rfl rfl ?_
  refine o_give (g_extract (evv rfl) (by rfl)) rfl rfl ?_
  refine o_give (g_extract (evv rfl) (by rfl)) rfl rfl ?_
  refine o_alloc rfl rfl (fun _ => ?_)
  refine o_storeW (evv rfl) (evv rfl) (by first | rfl | assumption | exact LenC.h _ | (simp [bys, *]; done) | fail) (by first | (intro _ _ _; exact bys_one _) | exact AllOne.h | (intro _ _ _ u hu; simp at hu; rcases hu with rfl | rfl | rfl | rfl | rfl | rfl | rfl | rfl <;> rfl) | fail) (by first | rfl | exact (LenC.h _).trans rfl | exact (LenC.h _).trans (LenC.h _).symm | (simp [bys, *]; done) | (simp only [bys, List.length_map, *]; rfl) | fail) ?_
  refine o_give (g_assign (evv rfl)) rfl rfl ?_
  refine o_nil ?_
  refine c_code ?_
  refine r_seq ?_
  rw [e4]
  rename_i y
  revert iv pv
  intro pv1 iv1
  refine r_region (id := 6) ?_
  refine o_give (g_move (evv rfl)) rfl rfl ?_
  (refine o_call rfl _ (Ent.refl _) (RnDec_c _ _ _ (by first | assumption | omega)) rfl ?_; rintro _ _ ⟨pv, iv, rfl, rfl⟩)
  refine o_give (g_move (evv rfl)) rfl rfl ?_
  refine o_give (g_extract (evv rfl) (by rfl)) rfl rfl ?_
  refine o_give (g_extract (evv rfl) (by rfl)) rfl rfl ?_
  refine o_alloc rfl rfl (fun _ => ?_)
  refine o_storeW (evv rfl) (evv rfl) (by first | rfl | assumption | exact LenC.h _ | (simp [bys, *]; done) | fail) (by first | (intro _ _ _; exact bys_one _) | exact AllOne.h | (intro _ _ _ u hu; simp at hu; rcases hu with rfl | rfl | rfl | rfl | rfl | rfl | rfl | rfl <;> rfl) | fail) (by first | rfl | exact (LenC.h _).trans rfl | exact (LenC.h _).trans (LenC.h _).symm | (simp [bys, *]; done) | (simp only [bys, List.length_map, *]; rfl) | fail) ?_
  refine o_give (g_assign (evv rfl)) rfl rfl ?_
  refine o_nil ?_
  refine c_code ?_
  refine r_seq ?_
  rename_i z
  revert iv pv
  intro pv2 iv2
  refine r_region (id := 7) ?_
  refine o_give (g_loadF (evv rfl) (by rfl) (by rfl)) rfl rfl ?_
  (refine o_call rfl _ (Ent.refl _) (Kids_c _ _ _ _ (by assumption) (by assumption)) rfl ?_; rintro _ _ ⟨_, rfl⟩)
  refine o_give (g_assign (evv rfl)) rfl rfl ?_
  refine o_nil ?_
  refine c_code ?_
  refine r_seq ?_
  refine r_region (id := 8) ?_
  refine o_give (g_loadF (evv rfl) (by rfl) (by rfl)) rfl rfl ?_
  (refine o_call rfl _ (Ent.refl _) (Kids_c _ _ _ _ (by assumption) (by assumption)) rfl ?_; rintro _ _ ⟨_, rfl⟩)
  refine o_give (g_assign (evv rfl)) rfl rfl ?_
  refine o_nil ?_
  refine c_code ?_
  refine r_seq ?_
  refine r_seq ?_
  refine r_region (id := 9) ?_
  refine o_give (g_assign (evv rfl)) rfl rfl ?_
  refine o_nil ?_
  refine c_code ?_
  refine r_block ?_
  rename_i lw t1 kw t2
  have hkl := kidsOf_len (rawN r)
  refine r_loopE (σ := Nat × List UInt8) (fun ⟨i, xs⟩ => i ≤ b.length + 1 ∧ xs.length = b.length + 1) (fun ⟨i, xs⟩ => b.length + 1 - i) (fun ⟨i, xs⟩ => [(13, .v (.int .i64 i))]) [2, 5, 6, 7, 8, 9, 11, 12] (fun ⟨i, xs⟩ => [sl room (mrow by8 5 xs), sl kw (frow itmC 34 54 (kidsOf (rawN r))), sl lw (frow itmC 34 54 (kidsOf (rawN r))), blk z ⟨nodV (decM b) pv2 iv2, 27⟩, sl pv2 (frow digC 32 52 (decM b).parts), sl iv2 (frow itmC 34 54 (decM b).items), blk y ⟨nodV (decM b) pv1 iv1, 27⟩, sl pv1 (frow digC 32 52 (decM b).parts), sl iv1 (frow itmC 34 54 (decM b).items), blk p ⟨nodV (rawN r) qv iv0, 27⟩, sl qv (frow digC 32 52 (rawN r).parts), sl iv0 (frow itmC 34 54 (rawN r).items), blk q ⟨[.int .i64 r.kind, str r.data, .int .i64 r.size, pv, nv, kv, sv], 39⟩, base W]) (0, b ++ [7]) (by dsimp only [pickE, pick1, lk2, Nat.reduceBEq, Nat.reduceAdd, Nat.zero_add, cond_true, cond_false] <;> exact rfl) ?_ (by repeat (first | exact trivial | refine ⟨rfl, ?_⟩ | refine envsub_v rfl (by first | rfl | (refine int_eq ?_; first | omega | (simp; omega) | (simp; done)) | (refine bool_eq ?_; first | (simp [*]; done) | (simp; done)) | (refine str_eq ?_; simp; done) | (refine ptr_eq ?_; omega) | fail) ?_)) ?_ ?_
  · exact ⟨Nat.zero_le _, by simp⟩
  · exact Lay.ent
  rintro ⟨i, xs⟩ ⟨hi, hx⟩; dsimp only [List.cons_append, List.nil_append]
  refine r_seq ?_
  refine r_seq ?_
  refine r_region (id := 10) ?_
  refine o_give (g_move (evv rfl)) rfl rfl ?_
  refine o_give (g_move (evv rfl)) rfl rfl ?_
  refine o_give (g_lenM (evv rfl)) rfl rfl ?_
  refine o_give (g_bin (evv rfl) (evv rfl) (by rfl)) rfl rfl ?_
  refine o_nil ?_
  refine c_code ?_
  refine r_cond rfl (fun hc => ?_) (fun hc => ?_) <;> (try simp only [decide_eq_true_eq, decide_eq_false_iff_not, Bool.and_eq_true, Bool.or_eq_true, Bool.not_eq_true', Bool.and_eq_false_iff, Bool.or_eq_false_iff, Bool.not_eq_false', Bool.not_eq_true, Bool.not_eq_false, Bool.true_eq_false, Bool.false_eq_true, Int.not_lt, Int.not_le, not_and, not_or, ne_eq] at hc)
  · have hil : i < xs.length := by omega
    refine r_skip ?_
    refine c_code ?_
    refine r_seq ?_
    refine r_block ?_
    refine r_region (id := 12) ?_
    refine o_give (g_move (evv rfl)) rfl rfl ?_
    refine o_give (g_move (evv rfl)) rfl rfl ?_
    refine o_give (g_idxMN (evv rfl) (evv rfl) (by rfl) (by first | omega | (have := of_decide_eq_true hg; omega) | (simp at hg; omega) | (simp only [List.length_set, List.length_append, List.length_cons, List.length_nil, List.length_map, List.length_take, List.length_drop, List.length_replicate]; omega))) rfl rfl ?_
    refine o_storeM (238 : UInt8) (evv rfl) (evv rfl) rfl (by rfl) (by first | omega | (have := of_decide_eq_true hg; omega) | (simp at hg; omega) | (simp only [List.length_set, List.length_append, List.length_cons, List.length_nil, List.length_map, List.length_take, List.length_drop, List.length_replicate]; omega)) ?_
    refine o_nil ?_
    refine c_blk ?_
    refine c_code ?_
    refine r_region (id := 11) ?_
    refine o_give (g_move (evv rfl)) rfl rfl ?_
    refine o_giveN (g_bin (evv rfl) (evv rfl) (by rfl)) (by simp only [inR]; omega) rfl ?_
    refine o_give (g_assign (evv rfl)) rfl rfl ?_
    refine o_nil ?_
    refine c_loop (i + 1, xs.set i 238) ?_ ?_ (by repeat (first | exact trivial | refine ⟨rfl, ?_⟩ | refine envsub_v rfl (by first | rfl | (refine int_eq ?_; first | omega | (simp; omega) | (simp; done)) | (refine bool_eq ?_; first | (simp [*]; done) | (simp; done)) | (refine str_eq ?_; simp; done) | (refine ptr_eq ?_; omega) | fail) ?_)) ?_ <;> (try dsimp only)
    · exact ⟨by omega, by rw [List.length_set]; exact hx⟩
    · omega
    · exact Lay.ent
  · refine r_exit rfl ?_
    refine c_code ?_
    refine r_seq ?_
    refine r_seq ?_
    refine r_region (id := 13) ?_
    refine o_give (g_assign (evv rfl)) rfl rfl ?_
    refine o_nil ?_
    refine c_code ?_
    refine r_block ?_
    refine r_loopE (σ := Nat × List Itm) (fun ⟨i, xs⟩ => i ≤ (kidsOf (rawN r)).length ∧ xs.length = (kidsOf (rawN r)).length) (fun ⟨i, xs⟩ => (kidsOf (rawN r)).length - i) (fun ⟨i, xs⟩ => [(14, .v (.int .i64 i))]) [2, 5, 7, 8, 9, 11, 12] (fun ⟨i, xs⟩ => [sl lw (frow itmC 34 54 xs), sl kw (frow itmC 34 54 (kidsOf (rawN r))), blk z ⟨nodV (decM b) pv2 iv2, 27⟩, sl pv2 (frow digC 32 52 (decM b).parts), sl iv2 (frow itmC 34 54 (decM b).items), blk y ⟨nodV (decM b) pv1 iv1, 27⟩, sl pv1 (frow digC 32 52 (decM b).parts), sl iv1 (frow itmC 34 54 (decM b).items), blk p ⟨nodV (rawN r) qv iv0, 27⟩, sl qv (frow digC 32 52 (rawN r).parts), sl iv0 (frow itmC 34 54 (rawN r).items), blk q ⟨[.int .i64 r.kind, str r.data, .int .i64 r.size, pv, nv, kv, sv], 39⟩, base W]) (0, kidsOf (rawN r)) (by dsimp only [pickE, pick1, lk2, Nat.reduceBEq, Nat.reduceAdd, Nat.zero_add, cond_true, cond_false] <;> exact rfl) ?_ (by repeat (first | exact trivial | refine ⟨rfl, ?_⟩ | refine envsub_v rfl (by first | rfl | (refine int_eq ?_; first | omega | (simp; omega) | (simp; done)) | (refine bool_eq ?_; first | (simp [*]; done) | (simp; done)) | (refine str_eq ?_; simp; done) | (refine ptr_eq ?_; omega) | fail) ?_)) ?_ ?_
    · exact ⟨Nat.zero_le _, rfl⟩
    · exact Lay.ent
    rintro ⟨i, xs⟩ ⟨hi, hx⟩; dsimp only [List.cons_append, List.nil_append]
    refine r_seq ?_
    refine r_seq ?_
    refine r_region (id := 14) ?_
    refine o_give (g_move (evv rfl)) rfl rfl ?_
    refine o_give (g_move (evv rfl)) rfl rfl ?_
    refine o_give (g_lenF (evv rfl)) rfl rfl ?_
    refine o_give (g_bin (evv rfl) (evv rfl) (by rfl)) rfl rfl ?_
    refine o_nil ?_
    refine c_code ?_
    refine r_cond rfl (fun hc => ?_) (fun hc => ?_) <;> (try simp only [decide_eq_true_eq, decide_eq_false_iff_not, Bool.and_eq_true, Bool.or_eq_true, Bool.not_eq_true', Bool.and_eq_false_iff, Bool.or_eq_false_iff, Bool.not_eq_false', Bool.not_eq_true, Bool.not_eq_false, Bool.true_eq_false, Bool.false_eq_true, Int.not_lt, Int.not_le, not_and, not_or, ne_eq] at hc)
    · have hil : i < xs.length := by omega
      refine r_skip ?_
      refine c_code ?_
      refine r_seq ?_
      refine r_block ?_
      refine r_region (id := 16) ?_
      refine o_give (g_move (evv rfl)) rfl rfl ?_
      refine o_give (g_move (evv rfl)) rfl rfl ?_
      refine o_give (g_idxFN (evv rfl) (evv rfl) (by rfl) (by rfl) (by first | omega | (have := of_decide_eq_true hg; omega) | (simp at hg; omega) | (simp only [List.length_set, List.length_append, List.length_cons, List.length_nil, List.length_map, List.length_take, List.length_drop, List.length_replicate]; omega))) rfl rfl ?_
      refine o_give (g_fldE (evv rfl) (by first | (simp only [frow, mrow]; omega) | (simp only [frow, mrow, List.length_set, List.length_append, List.length_cons]; omega) | fail) (by first | exact Nat.succ_pos _ | decide)) rfl rfl ?_
      refine o_storeFld (evv rfl) (evv rfl) (by rfl) (by first | (intro; rfl) | exact LenC.h) (by first | omega | (have := of_decide_eq_true hg; omega) | (simp at hg; omega) | (simp only [List.length_set, List.length_append, List.length_cons, List.length_nil, List.length_map, List.length_take, List.length_drop, List.length_replicate]; omega)) (by rfl) ?_
      refine o_nil ?_
      refine c_blk ?_
      refine c_code ?_
      refine r_region (id := 15) ?_
      refine o_give (g_move (evv rfl)) rfl rfl ?_
      refine o_giveN (g_bin (evv rfl) (evv rfl) (by rfl)) (by simp only [inR]; omega) rfl ?_
      refine o_give (g_assign (evv rfl)) rfl rfl ?_
      refine o_nil ?_
      refine c_loop (i + 1, xs.set i (Itm.mk [115, 112, 111, 105, 108, 116] (xs.getD i default).kind (xs.getD i default).sum)) ?_ ?_ (by repeat (first | exact trivial | refine ⟨rfl, ?_⟩ | refine envsub_v rfl (by first | rfl | (refine int_eq ?_; first | omega | (simp; omega) | (simp; done)) | (refine bool_eq ?_; first | (simp [*]; done) | (simp; done)) | (refine str_eq ?_; simp; done) | (refine ptr_eq ?_; omega) | fail) ?_)) ?_ <;> (try dsimp only)
      · exact ⟨by omega, by rw [List.length_set]; exact hx⟩
      · omega
      · exact Lay.ent
    · refine r_exit rfl ?_
      refine c_code ?_
      refine r_seq ?_
      refine r_region (id := 17) ?_
      refine o_give (g_loadF (evv rfl) (by rfl) (by rfl)) rfl rfl ?_
      (refine o_call rfl _ (Ent.refl _) (nodEnc_c _ _ _ _ (by assumption)) rfl ?_; rintro _ _ ⟨ev_, rfl, rfl⟩)
      refine o_give (g_move (evv rfl)) rfl rfl ?_
      refine o_give (g_extract (evv rfl) (by rfl)) rfl rfl ?_
      refine o_give (g_extract (evv rfl) (by rfl)) rfl rfl ?_
      refine o_give (g_assign (evv rfl)) rfl rfl ?_
      refine o_give (g_assign (evv rfl)) rfl rfl ?_
      refine o_nil ?_
      refine c_code ?_
      refine r_seq ?_
      refine r_seq ?_
      refine r_region (id := 18) ?_
      refine o_give (g_assign (evv rfl)) rfl rfl ?_
      refine o_nil ?_
      refine c_code ?_
      refine r_block ?_
      have hel : (encT (rawN r)).length ≤ 4096 := by
        unfold encT
        split
        · rename_i hn; exact (encN_len hn).2
        · simp
      refine r_loopE (σ := Nat × List UInt8) (fun ⟨i, xs⟩ => i ≤ (encT (rawN r)).length ∧ xs.length = (encT (rawN r)).length) (fun ⟨i, xs⟩ => (encT (rawN r)).length - i) (fun ⟨i, xs⟩ => [(17, .v (.int .i64 i))]) [2, 5, 7, 8, 9, 12, 15] (fun ⟨i, xs⟩ => [sl ev_ (mrow by8 5 xs), sl kw (frow itmC 34 54 (kidsOf (rawN r))), blk z ⟨nodV (decM b) pv2 iv2, 27⟩, sl pv2 (frow digC 32 52 (decM b).parts), sl iv2 (frow itmC 34 54 (decM b).items), blk y ⟨nodV (decM b) pv1 iv1, 27⟩, sl pv1 (frow digC 32 52 (decM b).parts), sl iv1 (frow itmC 34 54 (decM b).items), blk p ⟨nodV (rawN r) qv iv0, 27⟩, sl qv (frow digC 32 52 (rawN r).parts), sl iv0 (frow itmC 34 54 (rawN r).items), blk q ⟨[.int .i64 r.kind, str r.data, .int .i64 r.size, pv, nv, kv, sv], 39⟩, base W]) (0, encT (rawN r)) (by dsimp only [pickE, pick1, lk2, Nat.reduceBEq, Nat.reduceAdd, Nat.zero_add, cond_true, cond_false] <;> exact rfl) ?_ (by repeat (first | exact trivial | refine ⟨rfl, ?_⟩ | refine envsub_v rfl (by first | rfl | (refine int_eq ?_; first | omega | (simp; omega) | (simp; done)) | (refine bool_eq ?_; first | (simp [*]; done) | (simp; done)) | (refine str_eq ?_; simp; done) | (refine ptr_eq ?_; omega) | fail) ?_)) ?_ ?_
      · exact ⟨Nat.zero_le _, rfl⟩
      · exact Lay.ent
      rintro ⟨i, xs⟩ ⟨hi, hx⟩; dsimp only [List.cons_append, List.nil_append]
      refine r_seq ?_
      refine r_seq ?_
      refine r_region (id := 19) ?_
      refine o_give (g_move (evv rfl)) rfl rfl ?_
      refine o_give (g_move (evv rfl)) rfl rfl ?_
      refine o_give (g_lenM (evv rfl)) rfl rfl ?_
      refine o_give (g_bin (evv rfl) (evv rfl) (by rfl)) rfl rfl ?_
      refine o_nil ?_
      refine c_code ?_
      refine r_cond rfl (fun hc => ?_) (fun hc => ?_) <;> (try simp only [decide_eq_true_eq, decide_eq_false_iff_not, Bool.and_eq_true, Bool.or_eq_true, Bool.not_eq_true', Bool.and_eq_false_iff, Bool.or_eq_false_iff, Bool.not_eq_false', Bool.not_eq_true, Bool.not_eq_false, Bool.true_eq_false, Bool.false_eq_true, Int.not_lt, Int.not_le, not_and, not_or, ne_eq] at hc)
      · have hil : i < xs.length := by omega
        refine r_skip ?_
        refine c_code ?_
        refine r_seq ?_
        refine r_block ?_
        refine r_region (id := 21) ?_
        refine o_give (g_move (evv rfl)) rfl rfl ?_
        refine o_give (g_move (evv rfl)) rfl rfl ?_
        refine o_give (g_idxMN (evv rfl) (evv rfl) (by rfl) (by first | omega | (have := of_decide_eq_true hg; omega) | (simp at hg; omega) | (simp only [List.length_set, List.length_append, List.length_cons, List.length_nil, List.length_map, List.length_take, List.length_drop, List.length_replicate]; omega))) rfl rfl ?_
        refine o_storeM (238 : UInt8) (evv rfl) (evv rfl) rfl (by rfl) (by first | omega | (have := of_decide_eq_true hg; omega) | (simp at hg; omega) | (simp only [List.length_set, List.length_append, List.length_cons, List.length_nil, List.length_map, List.length_take, List.length_drop, List.length_replicate]; omega)) ?_
        refine o_nil ?_
        refine c_blk ?_
        refine c_code ?_
        refine r_region (id := 20) ?_
        refine o_give (g_move (evv rfl)) rfl rfl ?_
        refine o_giveN (g_bin (evv rfl) (evv rfl) (by rfl)) (by simp only [inR]; omega) rfl ?_
        refine o_give (g_assign (evv rfl)) rfl rfl ?_
        refine o_nil ?_
        refine c_loop (i + 1, xs.set i 238) ?_ ?_ (by repeat (first | exact trivial | refine ⟨rfl, ?_⟩ | refine envsub_v rfl (by first | rfl | (refine int_eq ?_; first | omega | (simp; omega) | (simp; done)) | (refine bool_eq ?_; first | (simp [*]; done) | (simp; done)) | (refine str_eq ?_; simp; done) | (refine ptr_eq ?_; omega) | fail) ?_)) ?_ <;> (try dsimp only)
        · exact ⟨by omega, by rw [List.length_set]; exact hx⟩
        · omega
        · exact Lay.ent
      · refine r_exit rfl ?_
        refine c_code ?_
        refine r_seq ?_
        repeat (first | refine r_seq ?_ | refine c_code ?_ | refine c_blk ?_ | refine r_block ?_ | refine r_skip ?_)
        refine r_held (id := 22) ([sl kw (frow itmC 34 54 (kidsOf (rawN r))), blk z ⟨nodV (decM b) pv2 iv2, 27⟩, sl pv2 (frow digC 32 52 (decM b).parts), sl iv2 (frow itmC 34 54 (decM b).items), blk y ⟨nodV (decM b) pv1 iv1, 27⟩, sl pv1 (frow digC 32 52 (decM b).parts), sl iv1 (frow itmC 34 54 (decM b).items), blk p ⟨nodV (rawN r) qv iv0, 27⟩, sl qv (frow digC 32 52 (rawN r).parts), sl iv0 (frow itmC 34 54 (rawN r).items), blk q ⟨[.int .i64 r.kind, str r.data, .int .i64 r.size, pv, nv, kv, sv], 39⟩, base W]) Mixed.h ?_
        refine h_give (i := 0) (by kernel_rfl) rfl (g_loadF (evv rfl) (by rfl) (by rfl)) rfl rfl ?_
        refine h_give (i := 1) (by kernel_rfl) rfl (g_loadF (evv rfl) (by rfl) (by rfl)) rfl rfl ?_
        refine h_one (i := 2) (by kernel_rfl) rfl (Lay.ent) ?_
        (refine o_call rfl _ (Ent.refl _) (SameN_c _ _ _ _ _ _ _) rfl ?_; rintro _ _ ⟨rfl, hLz⟩; obtain rfl := hLz.symm; clear hLz)
        refine o_nil ?_
        simp only [decide_true]
        refine h_give (i := 3) (by kernel_rfl) rfl (g_move (evv rfl)) rfl rfl ?_
        refine h_sure (i := 4) (by kernel_rfl) rfl rfl (g_move (evv rfl)) rfl rfl ?_
        refine h_sure (i := 5) (by kernel_rfl) rfl rfl (g_bin (evv rfl) (evv rfl) (by rfl)) rfl rfl ?_
        refine h_sure (i := 6) (by kernel_rfl) rfl rfl (g_fld (evv rfl)) rfl rfl ?_
        refine h_sure (i := 7) (by kernel_rfl) rfl rfl (g_load (evv rfl) (by rfl) (by rfl)) rfl rfl ?_
        refine h_sure (i := 8) (by kernel_rfl) rfl rfl (g_bin (evv rfl) (evv rfl) (by rfl)) rfl rfl ?_
        refine h_sure (i := 9) (by kernel_rfl) rfl rfl (g_binB TyU.h (evv rfl) (evv rfl) (by rfl)) rfl rfl ?_
        simp only [g]
        refine h_give (i := 10) (by kernel_rfl) rfl (g_pick (b := true) (evv rfl) (fun _ => (evv rfl)) (fun h => by cases h)) rfl rfl ?_
        refine h_give (i := 11) (by kernel_rfl) rfl (g_move (evv rfl)) rfl rfl ?_
        refine h_sure (i := 12) (by kernel_rfl) rfl rfl (g_loadF (evv rfl) (by rfl) (by rfl)) rfl rfl ?_
        refine h_sure (i := 13) (by kernel_rfl) rfl rfl (g_loadF (evv rfl) (by rfl) (by rfl)) rfl rfl ?_
        refine h_one (i := 14) (by kernel_rfl) rfl (Lay.ent) ?_
        refine o_gyes rfl ?_
        (refine o_call rfl _ (Ent.refl _) (mkNode_c _ _ _ _ _ _ (by repeat (first | assumption | refine RawR.tail ?_))) rfl ?_; rintro _ _ ⟨qv, iv, rfl, rfl⟩)
        refine o_nil ?_
        refine h_one (i := 15) (by kernel_rfl) rfl (Lay.ent) ?_
        refine o_gyes rfl ?_
        (refine o_call rfl _ (Ent.refl _) (SameN_c _ _ _ _ _ _ _) rfl ?_; rintro _ _ ⟨rfl, hLz⟩; obtain rfl := hLz.symm; clear hLz)
        refine o_nil ?_
        simp only [decide_true]
        refine h_give (i := 16) (by kernel_rfl) rfl (g_pick (b := true) (evv rfl) (fun _ => (evv rfl)) (fun h => by cases h)) rfl rfl ?_
        refine h_give (i := 17) (by kernel_rfl) rfl (g_move (evv rfl)) rfl rfl ?_
        refine h_sure (i := 18) (by kernel_rfl) rfl rfl (g_move (evv rfl)) rfl rfl ?_
        refine h_sure (i := 19) (by kernel_rfl) rfl rfl (g_loadF (evv rfl) (by rfl) (by rfl)) rfl rfl ?_
        refine h_one (i := 20) (by kernel_rfl) rfl (Lay.ent) ?_
        refine o_gyes rfl ?_
        (refine o_call rfl _ (Ent.refl _) (RKids_c _ _ _ _ (by assumption) (by assumption)) rfl ?_; rintro _ _ ⟨_, rfl⟩)
        refine o_nil ?_
        refine h_one (i := 21) (by kernel_rfl) rfl (Lay.ent) ?_
        refine o_gyes rfl ?_
        (refine o_call rfl _ (Ent.refl _) (Items_c _ _ _ _ _) rfl ?_; rintro _ _ ⟨rfl, hLz⟩; obtain rfl := hLz.symm; clear hLz)
        refine o_nil ?_
        refine h_give (i := 22) (by kernel_rfl) rfl (g_pick (b := true) (evv rfl) (fun _ => (evv rfl)) (fun h => by cases h)) rfl rfl ?_
        refine h_give (i := 23) (by kernel_rfl) rfl (g_assign (evv rfl)) rfl rfl ?_
        refine h_done (by kernel_rfl) (Lay.ent) ?_
        refine c_code ?_
        first | refine r_ret (rs := [.tmp 4]) rfl rfl _ ((Lay.ent (L' := [base W]))) ?_ | refine c_end (rs := [.tmp 4]) rfl rfl _ ((Lay.ent (L' := [base W]))) ?_
        exact ⟨bool_eq (by simp), rfl⟩
end VK
