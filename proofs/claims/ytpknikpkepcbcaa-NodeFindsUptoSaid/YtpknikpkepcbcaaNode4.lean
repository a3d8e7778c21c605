/- A node's bytes: the reference's. Conditions: a right node. -/
import Derived.Test.YtpknikpkepcbcaaNode2
import Derived.Test.YtpknikpkepcbcaaNode3
namespace VK
open Go Go.Proofs
set_option linter.unusedSimpArgs false
set_option linter.unusedVariables false
set_option maxRecDepth 100000
set_option maxHeartbeats 40000000
theorem RnodEnc_c (L : List Atom) (n : NodeS) (pv iv : Value) (hok : nodeOk n) [r1 : Rd L pv (frow digC 32 52 n.parts)] [r2 : Rd L iv (frow itmC 34 54 n.items)] : Fn Try.prog 17 [agg (nodV n pv iv)] L fun w L' => ∃ v, w = v ∧ L' = sl v (mrow by8 5 (encN n)) :: L := by
  obtain ⟨kind, data, size, parts, items⟩ := n
  dsimp only at r1 r2
  rcases hok with ⟨h1, h2, h3, h4, h5, h6⟩ | ⟨h1, h2, h3, h4, h5, h6⟩ | ⟨h1, h2, h3, h4, h5, h6⟩ <;> dsimp only at h1 h2 h3 h4 h5 h6 <;> subst h1
  · have c1 := num_le (Int.toNat 1) (by decide)
    have ht : (textB data).length ≤ 100 := by have := num_le data.length (by omega); simp only [textB, List.length_append]; omega
    refine fn_intro Try.func17 rfl Try.ntmps17 rfl (fun W0 => ?_)
    simp only [argE, nodV]
    refine r_seq ?_
    refine r_region (id := 0) ?_
    refine o_boxA (evv rfl) rfl (fun _ => ?_)
    refine o_give (g_assign (evv rfl)) rfl rfl ?_
    refine o_nil ?_
    refine c_code ?_
    refine r_seq ?_
    refine r_region (id := 1) ?_
    refine o_give (g_fld (evv rfl)) rfl rfl ?_
    refine o_give (g_load (evv rfl) (by rfl) (by rfl)) rfl rfl ?_
    refine o_giveN (g_conv TyU.h TyU.h (evv rfl)) (by simp only [inR]; omega) rfl ?_
    (refine o_call rfl _ (Ent.refl _) (rNum_l _ (by omega)) rfl ?_; rintro _ _ ⟨_, rfl⟩; (try simp only [Int.toNat_natCast]))
    refine o_give (g_assign (evv rfl)) rfl rfl ?_
    refine o_nil ?_
    refine c_code ?_
    refine r_seq ?_
    refine r_seq ?_
    refine r_region (id := 2) ?_
    refine o_give (g_fld (evv rfl)) rfl rfl ?_
    refine o_give (g_load (evv rfl) (by rfl) (by rfl)) rfl rfl ?_
    refine o_give (g_bin (evv rfl) (evv rfl) (by rfl)) rfl rfl ?_
    refine o_nil ?_
    refine c_code ?_
    refine r_cond_true rfl ?_
    refine r_seq ?_
    refine r_region (id := 3) ?_
    refine o_give (g_move (evv rfl)) rfl rfl ?_
    refine o_give (g_fld (evv rfl)) rfl rfl ?_
    refine o_give (g_load (evv rfl) (by rfl) (by rfl)) rfl rfl ?_
    (refine o_call rfl _ (Ent.refl _) (rText_c _ _ (by omega)) rfl ?_; rintro _ _ ⟨_, rfl⟩)
    refine o_appM (evv rfl) (evv rfl) (by rfl) (by rfl) (by rfl) (by (try simp only [bsOf, List.length_append, List.length_cons, List.length_nil, List.length_take, List.length_drop, List.length_map, List.length_range]); omega) rfl (fun _ => ?_)
    refine o_give (g_assign (evv rfl)) rfl rfl ?_
    refine o_nil ?_
    refine c_code ?_
    rename_i v
    have e : encN ⟨1, data, size, parts, items⟩ = num (Int.toNat 1) ++ textB data := by simp [encN]
    rw [e]
    first | refine r_ret (rs := [.tmp 2]) rfl rfl _ ((Lay.ent (L' := sl v (mrow by8 5 (num (Int.toNat 1) ++ textB data)) :: L))) ?_ | refine c_end (rs := [.tmp 2]) rfl rfl _ ((Lay.ent (L' := sl v (mrow by8 5 (num (Int.toNat 1) ++ textB data)) :: L))) ?_
    exact ⟨_, rfl, rfl⟩
  · have hpl : parts.length ≤ 16 := by rw [h5, cnt]; omega
    have b1 := num_le size.toNat (by omega)
    have c1 := num_le (Int.toNat 2) (by decide)
    refine fn_intro Try.func17 rfl Try.ntmps17 rfl (fun W0 => ?_)
    simp only [argE, nodV]
    refine r_seq ?_
    refine r_region (id := 0) ?_
    refine o_boxA (evv rfl) rfl (fun _ => ?_)
    refine o_give (g_assign (evv rfl)) rfl rfl ?_
    refine o_nil ?_
    refine c_code ?_
    refine r_seq ?_
    refine r_region (id := 1) ?_
    refine o_give (g_fld (evv rfl)) rfl rfl ?_
    refine o_give (g_load (evv rfl) (by rfl) (by rfl)) rfl rfl ?_
    refine o_giveN (g_conv TyU.h TyU.h (evv rfl)) (by simp only [inR]; omega) rfl ?_
    (refine o_call rfl _ (Ent.refl _) (rNum_l _ (by omega)) rfl ?_; rintro _ _ ⟨_, rfl⟩; (try simp only [Int.toNat_natCast]))
    refine o_give (g_assign (evv rfl)) rfl rfl ?_
    refine o_nil ?_
    refine c_code ?_
    refine r_seq ?_
    refine r_seq ?_
    refine r_region (id := 2) ?_
    refine o_give (g_fld (evv rfl)) rfl rfl ?_
    refine o_give (g_load (evv rfl) (by rfl) (by rfl)) rfl rfl ?_
    refine o_give (g_bin (evv rfl) (evv rfl) (by rfl)) rfl rfl ?_
    refine o_nil ?_
    refine c_code ?_
    refine r_cond_false rfl ?_
    refine r_skip ?_
    refine c_code ?_
    refine r_seq ?_
    refine r_seq ?_
    refine r_region (id := 4) ?_
    refine o_give (g_fld (evv rfl)) rfl rfl ?_
    refine o_give (g_load (evv rfl) (by rfl) (by rfl)) rfl rfl ?_
    refine o_give (g_bin (evv rfl) (evv rfl) (by rfl)) rfl rfl ?_
    refine o_nil ?_
    refine c_code ?_
    refine r_cond_true rfl ?_
    refine r_seq ?_
    refine r_region (id := 5) ?_
    refine o_give (g_move (evv rfl)) rfl rfl ?_
    refine o_give (g_fld (evv rfl)) rfl rfl ?_
    refine o_give (g_load (evv rfl) (by rfl) (by rfl)) rfl rfl ?_
    refine o_giveN (g_conv TyU.h TyU.h (evv rfl)) (by simp only [inR]; omega) rfl ?_
    (refine o_call rfl _ (Ent.refl _) (rNum_l _ (by omega)) rfl ?_; rintro _ _ ⟨_, rfl⟩; (try simp only [Int.toNat_natCast]))
    refine o_appM (evv rfl) (evv rfl) (by rfl) (by rfl) (by rfl) (by (try simp only [bsOf, List.length_append, List.length_cons, List.length_nil, List.length_take, List.length_drop, List.length_map, List.length_range]); omega) rfl (fun _ => ?_)
    refine o_give (g_assign (evv rfl)) rfl rfl ?_
    refine o_nil ?_
    refine c_code ?_
    refine r_seq ?_
    refine r_seq ?_
    refine r_region (id := 6) ?_
    refine o_give (g_assign (evv rfl)) rfl rfl ?_
    refine o_nil ?_
    refine c_code ?_
    refine r_block ?_
    rename_i q v0 t0 v1 t1 v
    rw [show num (Int.toNat 2) ++ num size.toNat = num 2 ++ num size.toNat from rfl]
    refine r_loopE (σ := Nat × Value) (fun ⟨i, v⟩ => i ≤ parts.length) (fun ⟨i, v⟩ => parts.length - i) (fun ⟨i, v⟩ => [(3, .v (v)), (4, .v (.int .i64 i))]) [1] (fun ⟨i, v⟩ => sl v (mrow by8 5 (num 2 ++ num size.toNat ++ (parts.take i).flatMap (·.1))) :: blk q ⟨[.int .i64 2, str data, .int .i64 size, pv, iv], 27⟩ :: L) (0, v) (by dsimp only [pickE, pick1, lk2, Nat.reduceBEq, Nat.reduceAdd, Nat.zero_add, cond_true, cond_false] <;> exact rfl) ?_ (by repeat (first | exact trivial | refine ⟨rfl, ?_⟩ | refine envsub_v rfl (by first | rfl | (refine int_eq ?_; first | omega | (simp; omega) | (simp; done)) | (refine bool_eq ?_; first | (simp [*]; done) | (simp; done)) | (refine str_eq ?_; simp; done) | (refine ptr_eq ?_; omega) | fail) ?_)) ?_ ?_
    · exact Nat.zero_le _
    · simp only [List.take_zero, List.flatMap_nil, List.append_nil]
      exact Lay.ent
    rintro ⟨i, v⟩ hi; (try dsimp only at hi); dsimp only [List.cons_append, List.nil_append]
    refine r_seq ?_
    refine r_seq ?_
    refine r_region (id := 7) ?_
    refine o_give (g_move (evv rfl)) rfl rfl ?_
    refine o_give (g_fld (evv rfl)) rfl rfl ?_
    refine o_give (g_load (evv rfl) (by rfl) (by rfl)) rfl rfl ?_
    refine o_give (g_lenF (evv rfl)) rfl rfl ?_
    refine o_give (g_bin (evv rfl) (evv rfl) (by rfl)) rfl rfl ?_
    refine o_nil ?_
    refine c_code ?_
    refine r_cond rfl (fun hc => ?_) (fun hc => ?_) <;> (try simp only [decide_eq_true_eq, decide_eq_false_iff_not, Bool.and_eq_true, Bool.or_eq_true, Bool.not_eq_true', Bool.and_eq_false_iff, Bool.or_eq_false_iff, Bool.not_eq_false', Bool.not_eq_true, Bool.not_eq_false, Bool.true_eq_false, Bool.false_eq_true, Int.not_lt, Int.not_le, not_and, not_or, ne_eq] at hc)
    · have hil : i < parts.length := by omega
      have hd := (parts.getD i default).2
      have hs := flat_step (f := fun d : Dig => d.1) hil
      have hfl := flat_len (f := fun d : Dig => d.1) (q := 32) (parts.take i) (fun a _ => by have := a.2; omega)
      have b2 := num_le 2 (by omega)
      rw [List.length_take] at hfl
      haveI : Rd L (arrV pv (i * 32) 32) (mrow by8 5 (parts.getD i default).1) := Rd.arr (q := 0) 5 r1 (by decide) hil (show PartC (bys (parts.getD i default).1) 0 32 (bys (parts.getD i default).1) from inferInstance) (by decide) (by omega)
      refine r_skip ?_
      refine c_code ?_
      refine r_seq ?_
      refine r_block ?_
      refine r_region (id := 9) ?_
      refine o_give (g_move (evv rfl)) rfl rfl ?_
      refine o_give (g_fld (evv rfl)) rfl rfl ?_
      refine o_give (g_load (evv rfl) (by rfl) (by rfl)) rfl rfl ?_
      refine o_give (g_move (evv rfl)) rfl rfl ?_
      refine o_give (g_idxFN (evv rfl) (evv rfl) (by rfl) (by rfl) (by first | omega | (have := of_decide_eq_true hg; omega) | (simp at hg; omega) | (simp only [List.length_set, List.length_append, List.length_cons, List.length_nil, List.length_map, List.length_take, List.length_drop, List.length_replicate]; omega))) rfl rfl ?_
      refine o_give (g_arrE0 (evv rfl) (by rfl) (by first | omega | (have := of_decide_eq_true hg; omega) | (simp at hg; omega) | (simp only [List.length_set, List.length_append, List.length_cons, List.length_nil, List.length_map, List.length_take, List.length_drop, List.length_replicate]; omega))) rfl rfl ?_
      refine o_appM (evv rfl) (evv rfl) (by rfl) (by rfl) (by rfl) (by (try simp only [bsOf, List.length_append, List.length_cons, List.length_nil, List.length_take, List.length_drop, List.length_map, List.length_range]); omega) rfl (fun _ => ?_)
      refine o_give (g_assign (evv rfl)) rfl rfl ?_
      refine o_nil ?_
      refine c_blk ?_
      refine c_code ?_
      refine r_region (id := 8) ?_
      refine o_give (g_move (evv rfl)) rfl rfl ?_
      refine o_giveN (g_bin (evv rfl) (evv rfl) (by rfl)) (by simp only [inR]; omega) rfl ?_
      refine o_give (g_assign (evv rfl)) rfl rfl ?_
      refine o_nil ?_
      rename_i v'
      rw [List.append_assoc]
      refine c_loop (i + 1, v') ?_ ?_ (by repeat (first | exact trivial | refine ⟨rfl, ?_⟩ | refine envsub_v rfl (by first | rfl | (refine int_eq ?_; first | omega | (simp; omega) | (simp; done)) | (refine bool_eq ?_; first | (simp [*]; done) | (simp; done)) | (refine str_eq ?_; simp; done) | (refine ptr_eq ?_; omega) | fail) ?_)) ?_ <;> (try dsimp only)
      · omega
      · omega
      · rw [hs]
        exact Lay.ent
    · rw [List.take_of_length_le (by omega)]
      refine r_exit rfl ?_
      refine c_code ?_
      refine r_seq ?_
      refine r_region (id := 10) ?_
      refine o_give (g_move (evv rfl)) rfl rfl ?_
      refine o_give (g_assign (evv rfl)) rfl rfl ?_
      refine o_nil ?_
      refine c_code ?_
      have e : encN ⟨2, data, size, parts, items⟩ = num 2 ++ num size.toNat ++ parts.flatMap (·.1) := by simp [encN]
      rw [e]
      first | refine r_ret (rs := [.tmp 2]) rfl rfl _ ((Lay.ent (L' := sl v (mrow by8 5 (num 2 ++ num size.toNat ++ parts.flatMap (·.1))) :: L))) ?_ | refine c_end (rs := [.tmp 2]) rfl rfl _ ((Lay.ent (L' := sl v (mrow by8 5 (num 2 ++ num size.toNat ++ parts.flatMap (·.1))) :: L))) ?_
      exact ⟨_, rfl, rfl⟩
  · have b1 := num_le items.length (by omega)
    have c1 := num_le (Int.toNat 3) (by decide)
    refine fn_intro Try.func17 rfl Try.ntmps17 rfl (fun W0 => ?_)
    simp only [argE, nodV]
    refine r_seq ?_
    refine r_region (id := 0) ?_
    refine o_boxA (evv rfl) rfl (fun _ => ?_)
    refine o_give (g_assign (evv rfl)) rfl rfl ?_
    refine o_nil ?_
    refine c_code ?_
    refine r_seq ?_
    refine r_region (id := 1) ?_
    refine o_give (g_fld (evv rfl)) rfl rfl ?_
    refine o_give (g_load (evv rfl) (by rfl) (by rfl)) rfl rfl ?_
    refine o_giveN (g_conv TyU.h TyU.h (evv rfl)) (by simp only [inR]; omega) rfl ?_
    (refine o_call rfl _ (Ent.refl _) (rNum_l _ (by omega)) rfl ?_; rintro _ _ ⟨_, rfl⟩; (try simp only [Int.toNat_natCast]))
    refine o_give (g_assign (evv rfl)) rfl rfl ?_
    refine o_nil ?_
    refine c_code ?_
    refine r_seq ?_
    refine r_seq ?_
    refine r_region (id := 2) ?_
    refine o_give (g_fld (evv rfl)) rfl rfl ?_
    refine o_give (g_load (evv rfl) (by rfl) (by rfl)) rfl rfl ?_
    refine o_give (g_bin (evv rfl) (evv rfl) (by rfl)) rfl rfl ?_
    refine o_nil ?_
    refine c_code ?_
    refine r_cond_false rfl ?_
    refine r_skip ?_
    refine c_code ?_
    refine r_seq ?_
    refine r_seq ?_
    refine r_region (id := 4) ?_
    refine o_give (g_fld (evv rfl)) rfl rfl ?_
    refine o_give (g_load (evv rfl) (by rfl) (by rfl)) rfl rfl ?_
    refine o_give (g_bin (evv rfl) (evv rfl) (by rfl)) rfl rfl ?_
    refine o_nil ?_
    refine c_code ?_
    refine r_cond_false rfl ?_
    refine r_skip ?_
    refine c_code ?_
    refine r_seq ?_
    refine r_region (id := 11) ?_
    refine o_give (g_move (evv rfl)) rfl rfl ?_
    refine o_give (g_fld (evv rfl)) rfl rfl ?_
    refine o_give (g_load (evv rfl) (by rfl) (by rfl)) rfl rfl ?_
    refine o_give (g_lenF (evv rfl)) rfl rfl ?_
    refine o_giveN (g_conv TyU.h TyU.h (evv rfl)) (by simp only [inR]; omega) rfl ?_
    (refine o_call rfl _ (Ent.refl _) (rNum_l _ (by omega)) rfl ?_; rintro _ _ ⟨_, rfl⟩; (try simp only [Int.toNat_natCast]))
    refine o_appM (evv rfl) (evv rfl) (by rfl) (by rfl) (by rfl) (by (try simp only [bsOf, List.length_append, List.length_cons, List.length_nil, List.length_take, List.length_drop, List.length_map, List.length_range]); omega) rfl (fun _ => ?_)
    refine o_give (g_assign (evv rfl)) rfl rfl ?_
    refine o_nil ?_
    refine c_code ?_
    refine r_seq ?_
    refine r_seq ?_
    refine r_region (id := 12) ?_
    refine o_give (g_assign (evv rfl)) rfl rfl ?_
    refine o_nil ?_
    refine c_code ?_
    refine r_block ?_
    rename_i q v0 t0 v1 t1 v
    rw [show num (Int.toNat 3) ++ num items.length = num 3 ++ num items.length from rfl]
    refine r_loopE (σ := Nat × Value) (fun ⟨i, v⟩ => i ≤ items.length) (fun ⟨i, v⟩ => items.length - i) (fun ⟨i, v⟩ => [(3, .v (v)), (5, .v (.int .i64 i))]) [1] (fun ⟨i, v⟩ => sl v (mrow by8 5 (num 3 ++ num items.length ++ (items.take i).flatMap itmB)) :: blk q ⟨[.int .i64 3, str data, .int .i64 size, pv, iv], 27⟩ :: L) (0, v) (by dsimp only [pickE, pick1, lk2, Nat.reduceBEq, Nat.reduceAdd, Nat.zero_add, cond_true, cond_false] <;> exact rfl) ?_ (by repeat (first | exact trivial | refine ⟨rfl, ?_⟩ | refine envsub_v rfl (by first | rfl | (refine int_eq ?_; first | omega | (simp; omega) | (simp; done)) | (refine bool_eq ?_; first | (simp [*]; done) | (simp; done)) | (refine str_eq ?_; simp; done) | (refine ptr_eq ?_; omega) | fail) ?_)) ?_ ?_
    · exact Nat.zero_le _
    · simp only [List.take_zero, List.flatMap_nil, List.append_nil]
      exact Lay.ent
    rintro ⟨i, v⟩ hi; (try dsimp only at hi); dsimp only [List.cons_append, List.nil_append]
    refine r_seq ?_
    refine r_seq ?_
    refine r_region (id := 13) ?_
    refine o_give (g_move (evv rfl)) rfl rfl ?_
    refine o_give (g_fld (evv rfl)) rfl rfl ?_
    refine o_give (g_load (evv rfl) (by rfl) (by rfl)) rfl rfl ?_
    refine o_give (g_lenF (evv rfl)) rfl rfl ?_
    refine o_give (g_bin (evv rfl) (evv rfl) (by rfl)) rfl rfl ?_
    refine o_nil ?_
    refine c_code ?_
    have hmem : ∀ x ∈ items, (itmB x).length ≤ 50 := fun x hx => by obtain ⟨⟨_, h, _⟩, h'⟩ := rises_mem h6 hx; exact itmB_len h h'
    have b2 := num_le 3 (by omega)
    refine r_cond rfl (fun hc => ?_) (fun hc => ?_) <;> (try simp only [decide_eq_true_eq, decide_eq_false_iff_not, Bool.and_eq_true, Bool.or_eq_true, Bool.not_eq_true', Bool.and_eq_false_iff, Bool.or_eq_false_iff, Bool.not_eq_false', Bool.not_eq_true, Bool.not_eq_false, Bool.true_eq_false, Bool.false_eq_true, Int.not_lt, Int.not_le, not_and, not_or, ne_eq] at hc)
    · have hil : i < items.length := by omega
      have hd := (items.getD i default).sum.2
      obtain ⟨hnm, hkk⟩ := rises_mem h6 (show items.getD i default ∈ items by simp [hil])
      have hnl := hnm.2.1
      have hs := flat_step (f := itmB) hil
      have hfl := flat_len (f := itmB) (q := 50) (items.take i) (fun a ha => hmem a (List.mem_of_mem_take ha))
      rw [List.length_take] at hfl
      have b3 := num_le (items.getD i default).kind.toNat (by omega)
      have b4 := num_le (items.getD i default).name.length (by omega)
      have b5 : (textB (items.getD i default).name).length ≤ 100 := by simp only [textB, List.length_append]; omega
      haveI : Rd L (arrV iv (i * 34 + 2) 32) (mrow by8 5 (items.getD i default).sum.1) := Rd.arr (q := 2) 5 r2 (by decide) hil inferInstance (by decide) (by omega)
      refine r_skip ?_
      refine c_code ?_
      refine r_seq ?_
      refine r_block ?_
      refine r_seq ?_
      refine r_region (id := 15) ?_
      refine o_give (g_move (evv rfl)) rfl rfl ?_
      refine o_give (g_fld (evv rfl)) rfl rfl ?_
      refine o_give (g_load (evv rfl) (by rfl) (by rfl)) rfl rfl ?_
      refine o_give (g_move (evv rfl)) rfl rfl ?_
      refine o_give (g_idxFN (evv rfl) (evv rfl) (by rfl) (by rfl) (by first | omega | (have := of_decide_eq_true hg; omega) | (simp at hg; omega) | (simp only [List.length_set, List.length_append, List.length_cons, List.length_nil, List.length_map, List.length_take, List.length_drop, List.length_replicate]; omega))) rfl rfl ?_
      refine o_give (g_fldE (evv rfl) (by first | (simp only [frow, mrow]; omega) | (simp only [frow, mrow, List.length_set, List.length_append, List.length_cons]; omega) | fail) (by first | exact Nat.succ_pos _ | decide)) rfl rfl ?_
      refine o_give (g_loadFld (evv rfl) (by rfl) (by first | (intro; rfl) | exact LenC.h) (by first | omega | (have := of_decide_eq_true hg; omega) | (simp at hg; omega) | (simp only [List.length_set, List.length_append, List.length_cons, List.length_nil, List.length_map, List.length_take, List.length_drop, List.length_replicate]; omega)) (by rfl)) rfl rfl ?_
      (refine o_call rfl _ (Ent.refl _) (rText_c _ _ (by omega)) rfl ?_; rintro _ _ ⟨_, rfl⟩)
      refine o_appM (evv rfl) (evv rfl) (by rfl) (by rfl) (by rfl) (by (try simp only [bsOf, List.length_append, List.length_cons, List.length_nil, List.length_take, List.length_drop, List.length_map, List.length_range]); omega) rfl (fun _ => ?_)
      refine o_give (g_assign (evv rfl)) rfl rfl ?_
      refine o_nil ?_
      refine c_code ?_
      refine r_seq ?_
      refine r_region (id := 16) ?_
      refine o_give (g_move (evv rfl)) rfl rfl ?_
      refine o_give (g_fld (evv rfl)) rfl rfl ?_
      refine o_give (g_load (evv rfl) (by rfl) (by rfl)) rfl rfl ?_
      refine o_give (g_move (evv rfl)) rfl rfl ?_
      refine o_give (g_idxFN (evv rfl) (evv rfl) (by rfl) (by rfl) (by first | omega | (have := of_decide_eq_true hg; omega) | (simp at hg; omega) | (simp only [List.length_set, List.length_append, List.length_cons, List.length_nil, List.length_map, List.length_take, List.length_drop, List.length_replicate]; omega))) rfl rfl ?_
      refine o_give (g_fldE (evv rfl) (by first | (simp only [frow, mrow]; omega) | (simp only [frow, mrow, List.length_set, List.length_append, List.length_cons]; omega) | fail) (by first | exact Nat.succ_pos _ | decide)) rfl rfl ?_
      refine o_give (g_loadFld (evv rfl) (by rfl) (by first | (intro; rfl) | exact LenC.h) (by first | omega | (have := of_decide_eq_true hg; omega) | (simp at hg; omega) | (simp only [List.length_set, List.length_append, List.length_cons, List.length_nil, List.length_map, List.length_take, List.length_drop, List.length_replicate]; omega)) (by rfl)) rfl rfl ?_
      refine o_giveN (g_conv TyU.h TyU.h (evv rfl)) (by simp only [inR]; omega) rfl ?_
      (refine o_call rfl _ (Ent.refl _) (rNum_l _ (by omega)) rfl ?_; rintro _ _ ⟨_, rfl⟩; (try simp only [Int.toNat_natCast]))
      refine o_appM (evv rfl) (evv rfl) (by rfl) (by rfl) (by rfl) (by (try simp only [bsOf, List.length_append, List.length_cons, List.length_nil, List.length_take, List.length_drop, List.length_map, List.length_range]); omega) rfl (fun _ => ?_)
      refine o_give (g_assign (evv rfl)) rfl rfl ?_
      refine o_nil ?_
      refine c_code ?_
      refine r_region (id := 17) ?_
      refine o_give (g_move (evv rfl)) rfl rfl ?_
      refine o_give (g_fld (evv rfl)) rfl rfl ?_
      refine o_give (g_load (evv rfl) (by rfl) (by rfl)) rfl rfl ?_
      refine o_give (g_move (evv rfl)) rfl rfl ?_
      refine o_give (g_idxFN (evv rfl) (evv rfl) (by rfl) (by rfl) (by first | omega | (have := of_decide_eq_true hg; omega) | (simp at hg; omega) | (simp only [List.length_set, List.length_append, List.length_cons, List.length_nil, List.length_map, List.length_take, List.length_drop, List.length_replicate]; omega))) rfl rfl ?_
      refine o_give (g_fldE (evv rfl) (by first | (simp only [frow, mrow]; omega) | (simp only [frow, mrow, List.length_set, List.length_append, List.length_cons]; omega) | fail) (by first | exact Nat.succ_pos _ | decide)) rfl rfl ?_
      refine o_give (g_arrE (evv rfl) (by rfl) (by first | omega | (have := of_decide_eq_true hg; omega) | (simp at hg; omega) | (simp only [List.length_set, List.length_append, List.length_cons, List.length_nil, List.length_map, List.length_take, List.length_drop, List.length_replicate]; omega))) rfl rfl ?_
      refine o_appM (evv rfl) (evv rfl) (by rfl) (by rfl) (by rfl) (by (try simp only [bsOf, List.length_append, List.length_cons, List.length_nil, List.length_take, List.length_drop, List.length_map, List.length_range]); omega) rfl (fun _ => ?_)
      refine o_give (g_assign (evv rfl)) rfl rfl ?_
      refine o_nil ?_
      refine c_blk ?_
      refine c_code ?_
      refine r_region (id := 14) ?_
      refine o_give (g_move (evv rfl)) rfl rfl ?_
      refine o_giveN (g_bin (evv rfl) (evv rfl) (by rfl)) (by simp only [inR]; omega) rfl ?_
      refine o_give (g_assign (evv rfl)) rfl rfl ?_
      refine o_nil ?_
      rename_i v'
      refine c_loop (i + 1, v') ?_ ?_ (by repeat (first | exact trivial | refine ⟨rfl, ?_⟩ | refine envsub_v rfl (by first | rfl | (refine int_eq ?_; first | omega | (simp; omega) | (simp; done)) | (refine bool_eq ?_; first | (simp [*]; done) | (simp; done)) | (refine str_eq ?_; simp; done) | (refine ptr_eq ?_; omega) | fail) ?_)) ?_ <;> (try dsimp only)
      · omega
      · omega
      · rw [hs, itmB]
        simp only [List.append_assoc]
        exact Lay.ent
    · rw [List.take_of_length_le (by omega)]
      refine r_exit rfl ?_
      refine c_code ?_
      refine r_seq ?_
      refine r_region (id := 18) ?_
      refine o_give (g_move (evv rfl)) rfl rfl ?_
      refine o_give (g_assign (evv rfl)) rfl rfl ?_
      refine o_nil ?_
      refine c_code ?_
      have e : encN ⟨3, data, size, parts, items⟩ = num 3 ++ num items.length ++ items.flatMap itmB := by simp [encN]
      rw [e]
      first | refine r_ret (rs := [.tmp 2]) rfl rfl _ ((Lay.ent (L' := sl v (mrow by8 5 (num 3 ++ num items.length ++ items.flatMap itmB)) :: L))) ?_ | refine c_end (rs := [.tmp 2]) rfl rfl _ ((Lay.ent (L' := sl v (mrow by8 5 (num 3 ++ num items.length ++ items.flatMap itmB)) :: L))) ?_
      exact ⟨_, rfl, rfl⟩
end VK
