/- PlatterApart, walked. Conditions: few bytes. -/
import Derived.Test.YtbhlcncfpkfopaaPlat10
namespace VK
open Go Go.Proofs
set_option linter.unusedSimpArgs false
set_option linter.unusedVariables false
set_option maxRecDepth 100000
set_option maxHeartbeats 40000000
structure ApI (l : List RCall) (k : Nat) (x : Pt) (n : Nat) : Prop where
  ok : x.ok
  len : sizeP x ≤ n + scB (l.take k)
theorem PlatterApart_c (W : World) (v u : Value) (l m : List RCall) (sc : ScOk [base W] v l) (sm : ScOk [base W] u m) (hb : scB l ≤ 4611686018427387904) (hb2 : scB m ≤ 4611686018427387904) :
    Fn Try.prog 6 [v, u] [base W] fun w L' => w = .bool true ∧ L' = [base W] := by
  haveI rd := sc.rd
  haveI rm := sm.rd
  refine fn_lenF rd fun hlen => ?_
  have hlen : l.length ≤ 2 ^ 63 - 1 := hlen
  refine fn_lenF rm fun hlen2 => ?_
  have hlen2 : m.length ≤ 2 ^ 63 - 1 := hlen2
  have k0 : zeroPt.ok := ⟨.inl rfl, Nat.le_refl _, Nat.le_refl _, Nat.zero_le _, Nat.zero_le _, Nat.zero_le _⟩
  refine fn_intro Try.func6 rfl Try.ntmps6 rfl (fun W0 => ?_)
  simp only [argE]
  refine r_seq ?_
  refine r_region (id := 0) ?_
  refine o_give (g_assign (evv rfl)) rfl rfl ?_
  refine o_nil ?_
  refine c_code ?_
  refine r_seq ?_
  refine r_seq ?_
  refine r_region (id := 1) ?_
  (refine o_call rfl _ (Ent.refl _) (awake_c _) rfl ?_; rintro _ _ ⟨rfl, rfl⟩)
  refine o_give (g_not (evv rfl)) rfl rfl ?_
  refine o_nil ?_
  refine c_code ?_
  refine r_cond_false rfl ?_
  refine r_skip ?_
  refine c_code ?_
  refine r_seq ?_
  refine r_seq ?_
  refine r_region (id := 3) ?_
  refine o_give (g_move (evv rfl)) rfl rfl ?_
  (refine o_call rfl _ (Ent.refl _) (fits_c _ _ _ (by assumption) (by first | assumption | omega)) rfl ?_; rintro _ _ ⟨rfl, rfl⟩)
  refine o_give (g_not (evv rfl)) rfl rfl ?_
  refine o_give (g_move (evv rfl)) rfl rfl ?_
  refine o_lazy rfl (fun hg => g_move (by first | exact evv rfl | exact evg rfl (by rw [hp]; rfl) | exact evg rfl hp | exact evg rfl hg | exact evg rfl (by first | (simp_all; done) | (simp [*]; done) | fail) | fail)) rfl rfl ?_
  refine o_split (t := 18) rfl (fun hs => ?_) (fun hs => ?_)
  · refine o_lazy (v0 := undef) rfl (fun hg => absurd hg (by first | (simp; done) | fail)) rfl rfl ?_
    refine o_lazy (v0 := undef) rfl (fun hg => absurd hg (by first | (simp; done) | fail)) rfl rfl ?_
    refine o_give (g_pick (b := true) (evv rfl) (fun _ => (evv rfl)) (fun h => by cases h)) rfl rfl ?_
    refine o_nil ?_
    refine c_code ?_
    refine r_cond_true rfl ?_
    refine r_seq ?_
    refine r_region (id := 4) ?_
    refine o_give (g_assign (evv rfl)) rfl rfl ?_
    refine o_nil ?_
    refine c_code ?_
    first | refine r_ret (rs := [.tmp 4]) rfl rfl _ ((Lay.ent (L' := [base W]))) ?_ | refine c_end (rs := [.tmp 4]) rfl rfl _ ((Lay.ent (L' := [base W]))) ?_
    (refine ⟨?_, ?_⟩ <;> first | rfl | trivial | omega)
  refine o_sure (t := 19) rfl (by rw [hs]; rfl) ?_
  refine o_gyes rfl ?_
  (refine o_call rfl _ (Ent.refl _) (fits_c _ _ _ (by assumption) (by first | assumption | omega)) rfl ?_; rintro _ _ ⟨rfl, rfl⟩)
  refine o_gyes rfl ?_
  refine o_give (g_not (evv rfl)) rfl rfl ?_
  refine o_give (g_pick (b := false) (evv rfl) (fun h => by cases h) (fun _ => (evv rfl))) rfl rfl ?_
  refine o_nil ?_
  refine c_code ?_
  refine r_cond rfl (fun hf => ?_) (fun hf => ?_) <;> (try simp only [decide_eq_true_eq, decide_eq_false_iff_not, Bool.and_eq_true, Bool.or_eq_true, Bool.not_eq_true', Bool.and_eq_false_iff, Bool.or_eq_false_iff, Bool.not_eq_false', Bool.not_eq_true, Bool.not_eq_false, Bool.true_eq_false, Bool.false_eq_true, Int.not_lt, Int.not_le, not_and, not_or, ne_eq] at hf)
  · refine r_seq ?_
    refine r_region (id := 4) ?_
    refine o_give (g_assign (evv rfl)) rfl rfl ?_
    refine o_nil ?_
    refine c_code ?_
    first | refine r_ret (rs := [.tmp 4]) rfl rfl _ ((Lay.ent (L' := [base W]))) ?_ | refine c_end (rs := [.tmp 4]) rfl rfl _ ((Lay.ent (L' := [base W]))) ?_
    (refine ⟨?_, ?_⟩ <;> first | rfl | trivial | omega)
  · have hl3 : scB l < 30000 := by simpa using hs
    have hm3 : scB m < 30000 := by simpa using hf
    clear hs hf
    refine r_skip ?_
    refine c_code ?_
    refine r_seq ?_
    refine r_region (id := 5) ?_
    (refine o_call rfl _ (Ent.refl _) (New_c _) rfl ?_; rintro _ _ ⟨np, rfl, rfl⟩)
    refine o_give (g_assign (evv rfl)) rfl rfl ?_
    refine o_nil ?_
    refine c_code ?_
    refine r_seq ?_
    refine r_region (id := 6) ?_
    refine o_give (v := agg [(Go.Value.string { data := #[] }), (Go.Value.string { data := #[] }), (Go.Value.int Go.IntKind.i64 0), (Go.Value.int Go.IntKind.i64 0), (Go.Value.int Go.IntKind.i64 0), (Go.Value.int Go.IntKind.i64 0), (Go.Value.bool false)]) (g_buildC rfl (by rfl)) rfl rfl ?_
    refine o_boxA (evv rfl) rfl (fun _ => ?_)
    refine o_give (g_assign (evv rfl)) rfl rfl ?_
    refine o_nil ?_
    refine c_code ?_
    refine r_seq ?_
    refine r_seq ?_
    refine r_region (id := 7) ?_
    refine o_give (g_move (evv rfl)) rfl rfl ?_
    refine o_give (g_pnil TyU.h (evv rfl) (evv rfl) (by simp) (by rfl)) rfl rfl ?_
    refine o_nil ?_
    refine c_code ?_
    refine r_cond_false rfl ?_
    refine r_skip ?_
    refine c_code ?_
    refine r_seq ?_
    refine r_seq ?_
    refine r_region (id := 9) ?_
    refine o_give (g_assign (evv rfl)) rfl rfl ?_
    refine o_nil ?_
    refine c_code ?_
    refine r_block ?_
    rename_i r
    refine r_ent (rp r zeroPt :: pt np zeroPt :: [base W]) (Ent.refl _) ?_
    refine r_loopE (σ := Nat × Pt) (fun ⟨k, x⟩ => k ≤ l.length ∧ x.ok ∧ sizeP x ≤ scB (l.take k)) (fun ⟨k, x⟩ => l.length - k) (fun ⟨k, x⟩ => [(7, .v (.int .i64 k))]) [0, 1, 5, 6] (fun ⟨k, x⟩ => rp r x :: pt np x :: [base W]) (0, zeroPt) (by dsimp only [pickE, pick1, lk2, Nat.reduceBEq, Nat.reduceAdd, Nat.zero_add, cond_true, cond_false] <;> exact rfl) ?_ (by repeat (first | exact trivial | refine ⟨rfl, ?_⟩ | refine envsub_v rfl (by first | rfl | (refine int_eq ?_; first | omega | (simp; omega) | (simp; done)) | (refine bool_eq ?_; first | (simp [*]; done) | (simp; done)) | (refine str_eq ?_; simp; done) | (refine ptr_eq ?_; omega) | fail) ?_)) ?_ ?_
    · exact ⟨Nat.zero_le _, k0, Nat.zero_le _⟩
    · exact Ent.refl _
    rintro ⟨k, x⟩ ⟨hk, hx, hs⟩; dsimp only [List.cons_append, List.nil_append]
    refine r_seq ?_
    refine r_seq ?_
    refine r_region (id := 10) ?_
    refine o_give (g_move (evv rfl)) rfl rfl ?_
    refine o_give (g_move (evv rfl)) rfl rfl ?_
    refine o_give (g_lenF (evv rfl)) rfl rfl ?_
    refine o_give (g_bin (evv rfl) (evv rfl) (by rfl)) rfl rfl ?_
    refine o_give (g_move (evv rfl)) rfl rfl ?_
    refine o_lazy rfl (fun hg => g_move (by first | exact evv rfl | exact evg rfl (by rw [hp]; rfl) | exact evg rfl hp | exact evg rfl hg | exact evg rfl (by first | (simp_all; done) | (simp [*]; done) | fail) | fail)) rfl rfl ?_
    refine o_lazy rfl (fun hg => g_bin (by first | exact evv rfl | exact evg rfl (by rw [hp]; rfl) | exact evg rfl hp | exact evg rfl hg | exact evg rfl (by first | (simp_all; done) | (simp [*]; done) | fail) | fail) (by first | exact evv rfl | exact evg rfl (by rw [hp]; rfl) | exact evg rfl hp | exact evg rfl hg | exact evg rfl (by first | (simp_all; done) | (simp [*]; done) | fail) | fail) (by rfl)) rfl rfl ?_
    refine o_give (g_pick_and (evv rfl) (evv rfl) (fun hp => (by first | exact evv rfl | exact evg rfl (by rw [hp]; rfl) | exact evg rfl hp | exact evg rfl hg | exact evg rfl (by first | (simp_all; done) | (simp [*]; done) | fail) | fail))) rfl rfl ?_
    refine o_nil ?_
    refine c_code ?_
    refine r_cond rfl (fun hc => ?_) (fun hc => ?_) <;> (try simp only [decide_eq_true_eq, decide_eq_false_iff_not, Bool.and_eq_true, Bool.or_eq_true, Bool.not_eq_true', Bool.and_eq_false_iff, Bool.or_eq_false_iff, Bool.not_eq_false', Bool.not_eq_true, Bool.not_eq_false, Bool.true_eq_false, Bool.false_eq_true, Int.not_lt, Int.not_le, not_and, not_or, ne_eq] at hc)
    · have hk8 : k < l.length := by omega
      have hsc := scB_take l k hk8
      have hsl := scB_take_le l (k + 1)
      obtain ⟨hrc, hks, hn⟩ := sc.el (l.getD k default) (by simp [hk8])
      haveI := hrc
      have hb1 : (l.getD k default).b.length ≤ 100000000 := by omega
      have hb2 : (l.getD k default).b.length ≤ 1000000000 := by omega
      obtain ⟨hx2, hs2⟩ := doT_ok (c := l.getD k default) hx hn (by omega)
      refine r_skip ?_
      refine c_code ?_
      refine r_seq ?_
      refine r_block ?_
      refine r_seq ?_
      refine r_region (id := 12) ?_
      refine o_give (g_move (evv rfl)) rfl rfl ?_
      refine o_give (g_move (evv rfl)) rfl rfl ?_
      refine o_give (g_move (evv rfl)) rfl rfl ?_
      refine o_give (g_idxFN (evv rfl) (evv rfl) (by rfl) (by rfl) (by first | omega | (have := of_decide_eq_true hg; omega) | (simp at hg; omega) | (simp only [List.length_set, List.length_append, List.length_cons, List.length_nil, List.length_map, List.length_take, List.length_drop, List.length_replicate]; omega))) rfl rfl ?_
      refine o_give (g_loadFr (evv rfl) (by rfl) (by intro; rfl) (by rfl) (by rfl) (by first | omega | (have := of_decide_eq_true hg; omega) | (simp at hg; omega) | (simp only [List.length_set, List.length_append, List.length_cons, List.length_nil, List.length_map, List.length_take, List.length_drop, List.length_replicate]; omega))) rfl rfl ?_
      (refine o_call rfl _ (PickR.ent (K := pt _)) (do_c _ _ _ (by assumption) _ (by assumption) (by assumption)) rfl ?_; rintro _ _ ⟨rfl, rfl⟩)
      refine o_nil ?_
      refine c_code ?_
      refine r_region (id := 13) ?_
      refine o_give (g_move (evv rfl)) rfl rfl ?_
      refine o_give (g_move (evv rfl)) rfl rfl ?_
      refine o_give (g_move (evv rfl)) rfl rfl ?_
      refine o_give (g_idxFN (evv rfl) (evv rfl) (by rfl) (by rfl) (by first | omega | (have := of_decide_eq_true hg; omega) | (simp at hg; omega) | (simp only [List.length_set, List.length_append, List.length_cons, List.length_nil, List.length_map, List.length_take, List.length_drop, List.length_replicate]; omega))) rfl rfl ?_
      refine o_give (g_loadFr (evv rfl) (by rfl) (by intro; rfl) (by rfl) (by rfl) (by first | omega | (have := of_decide_eq_true hg; omega) | (simp at hg; omega) | (simp only [List.length_set, List.length_append, List.length_cons, List.length_nil, List.length_map, List.length_take, List.length_drop, List.length_replicate]; omega))) rfl rfl ?_
      (refine o_call rfl _ (PickR.ent (K := rp _)) (rDo_c _ _ _ (by assumption) _ (by assumption) (by assumption) (by assumption)) rfl ?_; rintro _ _ ⟨rfl, rfl⟩)
      refine o_nil ?_
      refine c_blk ?_
      refine c_code ?_
      refine r_region (id := 11) ?_
      refine o_give (g_move (evv rfl)) rfl rfl ?_
      refine o_giveN (g_bin (evv rfl) (evv rfl) (by rfl)) (by simp only [inR]; omega) rfl ?_
      refine o_give (g_assign (evv rfl)) rfl rfl ?_
      refine o_nil ?_
      refine c_loop (k + 1, (doT x (l.getD k default)).2) ?_ ?_ (by repeat (first | exact trivial | refine ⟨rfl, ?_⟩ | refine envsub_v rfl (by first | rfl | (refine int_eq ?_; first | omega | (simp; omega) | (simp; done)) | (refine bool_eq ?_; first | (simp [*]; done) | (simp; done)) | (refine str_eq ?_; simp; done) | (refine ptr_eq ?_; omega) | fail) ?_)) ?_ <;> (try dsimp only)
      · exact ⟨by omega, hx2, by omega⟩
      · omega
      · exact Lay.ent
    · have hsl := scB_take_le l k
      have hsx : sizeP x ≤ 30000 := by omega
      clear hs hc hsl
      refine r_exit rfl ?_
      refine c_code ?_
      refine r_seq ?_
      refine r_region (id := 14) ?_
      refine o_give (g_move (evv rfl)) rfl rfl ?_
      (refine o_call rfl _ (PickR.ent (K := pt _)) (PClone_c _ _ _ (by assumption)) rfl ?_; rintro _ _ ⟨pc, rfl, rfl⟩)
      refine o_give (g_assign (evv rfl)) rfl rfl ?_
      refine o_nil ?_
      refine c_code ?_
      refine r_seq ?_
      refine r_ent (blk r (rpB x.b0 x.b1 x.s0 x.s1 x.live x.armed x.down) :: [pt pc x, pt np x, base W]) (by unfold rp; exact Lay.ent) ?_
      refine r_region (id := 15) ?_
      refine o_give (g_move (evv rfl)) rfl rfl ?_
      refine o_give (g_nil (evv rfl)) rfl rfl ?_
      refine o_give (g_loadF (evv rfl) (by rfl) (by rfl)) rfl rfl ?_
      refine o_alloc rfl rfl (fun _ => ?_)
      refine o_storeW (evv rfl) (evv rfl) (by first | rfl | assumption | (simp [bys, *]; done) | fail) (by first | (intro _ _ _; exact bys_one _) | exact AllOne.h | (intro _ _ _ u hu; simp at hu; rcases hu with rfl | rfl | rfl | rfl | rfl | rfl | rfl | rfl <;> rfl) | fail) (by first | rfl | (simp [bys, *]; done) | (simp only [bys, List.length_map, *]; rfl) | fail) ?_
      refine o_nil ?_
      refine c_code ?_
      refine r_seq ?_
      refine r_seq ?_
      rename_i q
      refine r_ent (rp r x :: pt np x :: rp q x :: pt pc x :: [base W]) (by unfold rp; exact Lay.ent) ?_
      refine r_region (id := 16) ?_
      refine o_give (g_assign (evv rfl)) rfl rfl ?_
      refine o_nil ?_
      refine c_code ?_
      refine r_block ?_
      refine r_loopE (σ := Nat × Pt) (fun ⟨j, y⟩ => j ≤ m.length ∧ y.ok ∧ sizeP y ≤ 30000 + scB (m.take j)) (fun ⟨j, y⟩ => m.length - j) (fun ⟨j, y⟩ => [(10, .v (.int .i64 j))]) [1, 5, 6, 8, 9] (fun ⟨j, y⟩ => rp r y :: pt np y :: rp q x :: pt pc x :: [base W]) (0, x) (by dsimp only [pickE, pick1, lk2, Nat.reduceBEq, Nat.reduceAdd, Nat.zero_add, cond_true, cond_false] <;> exact rfl) ?_ (by repeat (first | exact trivial | refine ⟨rfl, ?_⟩ | refine envsub_v rfl (by first | rfl | (refine int_eq ?_; first | omega | (simp; omega) | (simp; done)) | (refine bool_eq ?_; first | (simp [*]; done) | (simp; done)) | (refine str_eq ?_; simp; done) | (refine ptr_eq ?_; omega) | fail) ?_)) ?_ ?_
      · exact ⟨Nat.zero_le _, hx, by omega⟩
      · exact Ent.refl _
      rintro ⟨j, y⟩ ⟨hj, hy, hs⟩; dsimp only [List.cons_append, List.nil_append]
      refine r_seq ?_
      refine r_seq ?_
      refine r_region (id := 17) ?_
      refine o_give (g_move (evv rfl)) rfl rfl ?_
      refine o_give (g_move (evv rfl)) rfl rfl ?_
      refine o_give (g_lenF (evv rfl)) rfl rfl ?_
      refine o_give (g_bin (evv rfl) (evv rfl) (by rfl)) rfl rfl ?_
      refine o_give (g_move (evv rfl)) rfl rfl ?_
      refine o_lazy rfl (fun hg => g_move (by first | exact evv rfl | exact evg rfl (by rw [hp]; rfl) | exact evg rfl hp | exact evg rfl hg | exact evg rfl (by first | (simp_all; done) | (simp [*]; done) | fail) | fail)) rfl rfl ?_
      refine o_lazy rfl (fun hg => g_bin (by first | exact evv rfl | exact evg rfl (by rw [hp]; rfl) | exact evg rfl hp | exact evg rfl hg | exact evg rfl (by first | (simp_all; done) | (simp [*]; done) | fail) | fail) (by first | exact evv rfl | exact evg rfl (by rw [hp]; rfl) | exact evg rfl hp | exact evg rfl hg | exact evg rfl (by first | (simp_all; done) | (simp [*]; done) | fail) | fail) (by rfl)) rfl rfl ?_
      refine o_give (g_pick_and (evv rfl) (evv rfl) (fun hp => (by first | exact evv rfl | exact evg rfl (by rw [hp]; rfl) | exact evg rfl hp | exact evg rfl hg | exact evg rfl (by first | (simp_all; done) | (simp [*]; done) | fail) | fail))) rfl rfl ?_
      refine o_nil ?_
      refine c_code ?_
      refine r_cond rfl (fun hc => ?_) (fun hc => ?_) <;> (try simp only [decide_eq_true_eq, decide_eq_false_iff_not, Bool.and_eq_true, Bool.or_eq_true, Bool.not_eq_true', Bool.and_eq_false_iff, Bool.or_eq_false_iff, Bool.not_eq_false', Bool.not_eq_true, Bool.not_eq_false, Bool.true_eq_false, Bool.false_eq_true, Int.not_lt, Int.not_le, not_and, not_or, ne_eq] at hc)
      · have hj8 : j < m.length := by omega
        have hsc := scB_take m j hj8
        have hsl := scB_take_le m (j + 1)
        obtain ⟨hrc, hks, hn⟩ := sm.el (m.getD j default) (by simp [hj8])
        haveI := hrc
        have hb1 : (m.getD j default).b.length ≤ 100000000 := by omega
        have hb2 : (m.getD j default).b.length ≤ 1000000000 := by omega
        obtain ⟨hx2, hs2⟩ := doT_ok (c := m.getD j default) hy hn (by omega)
        refine r_skip ?_
        refine c_code ?_
        refine r_seq ?_
        refine r_block ?_
        refine r_seq ?_
        refine r_region (id := 19) ?_
        refine o_give (g_move (evv rfl)) rfl rfl ?_
        refine o_give (g_move (evv rfl)) rfl rfl ?_
        refine o_give (g_move (evv rfl)) rfl rfl ?_
        refine o_give (g_idxFN (evv rfl) (evv rfl) (by rfl) (by rfl) (by first | omega | (have := of_decide_eq_true hg; omega) | (simp at hg; omega) | (simp only [List.length_set, List.length_append, List.length_cons, List.length_nil, List.length_map, List.length_take, List.length_drop, List.length_replicate]; omega))) rfl rfl ?_
        refine o_give (g_loadFr (evv rfl) (by rfl) (by intro; rfl) (by rfl) (by rfl) (by first | omega | (have := of_decide_eq_true hg; omega) | (simp at hg; omega) | (simp only [List.length_set, List.length_append, List.length_cons, List.length_nil, List.length_map, List.length_take, List.length_drop, List.length_replicate]; omega))) rfl rfl ?_
        (refine o_call rfl _ (PickR.ent (K := pt _)) (do_c _ _ _ (by assumption) _ (by assumption) (by assumption)) rfl ?_; rintro _ _ ⟨rfl, rfl⟩)
        refine o_nil ?_
        refine c_code ?_
        refine r_region (id := 20) ?_
        refine o_give (g_move (evv rfl)) rfl rfl ?_
        refine o_give (g_move (evv rfl)) rfl rfl ?_
        refine o_give (g_move (evv rfl)) rfl rfl ?_
        refine o_give (g_idxFN (evv rfl) (evv rfl) (by rfl) (by rfl) (by first | omega | (have := of_decide_eq_true hg; omega) | (simp at hg; omega) | (simp only [List.length_set, List.length_append, List.length_cons, List.length_nil, List.length_map, List.length_take, List.length_drop, List.length_replicate]; omega))) rfl rfl ?_
        refine o_give (g_loadFr (evv rfl) (by rfl) (by intro; rfl) (by rfl) (by rfl) (by first | omega | (have := of_decide_eq_true hg; omega) | (simp at hg; omega) | (simp only [List.length_set, List.length_append, List.length_cons, List.length_nil, List.length_map, List.length_take, List.length_drop, List.length_replicate]; omega))) rfl rfl ?_
        (refine o_call rfl _ (PickR.ent (K := rp _)) (rDo_c _ _ _ (by assumption) _ (by assumption) (by assumption) (by assumption)) rfl ?_; rintro _ _ ⟨rfl, rfl⟩)
        refine o_nil ?_
        refine c_blk ?_
        refine c_code ?_
        refine r_region (id := 18) ?_
        refine o_give (g_move (evv rfl)) rfl rfl ?_
        refine o_giveN (g_bin (evv rfl) (evv rfl) (by rfl)) (by simp only [inR]; omega) rfl ?_
        refine o_give (g_assign (evv rfl)) rfl rfl ?_
        refine o_nil ?_
        refine c_loop (j + 1, (doT y (m.getD j default)).2) ?_ ?_ (by repeat (first | exact trivial | refine ⟨rfl, ?_⟩ | refine envsub_v rfl (by first | rfl | (refine int_eq ?_; first | omega | (simp; omega) | (simp; done)) | (refine bool_eq ?_; first | (simp [*]; done) | (simp; done)) | (refine str_eq ?_; simp; done) | (refine ptr_eq ?_; omega) | fail) ?_)) ?_ <;> (try dsimp only)
        · exact ⟨by omega, hx2, by omega⟩
        · omega
        · exact Lay.ent
      · clear hs hc hj
        refine r_exit rfl ?_
        refine c_code ?_
        refine r_seq ?_
        refine r_seq ?_
        refine r_region (id := 21) ?_
        refine o_give (g_move (evv rfl)) rfl rfl ?_
        refine o_give (g_move (evv rfl)) rfl rfl ?_
        (refine o_call rfl _ (Ent.refl _) (same_c _ _ _ _ (by assumption)) rfl ?_; rintro _ _ ⟨rfl, rfl⟩)
        refine o_give (g_not (evv rfl)) rfl rfl ?_
        refine o_give (g_move (evv rfl)) rfl rfl ?_
        refine o_gyes rfl ?_
        refine o_give (g_move (evv rfl)) rfl rfl ?_
        refine o_gyes rfl ?_
        (refine o_call rfl _ ((PickR.ent (K := pt _)).trans ((Ent.cons (PickR.ent (K := rp _))).trans (Ent.perm (.swap _ _ _)))) (same_c _ _ _ _ (by assumption)) rfl ?_; rintro _ _ ⟨rfl, rfl⟩)
        refine o_gyes rfl ?_
        refine o_give (g_not (evv rfl)) rfl rfl ?_
        refine o_give (g_pick (b := false) (evv rfl) (fun h => by cases h) (fun _ => (evv rfl))) rfl rfl ?_
        refine o_nil ?_
        refine c_code ?_
        refine r_cond_false rfl ?_
        refine r_skip ?_
        refine c_code ?_
        refine r_seq ?_
        refine r_seq ?_
        refine r_region (id := 23) ?_
        refine o_give (g_assign (evv rfl)) rfl rfl ?_
        refine o_nil ?_
        refine c_code ?_
        refine r_block ?_
        refine r_loopE (σ := Nat × Pt) (fun ⟨i, z⟩ => i ≤ m.length ∧ z.ok ∧ sizeP z ≤ 30000 + scB (m.take i)) (fun ⟨i, z⟩ => m.length - i) (fun ⟨i, z⟩ => [(11, .v (.int .i64 i))]) [1, 8, 9] (fun ⟨i, z⟩ => rp q z :: pt pc z :: rp r y :: pt np y :: [base W]) (0, x) (by dsimp only [pickE, pick1, lk2, Nat.reduceBEq, Nat.reduceAdd, Nat.zero_add, cond_true, cond_false] <;> exact rfl) ?_ (by repeat (first | exact trivial | refine ⟨rfl, ?_⟩ | refine envsub_v rfl (by first | rfl | (refine int_eq ?_; first | omega | (simp; omega) | (simp; done)) | (refine bool_eq ?_; first | (simp [*]; done) | (simp; done)) | (refine str_eq ?_; simp; done) | (refine ptr_eq ?_; omega) | fail) ?_)) ?_ ?_
        · exact ⟨Nat.zero_le _, hx, by omega⟩
        · exact Ent.refl _
        rintro ⟨i, z⟩ ⟨hi, hz, hs⟩; dsimp only [List.cons_append, List.nil_append]
        refine r_seq ?_
        refine r_seq ?_
        refine r_region (id := 24) ?_
        refine o_give (g_move (evv rfl)) rfl rfl ?_
        refine o_give (g_move (evv rfl)) rfl rfl ?_
        refine o_give (g_lenF (evv rfl)) rfl rfl ?_
        refine o_give (g_bin (evv rfl) (evv rfl) (by rfl)) rfl rfl ?_
        refine o_give (g_move (evv rfl)) rfl rfl ?_
        refine o_lazy rfl (fun hg => g_move (by first | exact evv rfl | exact evg rfl (by rw [hp]; rfl) | exact evg rfl hp | exact evg rfl hg | exact evg rfl (by first | (simp_all; done) | (simp [*]; done) | fail) | fail)) rfl rfl ?_
        refine o_lazy rfl (fun hg => g_bin (by first | exact evv rfl | exact evg rfl (by rw [hp]; rfl) | exact evg rfl hp | exact evg rfl hg | exact evg rfl (by first | (simp_all; done) | (simp [*]; done) | fail) | fail) (by first | exact evv rfl | exact evg rfl (by rw [hp]; rfl) | exact evg rfl hp | exact evg rfl hg | exact evg rfl (by first | (simp_all; done) | (simp [*]; done) | fail) | fail) (by rfl)) rfl rfl ?_
        refine o_give (g_pick_and (evv rfl) (evv rfl) (fun hp => (by first | exact evv rfl | exact evg rfl (by rw [hp]; rfl) | exact evg rfl hp | exact evg rfl hg | exact evg rfl (by first | (simp_all; done) | (simp [*]; done) | fail) | fail))) rfl rfl ?_
        refine o_nil ?_
        refine c_code ?_
        refine r_cond rfl (fun hc => ?_) (fun hc => ?_) <;> (try simp only [decide_eq_true_eq, decide_eq_false_iff_not, Bool.and_eq_true, Bool.or_eq_true, Bool.not_eq_true', Bool.and_eq_false_iff, Bool.or_eq_false_iff, Bool.not_eq_false', Bool.not_eq_true, Bool.not_eq_false, Bool.true_eq_false, Bool.false_eq_true, Int.not_lt, Int.not_le, not_and, not_or, ne_eq] at hc)
        · have hj8 : i < m.length := by omega
          have hsc := scB_take m i hj8
          have hsl := scB_take_le m (i + 1)
          obtain ⟨hrc, hks, hn⟩ := sm.el (m.getD i default) (by simp [hj8])
          haveI := hrc
          have hb1 : (m.getD i default).b.length ≤ 100000000 := by omega
          have hb2 : (m.getD i default).b.length ≤ 1000000000 := by omega
          obtain ⟨hx2, hs2⟩ := doT_ok (c := m.getD i default) hz hn (by omega)
          repeat (first | refine r_seq ?_ | refine c_code ?_ | refine c_blk ?_ | refine r_block ?_ | refine r_skip ?_)
          refine r_held (id := 26) [base W] Mixed.h ?_
          refine h_give (i := 0) (by kernel_rfl) rfl (g_move (evv rfl)) rfl rfl ?_
          refine h_give (i := 1) (by kernel_rfl) rfl (g_move (evv rfl)) rfl rfl ?_
          refine h_give (i := 2) (by kernel_rfl) rfl (g_move (evv rfl)) rfl rfl ?_
          refine h_give (i := 3) (by kernel_rfl) rfl (g_idxFN (evv rfl) (evv rfl) (by rfl) (by rfl) (by first | omega | (have := of_decide_eq_true hg; omega) | (simp at hg; omega) | (simp only [List.length_set, List.length_append, List.length_cons, List.length_nil, List.length_map, List.length_take, List.length_drop, List.length_replicate]; omega))) rfl rfl ?_
          refine h_give (i := 4) (by kernel_rfl) rfl (g_loadFr (evv rfl) (by rfl) (by intro; rfl) (by rfl) (by rfl) (by first | omega | (have := of_decide_eq_true hg; omega) | (simp at hg; omega) | (simp only [List.length_set, List.length_append, List.length_cons, List.length_nil, List.length_map, List.length_take, List.length_drop, List.length_replicate]; omega))) rfl rfl ?_
          refine h_give (i := 6) (by kernel_rfl) rfl (g_move (evv rfl)) rfl rfl ?_
          refine h_give (i := 7) (by kernel_rfl) rfl (g_move (evv rfl)) rfl rfl ?_
          refine h_give (i := 8) (by kernel_rfl) rfl (g_idxFN (evv rfl) (evv rfl) (by rfl) (by rfl) (by first | omega | (have := of_decide_eq_true hg; omega) | (simp at hg; omega) | (simp only [List.length_set, List.length_append, List.length_cons, List.length_nil, List.length_map, List.length_take, List.length_drop, List.length_replicate]; omega))) rfl rfl ?_
          refine h_give (i := 9) (by kernel_rfl) rfl (g_loadFr (evv rfl) (by rfl) (by intro; rfl) (by rfl) (by rfl) (by first | omega | (have := of_decide_eq_true hg; omega) | (simp at hg; omega) | (simp only [List.length_set, List.length_append, List.length_cons, List.length_nil, List.length_map, List.length_take, List.length_drop, List.length_replicate]; omega))) rfl rfl ?_
          refine h_one (i := 5) (by kernel_rfl) rfl (Lay.ent) ?_
          (refine o_call rfl _ (PickR.ent (K := pt _)) (do_c _ _ _ (by assumption) _ (by assumption) (by assumption)) rfl ?_; rintro _ _ ⟨rfl, rfl⟩)
          refine o_nil ?_
          refine h_one (i := 10) (by kernel_rfl) rfl (Lay.ent) ?_
          (refine o_call rfl _ (PickR.ent (K := rp _)) (rDo_c _ _ _ (by assumption) _ (by assumption) (by assumption) (by assumption)) rfl ?_; rintro _ _ ⟨rfl, rfl⟩)
          refine o_nil ?_
          refine h_give (i := 11) (by kernel_rfl) rfl (g_bin (evv rfl) (evv rfl) (by rfl)) rfl rfl ?_
          refine h_done (by kernel_rfl) (Lay.ent) ?_
          refine c_code ?_
          refine r_cond rfl (fun hne => ?_) (fun hne => ?_) <;> (try simp only [decide_eq_true_eq, decide_eq_false_iff_not, Bool.and_eq_true, Bool.or_eq_true, Bool.not_eq_true', Bool.and_eq_false_iff, Bool.or_eq_false_iff, Bool.not_eq_false', Bool.not_eq_true, Bool.not_eq_false, Bool.true_eq_false, Bool.false_eq_true, Int.not_lt, Int.not_le, not_and, not_or, ne_eq] at hne)
          · exact absurd trivial hne
          · refine r_skip ?_
            refine c_blk ?_
            refine c_code ?_
            refine r_region (id := 25) ?_
            refine o_give (g_move (evv rfl)) rfl rfl ?_
            refine o_giveN (g_bin (evv rfl) (evv rfl) (by rfl)) (by simp only [inR]; omega) rfl ?_
            refine o_give (g_assign (evv rfl)) rfl rfl ?_
            refine o_nil ?_
            refine c_loop (i + 1, (doT z (m.getD i default)).2) ?_ ?_ (by repeat (first | exact trivial | refine ⟨rfl, ?_⟩ | refine envsub_v rfl (by first | rfl | (refine int_eq ?_; first | omega | (simp; omega) | (simp; done)) | (refine bool_eq ?_; first | (simp [*]; done) | (simp; done)) | (refine str_eq ?_; simp; done) | (refine ptr_eq ?_; omega) | fail) ?_)) ?_ <;> (try dsimp only)
            · exact ⟨by omega, hx2, by omega⟩
            · omega
            · exact Lay.ent
        · clear hs hc hi
          refine r_exit rfl ?_
          refine c_code ?_
          refine r_seq ?_
          refine r_region (id := 28) ?_
          refine o_give (g_assign (evv rfl)) rfl rfl ?_
          refine o_nil ?_
          refine c_code ?_
          refine r_seq ?_
          refine r_region (id := 29) ?_
          refine o_give (g_move (evv rfl)) rfl rfl ?_
          (refine o_call rfl _ (Ent.refl _) (Arm_nil _ _) rfl ?_; rintro _ _ ⟨rfl, rfl⟩)
          refine o_nil ?_
          refine c_code ?_
          refine r_seq ?_
          refine r_region (id := 30) ?_
          refine o_give (g_move (evv rfl)) rfl rfl ?_
          refine o_litI rfl (by rfl) rfl (fun _ => ?_)
          (refine o_call rfl _ (Ent.refl _) (Cut_nil _ _) rfl ?_; rintro _ _ ⟨rfl, rfl⟩)
          refine o_nil ?_
          refine c_code ?_
          refine r_seq ?_
          refine r_region (id := 31) ?_
          refine o_give (g_move (evv rfl)) rfl rfl ?_
          (refine o_call rfl _ ((PickR.ent (K := pt _)).trans ((Ent.cons (PickR.ent (K := rp _))).trans (Ent.perm (.swap _ _ _)))) (same_c _ _ _ _ (by assumption)) rfl ?_; rintro _ _ ⟨rfl, rfl⟩)
          refine o_give (g_move (evv rfl)) rfl rfl ?_
          refine o_gyes rfl ?_
          refine o_give (g_move (evv rfl)) rfl rfl ?_
          refine o_gyes rfl ?_
          (refine o_call rfl _ (Ent.refl _) (Append_nil _ _ _) rfl ?_; rintro _ _ ⟨rfl, rfl⟩)
          refine o_gyes rfl ?_
          refine o_give (g_bin (evv rfl) (evv rfl) (by rfl)) rfl rfl ?_
          refine o_give (g_pick (b := true) (evv rfl) (fun _ => (evv rfl)) (fun h => by cases h)) rfl rfl ?_
          refine o_give (g_move (evv rfl)) rfl rfl ?_
          refine o_gyes rfl ?_
          refine o_give (g_move (evv rfl)) rfl rfl ?_
          refine o_gyes rfl ?_
          (refine o_call rfl _ (Ent.refl _) (Sync_nil _ _) rfl ?_; rintro _ _ ⟨rfl, rfl⟩)
          refine o_gyes rfl ?_
          refine o_give (g_bin (evv rfl) (evv rfl) (by rfl)) rfl rfl ?_
          refine o_give (g_pick (b := true) (evv rfl) (fun _ => (evv rfl)) (fun h => by cases h)) rfl rfl ?_
          refine o_give (g_move (evv rfl)) rfl rfl ?_
          refine o_gyes rfl ?_
          refine o_give (g_move (evv rfl)) rfl rfl ?_
          refine o_gyes rfl ?_
          (refine o_call rfl _ (Ent.refl _) (Wipe_nil _ _) rfl ?_; rintro _ _ ⟨rfl, rfl⟩)
          refine o_gyes rfl ?_
          refine o_give (g_bin (evv rfl) (evv rfl) (by rfl)) rfl rfl ?_
          refine o_give (g_pick (b := true) (evv rfl) (fun _ => (evv rfl)) (fun h => by cases h)) rfl rfl ?_
          refine o_give (g_move (evv rfl)) rfl rfl ?_
          refine o_gyes rfl ?_
          refine o_give (g_move (evv rfl)) rfl rfl ?_
          refine o_gyes rfl ?_
          (refine o_call rfl _ (Ent.refl _) (Flip_nil _) rfl ?_; rintro _ _ ⟨rfl, rfl⟩)
          refine o_gyes rfl ?_
          refine o_give (g_bin (evv rfl) (evv rfl) (by rfl)) rfl rfl ?_
          refine o_give (g_pick (b := true) (evv rfl) (fun _ => (evv rfl)) (fun h => by cases h)) rfl rfl ?_
          refine o_give (g_move (evv rfl)) rfl rfl ?_
          refine o_gyes rfl ?_
          refine o_give (g_move (evv rfl)) rfl rfl ?_
          refine o_gyes rfl ?_
          (refine o_call rfl _ (Ent.refl _) (Live_nil _) rfl ?_; rintro _ _ ⟨rfl, rfl⟩)
          refine o_gyes rfl ?_
          refine o_give (g_bin (evv rfl) (evv rfl) (by rfl)) rfl rfl ?_
          refine o_give (g_pick (b := true) (evv rfl) (fun _ => (evv rfl)) (fun h => by cases h)) rfl rfl ?_
          refine o_give (g_move (evv rfl)) rfl rfl ?_
          refine o_gyes rfl ?_
          refine o_give (g_move (evv rfl)) rfl rfl ?_
          refine o_gyes rfl ?_
          (refine o_call rfl _ (Ent.refl _) (Read_nil _ _) rfl ?_; rintro _ _ ⟨rfl, rfl⟩)
          refine o_gyes rfl ?_
          refine o_give (g_len TyU.h (evv rfl)) rfl rfl ?_
          refine o_gyes rfl ?_
          refine o_give (g_bin (evv rfl) (evv rfl) (by rfl)) rfl rfl ?_
          refine o_give (g_pick (b := true) (evv rfl) (fun _ => (evv rfl)) (fun h => by cases h)) rfl rfl ?_
          refine o_give (g_move (evv rfl)) rfl rfl ?_
          refine o_gyes rfl ?_
          refine o_give (g_move (evv rfl)) rfl rfl ?_
          refine o_gyes rfl ?_
          (refine o_call rfl _ (Ent.refl _) (Synced_nil _ _) rfl ?_; rintro _ _ ⟨rfl, rfl⟩)
          refine o_gyes rfl ?_
          refine o_give (g_bin (evv rfl) (evv rfl) (by rfl)) rfl rfl ?_
          refine o_give (g_pick (b := true) (evv rfl) (fun _ => (evv rfl)) (fun h => by cases h)) rfl rfl ?_
          refine o_give (g_move (evv rfl)) rfl rfl ?_
          refine o_gyes rfl ?_
          refine o_give (g_move (evv rfl)) rfl rfl ?_
          refine o_gyes rfl ?_
          (refine o_call rfl _ (Ent.refl _) (Down_nil _) rfl ?_; rintro _ _ ⟨rfl, rfl⟩)
          refine o_gyes rfl ?_
          refine o_give (g_not (evv rfl)) rfl rfl ?_
          refine o_give (g_pick (b := true) (evv rfl) (fun _ => (evv rfl)) (fun h => by cases h)) rfl rfl ?_
          refine o_give (g_move (evv rfl)) rfl rfl ?_
          refine o_gyes rfl ?_
          refine o_give (g_move (evv rfl)) rfl rfl ?_
          refine o_gyes rfl ?_
          (refine o_call rfl _ (Ent.refl _) (Clone_nil _) rfl ?_; rintro _ _ ⟨rfl, rfl⟩)
          refine o_gyes rfl ?_
          refine o_give (g_pnil TyU.h (evv rfl) (evv rfl) (by simp) (by rfl)) rfl rfl ?_
          refine o_give (g_pick (b := true) (evv rfl) (fun _ => (evv rfl)) (fun h => by cases h)) rfl rfl ?_
          refine o_give (g_assign (evv rfl)) rfl rfl ?_
          refine o_nil ?_
          refine c_code ?_
          first | refine r_ret (rs := [.tmp 4]) rfl rfl _ ((Lay.ent (L' := [base W]))) ?_ | refine c_end (rs := [.tmp 4]) rfl rfl _ ((Lay.ent (L' := [base W]))) ?_
          exact ⟨rfl, rfl⟩
end VK
