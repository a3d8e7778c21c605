/- The reference's client: New, sent, Call, Tick, Handle. Conditions: few replicas. -/
import Derived.Test.YtmjmlmjcfekphaaCli10
--%norm
namespace VK
open Go Go.Proofs
set_option linter.unusedSimpArgs false
set_option linter.unusedVariables false
set_option maxRecDepth 100000
set_option maxHeartbeats 40000000
/-- the reference's client's cells -/
abbrev rcC (id n num t : Int) (o : OpS) : List Value := [.int .i64 id, .int .i64 n, .int .i64 num, .int .i64 t, .int .i64 o.kind, str o.path, str o.to_, str o.data, .int .i64 o.at_, .int .i64 o.size]
theorem rNewE_c (L : List Atom) (id n : Int) (h : ¬ cliOk id n) : Fn Try.prog 13 [.int .i64 id, .int .i64 n] L fun w L' => w = .pointer none ∧ L' = L := by
  unfold cliOk at h
  refine fn_intro Try.func13 rfl Try.ntmps13 rfl (fun W0 => ?_)
  simp only [argE]
  refine r_seq ?_
  refine r_region (id := 0) ?_
  refine o_give (g_assign (evv rfl)) rfl rfl ?_
  refine o_nil ?_
  refine c_code ?_
  refine r_seq ?_
  refine r_seq ?_
  refine r_region (id := 1) ?_
  refine o_give (g_move (evv rfl)) rfl rfl ?_
  refine o_give (g_bin (evv rfl) (evv rfl) (by rfl)) rfl rfl ?_
  refine o_give (g_move (evv rfl)) rfl rfl ?_
  refine o_lazy rfl (fun hg => g_move (by first | exact evv rfl | exact evg rfl (by rw [hp]; rfl) | exact evg rfl hp | exact evg rfl hg | exact evg rfl (by first | (simp_all; done) | (simp [*]; done) | fail) | fail)) rfl rfl ?_
  refine o_lazy rfl (fun hg => g_bin (by first | exact evv rfl | exact evg rfl (by rw [hp]; rfl) | exact evg rfl hp | exact evg rfl hg | exact evg rfl (by first | (simp_all; done) | (simp [*]; done) | fail) | fail) (by first | exact evv rfl | exact evg rfl (by rw [hp]; rfl) | exact evg rfl hp | exact evg rfl hg | exact evg rfl (by first | (simp_all; done) | (simp [*]; done) | fail) | fail) (by rfl)) rfl rfl ?_
  refine o_give (g_pick_or (evv rfl) (evv rfl) (fun hp => (by first | exact evv rfl | exact evg rfl (by rw [hp]; rfl) | exact evg rfl hp | exact evg rfl hg | exact evg rfl (by first | (simp_all; done) | (simp [*]; done) | fail) | fail))) rfl rfl ?_
  refine o_give (g_move (evv rfl)) rfl rfl ?_
  refine o_lazy rfl (fun hg => g_move (by first | exact evv rfl | exact evg rfl (by rw [hp]; rfl) | exact evg rfl hp | exact evg rfl hg | exact evg rfl (by first | (simp_all; done) | (simp [*]; done) | fail) | fail)) rfl rfl ?_
  refine o_lazy rfl (fun hg => g_bin (by first | exact evv rfl | exact evg rfl (by rw [hp]; rfl) | exact evg rfl hp | exact evg rfl hg | exact evg rfl (by first | (simp_all; done) | (simp [*]; done) | fail) | fail) (by first | exact evv rfl | exact evg rfl (by rw [hp]; rfl) | exact evg rfl hp | exact evg rfl hg | exact evg rfl (by first | (simp_all; done) | (simp [*]; done) | fail) | fail) (by rfl)) rfl rfl ?_
  refine o_lazy rfl (fun hg => g_move (by first | exact evv rfl | exact evg rfl (by rw [hp]; rfl) | exact evg rfl hp | exact evg rfl hg | exact evg rfl (by first | (simp_all; done) | (simp [*]; done) | fail) | fail)) rfl rfl ?_
  refine o_lazy rfl (fun hg => g_move (by first | exact evv rfl | exact evg rfl (by rw [hp]; rfl) | exact evg rfl hp | exact evg rfl hg | exact evg rfl (by first | (simp_all; done) | (simp [*]; done) | fail) | fail)) rfl rfl ?_
  refine o_lazy rfl (fun hg => g_bin (by first | exact evv rfl | exact evg rfl (by rw [hp]; rfl) | exact evg rfl hp | exact evg rfl hg | exact evg rfl (by first | (simp_all; done) | (simp [*]; done) | fail) | fail) (by first | exact evv rfl | exact evg rfl (by rw [hp]; rfl) | exact evg rfl hp | exact evg rfl hg | exact evg rfl (by first | (simp_all; done) | (simp [*]; done) | fail) | fail) (by rfl)) rfl rfl ?_
  refine o_lazy rfl (fun hg => g_pick_and (by first | exact evv rfl | exact evg rfl (by rw [hp]; rfl) | exact evg rfl hp | exact evg rfl hg | exact evg rfl (by first | (simp_all; done) | (simp [*]; done) | fail) | fail) (by first | exact evv rfl | exact evg rfl (by rw [hp]; rfl) | exact evg rfl hp | exact evg rfl hg | exact evg rfl (by first | (simp_all; done) | (simp [*]; done) | fail) | fail) (fun hp => (by first | exact evv rfl | exact evg rfl (by rw [hp]; rfl) | exact evg rfl hp | exact evg rfl hg | exact evg rfl (by first | (simp_all; done) | (simp [*]; done) | fail) | fail))) rfl rfl ?_
  refine o_lazy rfl (fun hg => g_move (by first | exact evv rfl | exact evg rfl (by rw [hp]; rfl) | exact evg rfl hp | exact evg rfl hg | exact evg rfl (by first | (simp_all; done) | (simp [*]; done) | fail) | fail)) rfl rfl ?_
  refine o_lazy rfl (fun hg => g_move (by first | exact evv rfl | exact evg rfl (by rw [hp]; rfl) | exact evg rfl hp | exact evg rfl hg | exact evg rfl (by first | (simp_all; done) | (simp [*]; done) | fail) | fail)) rfl rfl ?_
  refine o_lazy rfl (fun hg => g_bin (by first | exact evv rfl | exact evg rfl (by rw [hp]; rfl) | exact evg rfl hp | exact evg rfl hg | exact evg rfl (by first | (simp_all; done) | (simp [*]; done) | fail) | fail) (by first | exact evv rfl | exact evg rfl (by rw [hp]; rfl) | exact evg rfl hp | exact evg rfl hg | exact evg rfl (by first | (simp_all; done) | (simp [*]; done) | fail) | fail) (by rfl)) rfl rfl ?_
  refine o_lazy rfl (fun hg => g_pick_and (by first | exact evv rfl | exact evg rfl (by rw [hp]; rfl) | exact evg rfl hp | exact evg rfl hg | exact evg rfl (by first | (simp_all; done) | (simp [*]; done) | fail) | fail) (by first | exact evv rfl | exact evg rfl (by rw [hp]; rfl) | exact evg rfl hp | exact evg rfl hg | exact evg rfl (by first | (simp_all; done) | (simp [*]; done) | fail) | fail) (fun hp => (by first | exact evv rfl | exact evg rfl (by rw [hp]; rfl) | exact evg rfl hp | exact evg rfl hg | exact evg rfl (by first | (simp_all; done) | (simp [*]; done) | fail) | fail))) rfl rfl ?_
  refine o_give (g_pick_or (evv rfl) (evv rfl) (fun hp => (by first | exact evv rfl | exact evg rfl (by rw [hp]; rfl) | exact evg rfl hp | exact evg rfl hg | exact evg rfl (by first | (simp_all; done) | (simp [*]; done) | fail) | fail))) rfl rfl ?_
  refine o_nil ?_
  refine c_code ?_
  refine r_cond rfl (fun h1 => ?_) (fun h1 => ?_) <;> (try simp only [decide_eq_true_eq, decide_eq_false_iff_not, Bool.and_eq_true, Bool.or_eq_true, Bool.not_eq_true', Bool.and_eq_false_iff, Bool.or_eq_false_iff, Bool.not_eq_false', Bool.not_eq_true, Bool.not_eq_false, Bool.true_eq_false, Bool.false_eq_true, Int.not_lt, Int.not_le, not_and, not_or, ne_eq] at h1)
  · refine r_seq ?_
    refine r_region (id := 2) ?_
    refine o_give (g_assign (evv rfl)) rfl rfl ?_
    refine o_nil ?_
    refine c_code ?_
    first | refine r_ret (rs := [.tmp 4]) rfl rfl _ (Ent.refl _) ?_ | refine c_end (rs := [.tmp 4]) rfl rfl _ (Ent.refl _) ?_
    exact ⟨rfl, rfl⟩
  · exact absurd (by omega) h
theorem rNewN_c (L : List Atom) (id n : Int) (h : cliOk id n) : Fn Try.prog 13 [.int .i64 id, .int .i64 n] L fun w L' => ∃ b, w = .pointer (some ⟨b, 0, none⟩) ∧ L' = blk b ⟨rcC id n 0 0 zeroOp, 54⟩ :: L := by
  obtain ⟨hn, h1, h2⟩ := h
  refine fn_intro Try.func13 rfl Try.ntmps13 rfl (fun W0 => ?_)
  simp only [argE]
  refine r_seq ?_
  refine r_region (id := 0) ?_
  refine o_give (g_assign (evv rfl)) rfl rfl ?_
  refine o_nil ?_
  refine c_code ?_
  refine r_seq ?_
  refine r_seq ?_
  refine r_region (id := 1) ?_
  refine o_give (g_move (evv rfl)) rfl rfl ?_
  refine o_give (g_bin (evv rfl) (evv rfl) (by rfl)) rfl rfl ?_
  refine o_give (g_move (evv rfl)) rfl rfl ?_
  refine o_lazy rfl (fun hg => g_move (by first | exact evv rfl | exact evg rfl (by rw [hp]; rfl) | exact evg rfl hp | exact evg rfl hg | exact evg rfl (by first | (simp_all; done) | (simp [*]; done) | fail) | fail)) rfl rfl ?_
  refine o_lazy rfl (fun hg => g_bin (by first | exact evv rfl | exact evg rfl (by rw [hp]; rfl) | exact evg rfl hp | exact evg rfl hg | exact evg rfl (by first | (simp_all; done) | (simp [*]; done) | fail) | fail) (by first | exact evv rfl | exact evg rfl (by rw [hp]; rfl) | exact evg rfl hp | exact evg rfl hg | exact evg rfl (by first | (simp_all; done) | (simp [*]; done) | fail) | fail) (by rfl)) rfl rfl ?_
  refine o_give (g_pick_or (evv rfl) (evv rfl) (fun hp => (by first | exact evv rfl | exact evg rfl (by rw [hp]; rfl) | exact evg rfl hp | exact evg rfl hg | exact evg rfl (by first | (simp_all; done) | (simp [*]; done) | fail) | fail))) rfl rfl ?_
  refine o_give (g_move (evv rfl)) rfl rfl ?_
  refine o_lazy rfl (fun hg => g_move (by first | exact evv rfl | exact evg rfl (by rw [hp]; rfl) | exact evg rfl hp | exact evg rfl hg | exact evg rfl (by first | (simp_all; done) | (simp [*]; done) | fail) | fail)) rfl rfl ?_
  refine o_lazy rfl (fun hg => g_bin (by first | exact evv rfl | exact evg rfl (by rw [hp]; rfl) | exact evg rfl hp | exact evg rfl hg | exact evg rfl (by first | (simp_all; done) | (simp [*]; done) | fail) | fail) (by first | exact evv rfl | exact evg rfl (by rw [hp]; rfl) | exact evg rfl hp | exact evg rfl hg | exact evg rfl (by first | (simp_all; done) | (simp [*]; done) | fail) | fail) (by rfl)) rfl rfl ?_
  refine o_lazy rfl (fun hg => g_move (by first | exact evv rfl | exact evg rfl (by rw [hp]; rfl) | exact evg rfl hp | exact evg rfl hg | exact evg rfl (by first | (simp_all; done) | (simp [*]; done) | fail) | fail)) rfl rfl ?_
  refine o_lazy rfl (fun hg => g_move (by first | exact evv rfl | exact evg rfl (by rw [hp]; rfl) | exact evg rfl hp | exact evg rfl hg | exact evg rfl (by first | (simp_all; done) | (simp [*]; done) | fail) | fail)) rfl rfl ?_
  refine o_lazy rfl (fun hg => g_bin (by first | exact evv rfl | exact evg rfl (by rw [hp]; rfl) | exact evg rfl hp | exact evg rfl hg | exact evg rfl (by first | (simp_all; done) | (simp [*]; done) | fail) | fail) (by first | exact evv rfl | exact evg rfl (by rw [hp]; rfl) | exact evg rfl hp | exact evg rfl hg | exact evg rfl (by first | (simp_all; done) | (simp [*]; done) | fail) | fail) (by rfl)) rfl rfl ?_
  refine o_lazy rfl (fun hg => g_pick_and (by first | exact evv rfl | exact evg rfl (by rw [hp]; rfl) | exact evg rfl hp | exact evg rfl hg | exact evg rfl (by first | (simp_all; done) | (simp [*]; done) | fail) | fail) (by first | exact evv rfl | exact evg rfl (by rw [hp]; rfl) | exact evg rfl hp | exact evg rfl hg | exact evg rfl (by first | (simp_all; done) | (simp [*]; done) | fail) | fail) (fun hp => (by first | exact evv rfl | exact evg rfl (by rw [hp]; rfl) | exact evg rfl hp | exact evg rfl hg | exact evg rfl (by first | (simp_all; done) | (simp [*]; done) | fail) | fail))) rfl rfl ?_
  refine o_lazy rfl (fun hg => g_move (by first | exact evv rfl | exact evg rfl (by rw [hp]; rfl) | exact evg rfl hp | exact evg rfl hg | exact evg rfl (by first | (simp_all; done) | (simp [*]; done) | fail) | fail)) rfl rfl ?_
  refine o_lazy rfl (fun hg => g_move (by first | exact evv rfl | exact evg rfl (by rw [hp]; rfl) | exact evg rfl hp | exact evg rfl hg | exact evg rfl (by first | (simp_all; done) | (simp [*]; done) | fail) | fail)) rfl rfl ?_
  refine o_lazy rfl (fun hg => g_bin (by first | exact evv rfl | exact evg rfl (by rw [hp]; rfl) | exact evg rfl hp | exact evg rfl hg | exact evg rfl (by first | (simp_all; done) | (simp [*]; done) | fail) | fail) (by first | exact evv rfl | exact evg rfl (by rw [hp]; rfl) | exact evg rfl hp | exact evg rfl hg | exact evg rfl (by first | (simp_all; done) | (simp [*]; done) | fail) | fail) (by rfl)) rfl rfl ?_
  refine o_lazy rfl (fun hg => g_pick_and (by first | exact evv rfl | exact evg rfl (by rw [hp]; rfl) | exact evg rfl hp | exact evg rfl hg | exact evg rfl (by first | (simp_all; done) | (simp [*]; done) | fail) | fail) (by first | exact evv rfl | exact evg rfl (by rw [hp]; rfl) | exact evg rfl hp | exact evg rfl hg | exact evg rfl (by first | (simp_all; done) | (simp [*]; done) | fail) | fail) (fun hp => (by first | exact evv rfl | exact evg rfl (by rw [hp]; rfl) | exact evg rfl hp | exact evg rfl hg | exact evg rfl (by first | (simp_all; done) | (simp [*]; done) | fail) | fail))) rfl rfl ?_
  refine o_give (g_pick_or (evv rfl) (evv rfl) (fun hp => (by first | exact evv rfl | exact evg rfl (by rw [hp]; rfl) | exact evg rfl hp | exact evg rfl hg | exact evg rfl (by first | (simp_all; done) | (simp [*]; done) | fail) | fail))) rfl rfl ?_
  refine o_nil ?_
  refine c_code ?_
  refine r_cond rfl (fun h3 => ?_) (fun h3 => ?_) <;> (try simp only [decide_eq_true_eq, decide_eq_false_iff_not, Bool.and_eq_true, Bool.or_eq_true, Bool.not_eq_true', Bool.and_eq_false_iff, Bool.or_eq_false_iff, Bool.not_eq_false', Bool.not_eq_true, Bool.not_eq_false, Bool.true_eq_false, Bool.false_eq_true, Int.not_lt, Int.not_le, not_and, not_or, ne_eq] at h3)
  · omega
  · refine r_skip ?_
    refine c_code ?_
    refine r_seq ?_
    refine r_region (id := 3) ?_
    refine o_give (g_move (evv rfl)) rfl rfl ?_
    refine o_give (g_move (evv rfl)) rfl rfl ?_
    refine o_give (g_buildC rfl (by rfl)) rfl rfl ?_
    refine o_boxA (evv rfl) rfl (fun _ => ?_)
    refine o_give (g_assign (evv rfl)) rfl rfl ?_
    refine o_nil ?_
    refine c_code ?_
    rename_i b
    first | refine r_ret (rs := [.tmp 4]) rfl rfl _ (Ent.refl _) ?_ | refine c_end (rs := [.tmp 4]) rfl rfl _ (Ent.refl _) ?_
    exact ⟨b, rfl, rfl⟩
theorem sent_c (L : List Atom) (c : Nat) (id n num t : Int) (o : OpS) (h : 1 ≤ id ∧ id ≤ 8) (hn : n = 3 ∨ n = 5 ∨ n = 7) : Fn Try.prog 26 [.pointer (some ⟨c, 0, none⟩)] (blk c ⟨rcC id n num t o, 54⟩ :: L) fun v L' => ∃ vs, (vs.length : Int) = n ∧ L' = blk c ⟨rcC id n num 4 o, 54⟩ :: sl v (msgR (reqL id vs)) :: rom (reqRom ⟨id, num, o⟩ vs) :: L := by
  refine fn_intro Try.func26 rfl Try.ntmps26 rfl (fun W0 => ?_)
  simp only [argE]
  refine r_seq ?_
  refine r_region (id := 0) ?_
  refine o_give (g_assign (evv rfl)) rfl rfl ?_
  refine o_nil ?_
  refine c_code ?_
  refine r_seq ?_
  refine r_region (id := 1) ?_
  refine o_give (g_move (evv rfl)) rfl rfl ?_
  refine o_give (g_nil (evv rfl)) rfl rfl ?_
  refine o_give (g_fld (evv rfl)) (by first | (simp only [Nat.zero_add, Nat.reduceAdd]; rfl) | rfl) rfl ?_
  refine o_storeGt (evv rfl) (evv rfl) (by rfl) ?_
  refine o_nil ?_
  refine c_code ?_
  refine r_seq ?_
  refine r_region (id := 2) ?_
  refine o_give (g_assign (evv rfl)) rfl rfl ?_
  refine o_nil ?_
  refine c_code ?_
  refine r_seq ?_
  refine r_seq ?_
  refine r_region (id := 3) ?_
  refine o_give (g_assign (evv rfl)) rfl rfl ?_
  refine o_nil ?_
  refine c_code ?_
  refine r_block ?_
  refine r_loopE (σ := Value × List Value) (fun x => (x.2.length : Int) ≤ n) (fun x => (n - x.2.length).toNat) (fun x => [(3, .v (x.1)), (4, .v (.int .i64 x.2.length))]) [0] (fun x => blk c ⟨rcC id n num 4 o, 54⟩ :: sl x.1 (msgR (reqL id x.2)) :: rom (reqRom ⟨id, num, o⟩ x.2) :: L) (.slice none 0 0, []) (by dsimp only [pickE, pick1, lk2, Nat.reduceBEq, Nat.reduceAdd, Nat.zero_add, cond_true, cond_false] <;> exact rfl) ?_ (by repeat (first | exact trivial | refine ⟨rfl, ?_⟩ | refine envsub_v rfl (by first | rfl | (refine int_eq ?_; first | omega | (simp; omega) | (simp; done)) | (refine bool_eq ?_; first | (simp [*]; done) | (simp; done)) | (refine str_eq ?_; simp; done) | (refine ptr_eq ?_; omega) | fail) ?_)) ?_ ?_
  · dsimp only; simp; omega
  · exact (ent_nil1 id ⟨id, num, o⟩).trans Lay.ent
  rintro ⟨vo, vs⟩ hx; (try dsimp only at hx); dsimp only [List.cons_append, List.nil_append]
  have hl := reqL_len id vs
  refine r_seq ?_
  refine r_seq ?_
  refine r_region (id := 4) ?_
  refine o_give (g_move (evv rfl)) rfl rfl ?_
  refine o_give (g_move (evv rfl)) rfl rfl ?_
  refine o_give (g_nil (evv rfl)) rfl rfl ?_
  refine o_give (g_fld (evv rfl)) (by first | (simp only [Nat.zero_add, Nat.reduceAdd]; rfl) | rfl) rfl ?_
  refine o_give (g_loadGt (evv rfl) (by rfl)) rfl rfl ?_
  refine o_give (g_bin (evv rfl) (evv rfl) (by rfl)) rfl rfl ?_
  refine o_nil ?_
  refine c_code ?_
  refine r_cond rfl (fun hc => ?_) (fun hc => ?_) <;> (try simp only [decide_eq_true_eq, decide_eq_false_iff_not, Bool.and_eq_true, Bool.or_eq_true, Bool.not_eq_true', Bool.and_eq_false_iff, Bool.or_eq_false_iff, Bool.not_eq_false', Bool.not_eq_true, Bool.not_eq_false, Bool.true_eq_false, Bool.false_eq_true, Int.not_lt, Int.not_le, not_and, not_or, ne_eq] at hc)
  · refine r_skip ?_
    refine c_code ?_
    refine r_seq ?_
    refine r_block ?_
    refine r_seq ?_
    refine r_region (id := 6) ?_
    refine o_give (g_move (evv rfl)) rfl rfl ?_
    refine o_give (g_nil (evv rfl)) rfl rfl ?_
    refine o_give (g_fld (evv rfl)) (by first | (simp only [Nat.zero_add, Nat.reduceAdd]; rfl) | rfl) rfl ?_
    refine o_give (g_loadGt (evv rfl) (by rfl)) rfl rfl ?_
    refine o_giveN (g_bin (evv rfl) (evv rfl) (by rfl)) (by simp only [inR]; omega) rfl ?_
    refine o_give (g_move (evv rfl)) rfl rfl ?_
    refine o_give (g_buildX (is := [0, 1, 2]) rfl rfl (show cellsL _ = ((Go.Value.int Go.IntKind.i64 0) :: (Go.Value.int Go.IntKind.i64 0) :: (Go.Value.int Go.IntKind.i64 0) :: (Go.Value.int Go.IntKind.i64 0) :: (Go.Value.int Go.IntKind.i64 0) :: (Go.Value.int Go.IntKind.i64 0) :: (Go.Value.int Go.IntKind.i64 0) :: (Go.Value.int Go.IntKind.i64 0) :: (bys (List.replicate 32 0) ++ (Go.Value.slice none 0 0) :: (Go.Value.string { data := #[] }) :: (Go.Value.int Go.IntKind.i64 0) :: (Go.Value.bool false) :: (Go.Value.int Go.IntKind.i64 0) :: (Go.Value.string { data := #[] }) :: (Go.Value.slice none 0 0) :: [])) from rfl)) rfl rfl ?_
    refine o_alloc (cs := ((Go.Value.int Go.IntKind.i64 0) :: (Go.Value.int Go.IntKind.i64 0) :: (Go.Value.int Go.IntKind.i64 0) :: (Go.Value.int Go.IntKind.i64 0) :: (Go.Value.int Go.IntKind.i64 0) :: (Go.Value.int Go.IntKind.i64 0) :: (Go.Value.int Go.IntKind.i64 0) :: (Go.Value.int Go.IntKind.i64 0) :: (bys (List.replicate 32 0) ++ (Go.Value.slice none 0 0) :: (Go.Value.string { data := #[] }) :: (Go.Value.int Go.IntKind.i64 0) :: (Go.Value.bool false) :: (Go.Value.int Go.IntKind.i64 0) :: (Go.Value.string { data := #[] }) :: (Go.Value.slice none 0 0) :: []))) rfl rfl (fun _ => ?_)
    refine o_storeW (evv rfl) (evv rfl) (by first | rfl | assumption | exact LenC.h _ | (simp [bys, *]; done) | fail) (by first | (intro _ _ _; exact bys_one _) | exact AllOne.h | (intro _ _ _ u hu; simp at hu; rcases hu with rfl | rfl | rfl | rfl | rfl | rfl | rfl | rfl <;> rfl) | fail) (by first | rfl | exact (LenC.h _).trans rfl | exact (LenC.h _).trans (LenC.h _).symm | (simp [bys, *]; done) | (simp only [bys, List.length_map, *]; rfl) | fail) ?_
    refine o_nil ?_
    refine c_code ?_
    refine r_seq ?_
    rename_i q
    first | refine r_ent (sl (.slice none 0 0) (entR []) :: _) (Ent.nilsl 58 8) ?_ | refine c_ent (sl (.slice none 0 0) (entR []) :: _) (Ent.nilsl 58 8) ?_
    repeat (first | refine r_seq ?_ | refine c_code ?_ | refine c_blk ?_ | refine r_block ?_ | refine r_skip ?_)
    refine r_cutE (σ := Value) (fun ve => []) [0, 3, 4, 5, 9, 10, 11, 12, 13, 14, 17, 18, 19, 20, 21, 22, 23] (fun ve => sl ve (entR [⟨id, num, o⟩]) :: blk q ⟨msgC (reqM id vs.length ve), 37⟩ :: blk c ⟨rcC id n num 4 o, 54⟩ :: sl vo (msgR (reqL id vs)) :: rom (reqRom ⟨id, num, o⟩ vs) :: L) (by dsimp only [pickE, pick1, lk2, Nat.reduceBEq, Nat.reduceAdd, Nat.zero_add, cond_true, cond_false] <;> exact rfl) ?_ ?_
    · refine r_held (id := 7) ([blk c ⟨rcC id n num 4 o, 54⟩]) Mixed.h ?_
      (refine h_give (i := 0) (by kernel_rfl) rfl (g_fld (evv rfl)) (by first | (simp only [Nat.zero_add, Nat.reduceAdd]; rfl) | rfl) rfl ?_)
      (refine h_give (i := 2) (by kernel_rfl) rfl (g_move (evv rfl)) rfl rfl ?_)
      (refine h_give (i := 3) (by kernel_rfl) rfl (g_nil (evv rfl)) rfl rfl ?_)
      (refine h_give (i := 4) (by kernel_rfl) rfl (g_fld (evv rfl)) (by first | (simp only [Nat.zero_add, Nat.reduceAdd]; rfl) | rfl) rfl ?_)
      (refine h_give (i := 5) (by kernel_rfl) rfl (g_loadGt (evv rfl) (by rfl)) rfl rfl ?_)
      (refine h_give (i := 6) (by kernel_rfl) rfl (g_move (evv rfl)) rfl rfl ?_)
      (refine h_give (i := 7) (by kernel_rfl) rfl (g_nil (evv rfl)) rfl rfl ?_)
      (refine h_give (i := 8) (by kernel_rfl) rfl (g_fld (evv rfl)) (by first | (simp only [Nat.zero_add, Nat.reduceAdd]; rfl) | rfl) rfl ?_)
      (refine h_give (i := 9) (by kernel_rfl) rfl (g_loadGt (evv rfl) (by rfl)) rfl rfl ?_)
      (refine h_give (i := 10) (by kernel_rfl) rfl (g_move (evv rfl)) rfl rfl ?_)
      (refine h_give (i := 11) (by kernel_rfl) rfl (g_nil (evv rfl)) rfl rfl ?_)
      (refine h_give (i := 12) (by kernel_rfl) rfl (g_fld (evv rfl)) (by first | (simp only [Nat.zero_add, Nat.reduceAdd]; rfl) | rfl) rfl ?_)
      (refine h_give (i := 13) (by kernel_rfl) rfl (g_loadPt (evv rfl) (by rfl)) rfl rfl ?_)
      (refine h_give (i := 14) (by kernel_rfl) rfl (g_buildC rfl (by rfl)) rfl rfl ?_)
      refine h_two (i := 1) (j := 15) (by kernel_rfl) rfl rfl (Lay.ent) ?_ ?_
      · (refine o_give (g_loadGt (evv rfl) (by rfl)) rfl rfl ?_); refine o_nil ?_
        refine h_one (i := 15) (by kernel_rfl) rfl (Lay.ent) ?_
        (refine o_litS rfl (by rfl) inferInstance (by rfl) rfl (fun _ => ?_)); refine o_nil ?_
        refine h_one (i := 16) (by kernel_rfl) rfl (Lay.ent) ?_
        (refine o_appF (evv rfl) (evv rfl) (by rfl) (by rfl) (by rfl) (by (try simp only [bsOf, List.length_append, List.length_cons, List.length_nil, List.length_take, List.length_drop, List.length_map, List.length_range]); omega) rfl (fun _ => ?_)); refine o_nil ?_
        (refine h_give (i := 17) (by kernel_rfl) rfl (g_fld (evv rfl)) (by first | (simp only [Nat.zero_add, Nat.reduceAdd]; rfl) | rfl) rfl ?_)
        refine h_one (i := 18) (by kernel_rfl) rfl (Lay.ent) ?_
        (refine o_storeGt (evv rfl) (evv rfl) (by rfl) ?_); refine o_nil ?_
        refine h_done (by kernel_rfl) (Lay.ent) ?_
        exact c_cut (by assumption) (by repeat (first | exact trivial | refine ⟨rfl, ?_⟩ | refine envsub_v rfl (by first | rfl | (refine int_eq ?_; first | omega | (simp; omega) | (simp; done)) | (refine bool_eq ?_; first | (simp [*]; done) | (simp; done)) | (refine str_eq ?_; simp; done) | (refine ptr_eq ?_; omega) | fail) ?_)) ((Ent.trans (B := sl _ (entR [⟨id, num, o⟩]) :: sl _ (entR [⟨id, num, o⟩]) :: blk q ⟨msgC (reqM id vs.length _), 37⟩ :: _) (Ent.refl _) Lay.ent))
      · (refine o_litS rfl (by rfl) inferInstance (by rfl) rfl (fun _ => ?_)); refine o_nil ?_
        refine h_one (i := 1) (by kernel_rfl) rfl (Lay.ent) ?_
        (refine o_give (g_loadGt (evv rfl) (by rfl)) rfl rfl ?_); refine o_nil ?_
        refine h_one (i := 16) (by kernel_rfl) rfl (Lay.ent) ?_
        (refine o_appF (evv rfl) (evv rfl) (by rfl) (by rfl) (by rfl) (by (try simp only [bsOf, List.length_append, List.length_cons, List.length_nil, List.length_take, List.length_drop, List.length_map, List.length_range]); omega) rfl (fun _ => ?_)); refine o_nil ?_
        (refine h_give (i := 17) (by kernel_rfl) rfl (g_fld (evv rfl)) (by first | (simp only [Nat.zero_add, Nat.reduceAdd]; rfl) | rfl) rfl ?_)
        refine h_one (i := 18) (by kernel_rfl) rfl (Lay.ent) ?_
        (refine o_storeGt (evv rfl) (evv rfl) (by rfl) ?_); refine o_nil ?_
        refine h_done (by kernel_rfl) (Lay.ent) ?_
        exact c_cut (by assumption) (by repeat (first | exact trivial | refine ⟨rfl, ?_⟩ | refine envsub_v rfl (by first | rfl | (refine int_eq ?_; first | omega | (simp; omega) | (simp; done)) | (refine bool_eq ?_; first | (simp [*]; done) | (simp; done)) | (refine str_eq ?_; simp; done) | (refine ptr_eq ?_; omega) | fail) ?_)) ((Ent.trans (B := sl _ (entR [⟨id, num, o⟩]) :: sl _ (entR [⟨id, num, o⟩]) :: blk q ⟨msgC (reqM id vs.length _), 37⟩ :: _) (Ent.refl _) Lay.ent))
    intro ve
    dsimp only [List.cons_append, List.nil_append]
    repeat (first | refine r_seq ?_ | refine c_code ?_ | refine c_blk ?_ | refine r_skip ?_)
    refine r_region (id := 8) ?_
    refine o_give (g_move (evv rfl)) rfl rfl ?_
    refine o_give (v := agg (msgC (reqM id vs.length ve))) (g_loadW (evv rfl) rfl (LenC.h _)) rfl rfl ?_
    refine o_litS rfl (by rfl) inferInstance (by rfl) rfl (fun _ => ?_)
    refine o_appF (evv rfl) (evv rfl) (by rfl) (by rfl) (by rfl) (by (try simp only [bsOf, List.length_append, List.length_cons, List.length_nil, List.length_take, List.length_drop, List.length_map, List.length_range]); omega) rfl (fun _ => ?_)
    refine o_give (g_assign (evv rfl)) rfl rfl ?_
    refine o_nil ?_
    refine c_blk ?_
    refine c_code ?_
    refine r_region (id := 5) ?_
    refine o_give (g_move (evv rfl)) rfl rfl ?_
    refine o_giveN (g_bin (evv rfl) (evv rfl) (by rfl)) (by simp only [inR]; omega) rfl ?_
    refine o_give (g_assign (evv rfl)) rfl rfl ?_
    refine o_nil ?_
    rename_i vm vo'
    refine c_loop (vo', vs ++ [ve]) ?_ ?_ (by simp only [List.length_append, List.length_singleton, Int.natCast_add, Int.natCast_one]; repeat (first | exact trivial | refine ⟨rfl, ?_⟩ | refine envsub_v rfl (by first | rfl | (refine int_eq ?_; first | omega | (simp; omega) | (simp; done)) | (refine bool_eq ?_; first | (simp [*]; done) | (simp; done)) | (refine str_eq ?_; simp; done) | (refine ptr_eq ?_; omega) | fail) ?_)) ?_ <;> (try dsimp only)
    · simp; omega
    · simp; omega
    · rw [reqL_app, reqRom_app]
      exact Ent.trans (Lay.ent (L' := sl ve (entR [⟨id, num, o⟩]) :: rom (reqRom ⟨id, num, o⟩ vs) :: blk c ⟨rcC id n num 4 o, 54⟩ :: sl vo' (msgR (reqL id vs ++ [reqM id vs.length ve])) :: L)) (Ent.romIn.trans Lay.ent)
  · refine r_exit rfl ?_
    refine c_code ?_
    refine r_seq ?_
    refine r_region (id := 9) ?_
    refine o_give (g_move (evv rfl)) rfl rfl ?_
    refine o_give (g_assign (evv rfl)) rfl rfl ?_
    refine o_nil ?_
    refine c_code ?_
    first | refine r_ret (rs := [.tmp 2]) rfl rfl _ ((Lay.ent (L' := blk c ⟨rcC id n num 4 o, 54⟩ :: sl vo (msgR (reqL id vs)) :: rom (reqRom ⟨id, num, o⟩ vs) :: L))) ?_ | refine c_end (rs := [.tmp 2]) rfl rfl _ ((Lay.ent (L' := blk c ⟨rcC id n num 4 o, 54⟩ :: sl vo (msgR (reqL id vs)) :: rom (reqRom ⟨id, num, o⟩ vs) :: L))) ?_
    exact ⟨vs, by omega, rfl⟩
end VK
