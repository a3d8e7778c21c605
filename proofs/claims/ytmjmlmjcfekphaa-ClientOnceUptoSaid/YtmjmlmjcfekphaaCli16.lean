/- ClientOnce, walked. Conditions: the script's lists are read. -/
import Derived.Test.YtmjmlmjcfekphaaCli15
--%norm
namespace VK
open Go Go.Proofs
set_option linter.unusedSimpArgs false
set_option linter.unusedVariables false
set_option maxRecDepth 100000
set_option maxHeartbeats 40000000
def ansN (num t : Int) : Int := if 0 < t then num - 1 else num
abbrev StQ := {x : Int × Int × Int × OpS × Int // CliOk 3 5 x.1 x.2.1 x.2.2.1 ∧ x.2.2.2.2 = ansN x.1 x.2.2.1}
theorem ClientOnce_c (W : World) (v : Value) (l : List DoF) [rd : Rd [base W] v (frow doC 54 39 l)] (hm : ∀ d ∈ l, DoOk W d) :
    Fn Try.prog 3 [v] [base W] fun w L' => w = .bool true ∧ L' = [base W] := by
  refine fn_lenF rd fun hlen => ?_
  have hlen : l.length ≤ 2 ^ 63 - 1 := hlen
  have hc : cliOk 3 5 := by decide
  refine fn_intro Try.func3 rfl Try.ntmps3 rfl (fun W0 => ?_)
  simp only [argE]
  refine r_seq ?_
  refine r_region (id := 0) ?_
  refine o_give (g_assign (evv rfl)) rfl rfl ?_
  refine o_nil ?_
  refine c_code ?_
  refine r_seq ?_
  refine r_seq ?_
  refine r_region (id := 1) ?_
  (refine o_call rfl _ (Ent.refl _) (cAwake_c _) rfl ?_; rintro _ _ ⟨rfl, hLz⟩; obtain rfl := hLz.symm; clear hLz)
  refine o_give (g_not (evv rfl)) rfl rfl ?_
  refine o_nil ?_
  refine c_code ?_
  refine r_cond_false rfl ?_
  refine r_skip ?_
  refine c_code ?_
  refine r_seq ?_
  refine r_region (id := 3) ?_
  (refine o_call rfl _ (Ent.refl _) (CNewN_c _ _ _ (by assumption)) rfl ?_; rintro _ _ ⟨cb, rfl, rfl⟩)
  refine o_give (g_move (evv rfl)) rfl rfl ?_
  refine o_give (g_extract (evv rfl) (by rfl)) rfl rfl ?_
  refine o_give (g_extract (evv rfl) (by rfl)) rfl rfl ?_
  refine o_give (g_assign (evv rfl)) rfl rfl ?_
  refine o_give (g_assign (evv rfl)) rfl rfl ?_
  refine o_nil ?_
  refine c_code ?_
  refine r_seq ?_
  refine r_seq ?_
  refine r_region (id := 4) ?_
  refine o_give (g_move (evv rfl)) rfl rfl ?_
  refine o_give (g_pnil TyU.h (evv rfl) (evv rfl) (by simp) (by rfl)) rfl rfl ?_
  refine o_nil ?_
  refine c_code ?_
  refine r_cond_false rfl ?_
  refine r_skip ?_
  refine c_code ?_
  refine r_seq ?_
  refine r_region (id := 6) ?_
  refine o_give (g_assign (evv rfl)) rfl rfl ?_
  refine o_nil ?_
  refine c_code ?_
  refine r_seq ?_
  refine r_region (id := 7) ?_
  refine o_give (g_assign (evv rfl)) rfl rfl ?_
  refine o_nil ?_
  refine c_code ?_
  refine r_seq ?_
  refine r_seq ?_
  refine r_region (id := 8) ?_
  refine o_give (g_assign (evv rfl)) rfl rfl ?_
  refine o_nil ?_
  refine c_code ?_
  refine r_block ?_
  refine r_loopE (σ := Nat × Int × Int × Int × OpS × Int) (fun x => x.1 ≤ l.length ∧ CliOk 3 5 x.2.1 x.2.2.1 x.2.2.2.1 ∧ x.2.2.2.2.2 = ansN x.2.1 x.2.2.2.1) (fun x => l.length - x.1) (fun x => [(5, .v (.int .i64 x.2.1)), (6, .v (.int .i64 x.2.2.2.2.2)), (7, .v (.int .i64 (x.1 : Int)))]) [0, 3] (fun x => blk cb ⟨cliC 3 5 x.2.1 x.2.2.1 (decide (0 < x.2.2.2.1)) x.2.2.2.2.1, 68⟩ :: [base W]) (0, 0, 0, 0, zeroOp, 0) (by dsimp only [pickE, pick1, lk2, Nat.reduceBEq, Nat.reduceAdd, Nat.zero_add, cond_true, cond_false] <;> exact rfl) ?_ (by repeat (first | exact trivial | refine ⟨rfl, ?_⟩ | refine envsub_v rfl (by first | rfl | (refine int_eq ?_; first | omega | (simp; omega) | (simp; done)) | (refine bool_eq ?_; first | (simp [*]; done) | (simp; done)) | (refine str_eq ?_; simp; done) | (refine ptr_eq ?_; omega) | fail) ?_)) ?_ ?_
  · exact ⟨Nat.zero_le _, show CliOk 3 5 0 0 0 from ⟨by omega, by omega, by omega, by omega, by omega, by omega⟩, rfl⟩
  · exact (show Ent _ (blk cb ⟨cliC 3 5 0 0 false zeroOp, 68⟩ :: [base W]) from Lay.ent)
  rintro ⟨i, num, left, t, o, ans⟩ ⟨hi, k, ha⟩; dsimp only [List.cons_append, List.nil_append]
  dsimp only at hi k ha
  have hnum := k.hu
  refine r_seq ?_
  refine r_seq ?_
  refine r_region (id := 9) ?_
  refine o_give (g_move (evv rfl)) rfl rfl ?_
  refine o_give (g_move (evv rfl)) rfl rfl ?_
  refine o_give (g_lenF (evv rfl)) rfl rfl ?_
  refine o_give (g_bin (evv rfl) (evv rfl) (by rfl)) rfl rfl ?_
  refine o_give (g_move (evv rfl)) rfl rfl ?_
  refine o_lazy rfl (fun hg => g_move (by first | exact evv rfl | exact evg rfl (by rw [hp]; rfl) | exact evg rfl hp | exact evg rfl hg | exact evg rfl (by first | (simp_all; done) | (simp [*]; done) | fail) | fail)) rfl rfl ?_
  refine o_lazy rfl (fun hg => g_bin (by first | exact evv rfl | exact evg rfl (by rw [hp]; rfl) | exact evg rfl hp | exact evg rfl hg | exact evg rfl (by first | (simp_all; done) | (simp [*]; done) | fail) | fail) (by first | exact evv rfl | exact evg rfl (by rw [hp]; rfl) | exact evg rfl hp | exact evg rfl hg | exact evg rfl (by first | (simp_all; done) | (simp [*]; done) | fail) | fail) (by rfl)) rfl rfl ?_
  refine o_give (g_pick_and (evv rfl) (evv rfl) (fun hp => (by first | exact evv rfl | exact evg rfl (by rw [hp]; rfl) | exact evg rfl hp | exact evg rfl hg | exact evg rfl (by first | (simp_all; done) | (simp [*]; done) | fail) | fail))) rfl rfl ?_
  refine o_nil ?_
  refine c_code ?_
  refine r_cond rfl (fun hcond => ?_) (fun hcond => ?_) <;> (try simp only [decide_eq_true_eq, decide_eq_false_iff_not, Bool.and_eq_true, Bool.or_eq_true, Bool.not_eq_true', Bool.and_eq_false_iff, Bool.or_eq_false_iff, Bool.not_eq_false', Bool.not_eq_true, Bool.not_eq_false, Bool.true_eq_false, Bool.false_eq_true, Int.not_lt, Int.not_le, not_and, not_or, ne_eq] at hcond)
  · have hil : i < l.length := by omega
    have hd := hm (l.getD i default) (by simp [hil])
    obtain ⟨ho, hto, ⟨es, r1⟩, ⟨ns, r2, hns⟩⟩ := hd
    refine r_skip ?_
    refine c_code ?_
    refine r_seq ?_
    refine r_block ?_
    refine r_seq ?_
    refine r_region (id := 11) ?_
    refine o_give (g_move (evv rfl)) rfl rfl ?_
    refine o_give (g_move (evv rfl)) rfl rfl ?_
    refine o_give (g_idxFN (evv rfl) (evv rfl) (by rfl) (by rfl) (by first | omega | (have := of_decide_eq_true hg; omega) | (simp at hg; omega) | (simp only [List.length_set, List.length_append, List.length_cons, List.length_nil, List.length_map, List.length_take, List.length_drop, List.length_replicate]; omega))) rfl rfl ?_
    refine o_give (g_loadFr (evv rfl) (by rfl) (by first | (intro; rfl) | exact LenC.h) (by rfl) (by rfl) (by first | omega | (have := of_decide_eq_true hg; omega) | (simp at hg; omega) | (simp only [List.length_set, List.length_append, List.length_cons, List.length_nil, List.length_map, List.length_take, List.length_drop, List.length_replicate]; omega))) rfl rfl ?_
    refine o_alloc (cs := ((Go.Value.int Go.IntKind.i64 0) :: (Go.Value.int Go.IntKind.i64 0) :: (Go.Value.string { data := #[] }) :: (Go.Value.string { data := #[] }) :: (Go.Value.string { data := #[] }) :: (Go.Value.int Go.IntKind.i64 0) :: (Go.Value.int Go.IntKind.i64 0) :: (Go.Value.int Go.IntKind.i64 0) :: (Go.Value.int Go.IntKind.i64 0) :: (Go.Value.int Go.IntKind.i64 0) :: (Go.Value.int Go.IntKind.i64 0) :: (Go.Value.int Go.IntKind.i64 0) :: (Go.Value.int Go.IntKind.i64 0) :: (Go.Value.int Go.IntKind.i64 0) :: (Go.Value.int Go.IntKind.i64 0) :: (bys (List.replicate 32 0) ++ (Go.Value.slice none 0 0) :: (Go.Value.string { data := #[] }) :: (Go.Value.int Go.IntKind.i64 0) :: (Go.Value.bool false) :: (Go.Value.int Go.IntKind.i64 0) :: (Go.Value.string { data := #[] }) :: (Go.Value.slice none 0 0) :: []))) rfl rfl (fun _ => ?_)
    refine o_storeW (evv rfl) (evv rfl) (by first | rfl | assumption | exact LenC.h _ | (simp [bys, *]; done) | fail) (by first | (intro _ _ _; exact bys_one _) | exact AllOne.h | (intro _ _ _ u hu; simp at hu; rcases hu with rfl | rfl | rfl | rfl | rfl | rfl | rfl | rfl <;> rfl) | fail) (by first | rfl | exact (LenC.h _).trans rfl | exact (LenC.h _).trans (LenC.h _).symm | (simp [bys, *]; done) | (simp only [bys, List.length_map, *]; rfl) | fail) ?_
    refine o_nil ?_
    refine c_code ?_
    refine r_seq ?_
    refine r_seq ?_
    rename_i q
    generalize l.getD i default = D at *
    refine r_region (id := 12) ?_
    refine o_give (g_fld (evv rfl)) (by first | (simp only [Nat.zero_add, Nat.reduceAdd]; rfl) | rfl) rfl ?_
    refine o_give (g_loadGt (evv rfl) (by rfl)) rfl rfl ?_
    refine o_giveU (g_conv TyU.h TyU.h (evv rfl)) (by rfl) rfl ?_
    refine o_give (g_remP (evv rfl) (evv rfl) (by omega) (by omega)) rfl rfl ?_
    refine o_give (g_bin (evv rfl) (evv rfl) (by rfl)) rfl rfl ?_
    refine o_nil ?_
    refine c_code ?_
    repeat (first | refine r_seq ?_ | refine c_code ?_ | refine c_blk ?_ | refine r_skip ?_)
    refine r_cutE (σ := StQ) (fun x => [(5, .v (.int .i64 x.1.1)), (6, .v (.int .i64 x.1.2.2.2.2))]) [0,3,7] (fun x => blk cb ⟨cliC 3 5 x.1.1 x.1.2.1 (decide (0 < x.1.2.2.1)) x.1.2.2.2.1, 68⟩ :: [base W]) (by dsimp only [pickE, pick1, lk2, Nat.reduceBEq, Nat.reduceAdd, Nat.zero_add, cond_true, cond_false] <;> exact rfl) ?_ ?_
    · refine r_cond rfl (fun h0 => ?_) (fun h0 => ?_) <;> (try simp only [decide_eq_true_eq, decide_eq_false_iff_not, Bool.and_eq_true, Bool.or_eq_true, Bool.not_eq_true', Bool.and_eq_false_iff, Bool.or_eq_false_iff, Bool.not_eq_false', Bool.not_eq_true, Bool.not_eq_false, Bool.true_eq_false, Bool.false_eq_true, Int.not_lt, Int.not_le, not_and, not_or, ne_eq] at h0)
      · by_cases hE : callE num t D.op = 0
        · have t0 : ¬ 0 < t := by intro h; rw [callE, if_pos h] at hE; exact absurd hE (by decide)
          obtain rfl : num = ans := (ha.trans (if_neg t0)).symm
          refine r_seq ?_
          refine r_region (id := 13) ?_
          refine o_give (g_move (evv rfl)) rfl rfl ?_
          refine o_give (g_fld (evv rfl)) (by first | (simp only [Nat.zero_add, Nat.reduceAdd]; rfl) | rfl) rfl ?_
          refine o_give (g_loadPt (evv rfl) (by rfl)) rfl rfl ?_
          (refine o_call rfl _ (PickR.ent (K := blk cb)) (CallY_c _ cb 3 5 num left t o _ ho k hE) rfl ?_; rintro _ _ ⟨u, vs, rfl, hvs, rfl⟩)
          refine o_give (g_move (evv rfl)) rfl rfl ?_
          refine o_give (g_extract (evv rfl) (by rfl)) rfl rfl ?_
          refine o_give (g_extract (evv rfl) (by rfl)) rfl rfl ?_
          refine o_give (g_assign (evv rfl)) rfl rfl ?_
          refine o_give (g_assign (evv rfl)) rfl rfl ?_
          refine o_nil ?_
          refine c_code ?_
          refine r_seq ?_
          refine r_region (id := 14) ?_
          refine o_give (g_move (evv rfl)) rfl rfl ?_
          refine o_give (g_bin (evv rfl) (evv rfl) (by rfl)) rfl rfl ?_
          refine o_nil ?_
          refine c_code ?_
          refine r_cond_true rfl ?_
          refine r_seq ?_
          refine r_region (id := 15) ?_
          refine o_give (g_move (evv rfl)) rfl rfl ?_
          refine o_giveN (g_bin (evv rfl) (evv rfl) (by rfl)) (by simp only [inR]; omega) rfl ?_
          refine o_give (g_assign (evv rfl)) rfl rfl ?_
          refine o_nil ?_
          refine c_code ?_
          refine r_seq ?_
          refine r_region (id := 16) ?_
          refine o_give (g_move (evv rfl)) rfl rfl ?_
          refine o_give (g_lenF (evv rfl)) rfl rfl ?_
          refine o_give (g_bin (evv rfl) (evv rfl) (by rfl)) rfl rfl ?_
          refine o_give (g_move (evv rfl)) rfl rfl ?_
          refine o_lazy rfl (fun hg => g_move (by first | exact evv rfl | exact evg rfl (by rw [hp]; rfl) | exact evg rfl hp | exact evg rfl hg | exact evg rfl (by first | (simp_all; done) | (simp [*]; done) | fail) | fail)) rfl rfl ?_
          refine o_lazy rfl (fun hg => g_move (by first | exact evv rfl | exact evg rfl (by rw [hp]; rfl) | exact evg rfl hp | exact evg rfl hg | exact evg rfl (by first | (simp_all; done) | (simp [*]; done) | fail) | fail)) rfl rfl ?_
          refine o_lazy rfl (fun hg => Gives.as (g_bin (by first | exact evv rfl | exact evg rfl (by rw [hp]; rfl) | exact evg rfl hp | exact evg rfl hg | exact evg rfl (by first | (simp_all; done) | (simp [*]; done) | fail) | fail) (by first | exact evv rfl | exact evg rfl (by rw [hp]; rfl) | exact evg rfl hp | exact evg rfl hg | exact evg rfl (by first | (simp_all; done) | (simp [*]; done) | fail) | fail) (by rfl)) (by rw [wrap_in (by simp only [inR]; omega)])) rfl rfl ?_
          refine o_lazy rfl (fun hg => g_bin (by first | exact evv rfl | exact evg rfl (by rw [hp]; rfl) | exact evg rfl hp | exact evg rfl hg | exact evg rfl (by first | (simp_all; done) | (simp [*]; done) | fail) | fail) (by first | exact evv rfl | exact evg rfl (by rw [hp]; rfl) | exact evg rfl hp | exact evg rfl hg | exact evg rfl (by first | (simp_all; done) | (simp [*]; done) | fail) | fail) (by rfl)) rfl rfl ?_
          refine o_give (g_pick_or (evv rfl) (evv rfl) (fun hp => (by first | exact evv rfl | exact evg rfl (by rw [hp]; rfl) | exact evg rfl hp | exact evg rfl hg | exact evg rfl (by first | (simp_all; done) | (simp [*]; done) | fail) | fail))) rfl rfl ?_
          refine o_nil ?_
          refine c_code ?_
          simp only [reqL_len, hvs, decide_true, Bool.not_true, Bool.or_self]
          refine r_cond_false rfl ?_
          refine r_skip ?_
          exact c_cut (⟨(num + 1, 4, 4, D.op, num), ok_call k hE, show num = ansN (num + 1) 4 by unfold ansN; omega⟩ : StQ) (by repeat (first | exact trivial | refine ⟨rfl, ?_⟩ | refine envsub_v rfl (by first | rfl | (refine int_eq ?_; first | omega | (simp; omega) | (simp; done)) | (refine bool_eq ?_; first | (simp [*]; done) | (simp; done)) | (refine str_eq ?_; simp; done) | (refine ptr_eq ?_; omega) | fail) ?_)) ((show Ent _ (blk cb ⟨cliC 3 5 (num + 1) 4 true D.op, 68⟩ :: [base W]) from Lay.ent))
        · refine r_seq ?_
          refine r_region (id := 13) ?_
          refine o_give (g_move (evv rfl)) rfl rfl ?_
          refine o_give (g_fld (evv rfl)) (by first | (simp only [Nat.zero_add, Nat.reduceAdd]; rfl) | rfl) rfl ?_
          refine o_give (g_loadPt (evv rfl) (by rfl)) rfl rfl ?_
          (refine o_call rfl _ (PickR.ent (K := blk cb)) (CallN_c _ cb 3 5 num left t o _ ho k hE) rfl ?_; rintro _ _ ⟨rfl, rfl⟩)
          refine o_give (g_move (evv rfl)) rfl rfl ?_
          refine o_give (g_extract (evv rfl) (by rfl)) rfl rfl ?_
          refine o_give (g_extract (evv rfl) (by rfl)) rfl rfl ?_
          refine o_give (g_assign (evv rfl)) rfl rfl ?_
          refine o_give (g_assign (evv rfl)) rfl rfl ?_
          refine o_nil ?_
          refine c_code ?_
          refine r_seq ?_
          refine r_region (id := 14) ?_
          refine o_give (g_move (evv rfl)) rfl rfl ?_
          refine o_give (g_bin (evv rfl) (evv rfl) (by rfl)) rfl rfl ?_
          refine o_nil ?_
          refine c_code ?_
          refine r_cond rfl (fun hz => ?_) (fun hz => ?_) <;> (try simp only [decide_eq_true_eq, decide_eq_false_iff_not, Bool.and_eq_true, Bool.or_eq_true, Bool.not_eq_true', Bool.and_eq_false_iff, Bool.or_eq_false_iff, Bool.not_eq_false', Bool.not_eq_true, Bool.not_eq_false, Bool.true_eq_false, Bool.false_eq_true, Int.not_lt, Int.not_le, not_and, not_or, ne_eq] at hz)
          · exact absurd hz hE
          · refine r_skip ?_
            exact c_cut (⟨(num, left, t, o, ans), k, ha⟩ : StQ) (by repeat (first | exact trivial | refine ⟨rfl, ?_⟩ | refine envsub_v rfl (by first | rfl | (refine int_eq ?_; first | omega | (simp; omega) | (simp; done)) | (refine bool_eq ?_; first | (simp [*]; done) | (simp; done)) | (refine str_eq ?_; simp; done) | (refine ptr_eq ?_; omega) | fail) ?_)) (Lay.ent)
      · refine r_seq ?_
        refine r_region (id := 18) ?_
        refine o_give (g_fld (evv rfl)) (by first | (simp only [Nat.zero_add, Nat.reduceAdd]; rfl) | rfl) rfl ?_
        refine o_give (g_loadGt (evv rfl) (by rfl)) rfl rfl ?_
        refine o_giveU (g_conv TyU.h TyU.h (evv rfl)) (by rfl) rfl ?_
        refine o_give (g_remP (evv rfl) (evv rfl) (by omega) (by omega)) rfl rfl ?_
        refine o_give (g_bin (evv rfl) (evv rfl) (by rfl)) rfl rfl ?_
        refine o_nil ?_
        refine c_code ?_
        refine r_cond rfl (fun h1 => ?_) (fun h1 => ?_) <;> (try simp only [decide_eq_true_eq, decide_eq_false_iff_not, Bool.and_eq_true, Bool.or_eq_true, Bool.not_eq_true', Bool.and_eq_false_iff, Bool.or_eq_false_iff, Bool.not_eq_false', Bool.not_eq_true, Bool.not_eq_false, Bool.true_eq_false, Bool.false_eq_true, Int.not_lt, Int.not_le, not_and, not_or, ne_eq] at h1)
        · have r3 : Rd [base W] (msgD D 3 num).ents (entR es) := by rw [msgD_ents]; exact r1
          have r4 : Rd [base W] (msgD D 3 num).names (mrow str 9 ns) := by rw [msgD_names]; exact r2
          refine r_seq ?_
          refine r_region (id := 19) ?_
          refine o_give (g_loadW (evv rfl) (by rfl) (LenC.h _)) rfl rfl ?_
          refine o_give (g_move (evv rfl)) rfl rfl ?_
          (refine o_call rfl _ (Ent.refl _) (msgD_c _ D 3 num (by decide) es ns) rfl ?_; rintro _ _ ⟨rfl, hLz⟩; obtain rfl := hLz.symm; clear hLz)
          refine o_alloc (cs := ((Go.Value.int Go.IntKind.i64 0) :: (Go.Value.int Go.IntKind.i64 0) :: (Go.Value.int Go.IntKind.i64 0) :: (Go.Value.int Go.IntKind.i64 0) :: (Go.Value.int Go.IntKind.i64 0) :: (Go.Value.int Go.IntKind.i64 0) :: (Go.Value.int Go.IntKind.i64 0) :: (Go.Value.int Go.IntKind.i64 0) :: (bys (List.replicate 32 0) ++ (Go.Value.slice none 0 0) :: (Go.Value.string { data := #[] }) :: (Go.Value.int Go.IntKind.i64 0) :: (Go.Value.bool false) :: (Go.Value.int Go.IntKind.i64 0) :: (Go.Value.string { data := #[] }) :: (Go.Value.slice none 0 0) :: []))) rfl rfl (fun _ => ?_)
          refine o_storeW (evv rfl) (evv rfl) (by first | rfl | assumption | exact LenC.h _ | (simp [bys, *]; done) | fail) (by first | (intro _ _ _; exact bys_one _) | exact AllOne.h | (intro _ _ _ u hu; simp at hu; rcases hu with rfl | rfl | rfl | rfl | rfl | rfl | rfl | rfl <;> rfl) | fail) (by first | rfl | exact (LenC.h _).trans rfl | exact (LenC.h _).trans (LenC.h _).symm | (simp [bys, *]; done) | (simp only [bys, List.length_map, *]; rfl) | fail) ?_
          refine o_nil ?_
          refine c_code ?_
          refine r_seq ?_
          generalize msgD D 3 num = M at *
          by_cases hA : ansP 3 num t M
          · have ht := hA.1
            have hl := hA.2.2.2
            obtain rfl : ans = num - 1 := ha.trans (if_pos ht)
            refine r_region (id := 20) ?_
            refine o_give (g_move (evv rfl)) rfl rfl ?_
            refine o_give (g_loadW (evv rfl) (by rfl) (LenC.h _)) rfl rfl ?_
            (refine o_call rfl _ (PickR.ent (K := blk cb)) (Hdl1_c _ cb 3 5 num left t o M ns hns k hA) rfl ?_; rintro _ _ ⟨u, rfl, rfl⟩)
            refine o_give (g_move (evv rfl)) rfl rfl ?_
            refine o_give (g_extract (evv rfl) (by rfl)) rfl rfl ?_
            refine o_give (g_extract (evv rfl) (by rfl)) rfl rfl ?_
            refine o_alloc rfl rfl (fun _ => ?_)
            refine o_storeW (evv rfl) (evv rfl) (by first | rfl | assumption | exact LenC.h _ | (simp [bys, *]; done) | fail) (by first | (intro _ _ _; exact bys_one _) | exact AllOne.h | (intro _ _ _ u hu; simp at hu; rcases hu with rfl | rfl | rfl | rfl | rfl | rfl | rfl | rfl <;> rfl) | fail) (by first | rfl | exact (LenC.h _).trans rfl | exact (LenC.h _).trans (LenC.h _).symm | (simp [bys, *]; done) | (simp only [bys, List.length_map, *]; rfl) | fail) ?_
            refine o_give (g_assign (evv rfl)) rfl rfl ?_
            refine o_nil ?_
            refine c_code ?_
            refine r_seq ?_
            refine r_region (id := 21) ?_
            refine o_give (g_move (evv rfl)) rfl rfl ?_
            refine o_nil ?_
            refine c_code ?_
            refine r_cond_true rfl ?_
            refine r_seq ?_
            refine r_region (id := 22) ?_
            refine o_give (g_move (evv rfl)) rfl rfl ?_
            refine o_giveN (g_bin (evv rfl) (evv rfl) (by rfl)) (by simp only [inR]; omega) rfl ?_
            refine o_give (g_assign (evv rfl)) rfl rfl ?_
            refine o_nil ?_
            refine c_code ?_
            refine r_seq ?_
            refine r_region (id := 23) ?_
            refine o_give (g_fld (evv rfl)) (by first | (simp only [Nat.zero_add, Nat.reduceAdd]; rfl) | rfl) rfl ?_
            refine o_give (g_loadGt (evv rfl) (by rfl)) rfl rfl ?_
            refine o_give (g_move (evv rfl)) rfl rfl ?_
            refine o_give (g_bin (evv rfl) (evv rfl) (by rfl)) rfl rfl ?_
            refine o_give (g_move (evv rfl)) rfl rfl ?_
            refine o_lazy rfl (fun hg => g_move (by first | exact evv rfl | exact evg rfl (by rw [hp]; rfl) | exact evg rfl hp | exact evg rfl hg | exact evg rfl (by first | (simp_all; done) | (simp [*]; done) | fail) | fail)) rfl rfl ?_
            refine o_lazy rfl (fun hg => g_move (by first | exact evv rfl | exact evg rfl (by rw [hp]; rfl) | exact evg rfl hp | exact evg rfl hg | exact evg rfl (by first | (simp_all; done) | (simp [*]; done) | fail) | fail)) rfl rfl ?_
            refine o_lazy rfl (fun hg => g_bin (by first | exact evv rfl | exact evg rfl (by rw [hp]; rfl) | exact evg rfl hp | exact evg rfl hg | exact evg rfl (by first | (simp_all; done) | (simp [*]; done) | fail) | fail) (by first | exact evv rfl | exact evg rfl (by rw [hp]; rfl) | exact evg rfl hp | exact evg rfl hg | exact evg rfl (by first | (simp_all; done) | (simp [*]; done) | fail) | fail) (by rfl)) rfl rfl ?_
            refine o_give (g_pick_or (evv rfl) (evv rfl) (fun hp => (by first | exact evv rfl | exact evg rfl (by rw [hp]; rfl) | exact evg rfl hp | exact evg rfl hg | exact evg rfl (by first | (simp_all; done) | (simp [*]; done) | fail) | fail))) rfl rfl ?_
            refine o_nil ?_
            refine c_code ?_
            simp only [hl, show num - 1 + 1 = num by omega, decide_true, Bool.not_true, Bool.or_false]
            refine r_cond_false rfl ?_
            refine r_skip ?_
            exact c_cut (⟨(num, left, 0, o, num), show CliOk 3 5 num left 0 from ⟨k.hi, k.hn, k.hu, by omega, k.hl, fun h => absurd h (by decide)⟩, rfl⟩ : StQ) (by repeat (first | exact trivial | refine ⟨rfl, ?_⟩ | refine envsub_v rfl (by first | rfl | (refine int_eq ?_; first | omega | (simp; omega) | (simp; done)) | (refine bool_eq ?_; first | (simp [*]; done) | (simp; done)) | (refine str_eq ?_; simp; done) | (refine ptr_eq ?_; omega) | fail) ?_)) ((show Ent _ (blk cb ⟨cliC 3 5 num left false o, 68⟩ :: [base W]) from Lay.ent))
          · refine r_region (id := 20) ?_
            refine o_give (g_move (evv rfl)) rfl rfl ?_
            refine o_give (g_loadW (evv rfl) (by rfl) (LenC.h _)) rfl rfl ?_
            (refine o_call rfl _ (PickR.ent (K := blk cb)) (Hdl0_c _ cb 3 5 num left t o M k hA) rfl ?_; rintro _ _ ⟨rfl, rfl⟩)
            refine o_give (g_move (evv rfl)) rfl rfl ?_
            refine o_give (g_extract (evv rfl) (by rfl)) rfl rfl ?_
            refine o_give (g_extract (evv rfl) (by rfl)) rfl rfl ?_
            refine o_alloc rfl rfl (fun _ => ?_)
            refine o_storeW (evv rfl) (evv rfl) (by first | rfl | assumption | exact LenC.h _ | (simp [bys, *]; done) | fail) (by first | (intro _ _ _; exact bys_one _) | exact AllOne.h | (intro _ _ _ u hu; simp at hu; rcases hu with rfl | rfl | rfl | rfl | rfl | rfl | rfl | rfl <;> rfl) | fail) (by first | rfl | exact (LenC.h _).trans rfl | exact (LenC.h _).trans (LenC.h _).symm | (simp [bys, *]; done) | (simp only [bys, List.length_map, *]; rfl) | fail) ?_
            refine o_give (g_assign (evv rfl)) rfl rfl ?_
            refine o_nil ?_
            refine c_code ?_
            refine r_seq ?_
            refine r_region (id := 21) ?_
            refine o_give (g_move (evv rfl)) rfl rfl ?_
            refine o_nil ?_
            refine c_code ?_
            refine r_cond_false rfl ?_
            refine r_skip ?_
            exact c_cut (⟨(num, left, t, o, ans), k, ha⟩ : StQ) (by repeat (first | exact trivial | refine ⟨rfl, ?_⟩ | refine envsub_v rfl (by first | rfl | (refine int_eq ?_; first | omega | (simp; omega) | (simp; done)) | (refine bool_eq ?_; first | (simp [*]; done) | (simp; done)) | (refine str_eq ?_; simp; done) | (refine ptr_eq ?_; omega) | fail) ?_)) (Lay.ent)
        · refine r_skip ?_
          exact c_cut (⟨(num, left, t, o, ans), k, ha⟩ : StQ) (by repeat (first | exact trivial | refine ⟨rfl, ?_⟩ | refine envsub_v rfl (by first | rfl | (refine int_eq ?_; first | omega | (simp; omega) | (simp; done)) | (refine bool_eq ?_; first | (simp [*]; done) | (simp; done)) | (refine str_eq ?_; simp; done) | (refine ptr_eq ?_; omega) | fail) ?_)) (Lay.ent)
    · intro ⟨⟨num', left', t', o', ans'⟩, k', ha'⟩
      dsimp only [List.cons_append, List.nil_append]
      dsimp only at k' ha'
      have hnum' := k'.hu
      have hw : (decide (0 < t') != decide (ans' < num')) = false := by rw [ha']; unfold ansN; split <;> simp [*]; omega
      refine c_code ?_
      refine r_seq ?_
      refine r_region (id := 25) ?_
      refine o_give (g_move (evv rfl)) rfl rfl ?_
      (refine o_call rfl _ (PickR.ent (K := blk cb)) (CNum_c _ cb _ _ _ _ _ _) rfl ?_; rintro _ _ ⟨rfl, rfl⟩)
      refine o_give (g_move (evv rfl)) rfl rfl ?_
      refine o_give (g_bin (evv rfl) (evv rfl) (by rfl)) rfl rfl ?_
      refine o_give (g_move (evv rfl)) rfl rfl ?_
      refine o_lazy rfl (fun hg => g_move (by first | exact evv rfl | exact evg rfl (by rw [hp]; rfl) | exact evg rfl hp | exact evg rfl hg | exact evg rfl (by first | (simp_all; done) | (simp [*]; done) | fail) | fail)) rfl rfl ?_
      simp only [decide_true, Bool.not_true]
      refine o_sure (t := 92) rfl rfl ?_
      refine o_gyes rfl ?_
      (refine o_call rfl _ (PickR.ent (K := blk cb)) (Wtg_c _ cb _ _ _ _ _ _) rfl ?_; rintro _ _ ⟨rfl, rfl⟩)
      refine o_gyes rfl ?_
      refine o_give (g_move (evv rfl)) rfl rfl ?_
      refine o_gyes rfl ?_
      refine o_give (g_move (evv rfl)) rfl rfl ?_
      refine o_gyes rfl ?_
      refine o_give (g_bin (evv rfl) (evv rfl) (by rfl)) rfl rfl ?_
      refine o_gyes rfl ?_
      refine o_give (g_binB TyU.h (evv rfl) (evv rfl) (by rfl)) rfl rfl ?_
      refine o_give (g_pick (b := false) (evv rfl) (fun h => by cases h) (fun _ => (evv rfl))) rfl rfl ?_
      refine o_nil ?_
      refine c_code ?_
      simp only [hw, Bool.false_or]
      refine r_cond_false rfl ?_
      refine r_skip ?_
      refine c_blk ?_
      refine c_code ?_
      refine r_region (id := 10) ?_
      refine o_give (g_move (evv rfl)) rfl rfl ?_
      refine o_giveN (g_bin (evv rfl) (evv rfl) (by rfl)) (by simp only [inR]; omega) rfl ?_
      refine o_give (g_assign (evv rfl)) rfl rfl ?_
      refine o_nil ?_
      refine c_loop (i + 1, num', left', t', o', ans') ?_ ?_ (by repeat (first | exact trivial | refine ⟨rfl, ?_⟩ | refine envsub_v rfl (by first | rfl | (refine int_eq ?_; first | omega | (simp; omega) | (simp; done)) | (refine bool_eq ?_; first | (simp [*]; done) | (simp; done)) | (refine str_eq ?_; simp; done) | (refine ptr_eq ?_; omega) | fail) ?_)) ?_ <;> (try dsimp only)
      · exact ⟨by omega, k', ha'⟩
      · omega
      · exact Lay.ent
  · refine r_exit rfl ?_
    refine c_code ?_
    refine r_seq ?_
    refine r_region (id := 27) ?_
    refine o_give (g_assign (evv rfl)) rfl rfl ?_
    refine o_nil ?_
    refine c_code ?_
    first | refine r_ret (rs := [.tmp 2]) rfl rfl _ ((Lay.ent (L' := [base W]))) ?_ | refine c_end (rs := [.tmp 2]) rfl rfl _ ((Lay.ent (L' := [base W]))) ?_
    exact ⟨rfl, rfl⟩
end VK
