/- WireTorn, walked. Conditions: few bytes. -/
import Derived.Test.YtdgenjdphmclhaaTornL
import Derived.Test.YtdgenjdphmclhaaTells
namespace VK
open Go Go.Proofs
set_option linter.unusedSimpArgs false
set_option linter.unusedVariables false
set_option maxRecDepth 100000
set_option maxHeartbeats 40000000
theorem fr_len : ∀ {ps : List (List UInt8)}, (∀ p ∈ ps, p.length ≤ 262144) → (fr ps).length ≤ ps.length * 262152
  | [], _ => Nat.le_refl _
  | p :: ps, h => by
    have h1 := fr_len (ps := ps) fun q hq => h q (List.mem_cons_of_mem _ hq)
    have h2 := h p (List.mem_cons_self ..)
    rw [fr_cons, List.length_append, frame_len, List.length_cons, Nat.succ_mul]
    omega
theorem WireTorn_c (W : World) (v : Value) (l : List (Value × List UInt8)) (cut : Int) (hcut : inR .i64 cut) (hok : ∀ p ∈ l, p.2.length ≤ 1048576) [rd : Rd [base W] v (mrow pcV 25 l)] (hrd : ∀ p ∈ l, Rd [base W] p.1 (mrow by8 5 p.2)) :
    Fn Try.prog 6 [v, .int .i64 cut] [base W] fun w L' => w = .bool true ∧ L' = [base W] := by
  have hcut' := hcut
  simp only [inR] at hcut'
  refine fn_lenM rd fun hll => ?_
  have hll : l.length ≤ 2 ^ 63 - 1 := hll
  refine fn_intro Try.func6 rfl Try.ntmps6 rfl (fun W0 => ?_)
  simp only [argE]
  refine r_seq ?_
  refine r_region (id := 0) ?_
  refine o_give (g_assign (evv rfl)) rfl rfl ?_
  refine o_nil ?_
  refine c_code ?_
  refine r_seq ?_
  refine r_seq ?_
  refine r_region (id := 1) ?_
  (refine o_call rfl _ (Ent.refl _) (awake_c _) rfl ?_; rintro _ _ ⟨rfl, hLz⟩; obtain rfl := hLz.symm; clear hLz)
  refine o_give (g_not (evv rfl)) rfl rfl ?_
  refine o_nil ?_
  refine c_code ?_
  refine r_cond_false rfl ?_
  refine r_skip ?_
  refine c_code ?_
  refine r_seq ?_
  refine r_region (id := 3) ?_
  refine o_give (g_assign (evv rfl)) rfl rfl ?_
  refine o_nil ?_
  refine c_code ?_
  refine r_seq ?_
  refine r_region (id := 4) ?_
  refine o_give (g_assign (evv rfl)) rfl rfl ?_
  refine o_nil ?_
  refine c_code ?_
  refine r_seq ?_
  refine r_seq ?_
  refine r_region (id := 5) ?_
  refine o_give (g_assign (evv rfl)) rfl rfl ?_
  refine o_nil ?_
  refine c_code ?_
  refine r_block ?_
  refine r_loopE (σ := Nat × Value × Value) (fun ⟨i, a, e⟩ => i ≤ l.length ∧ i ≤ 50 ∧ ∀ p ∈ (l.take i).map (·.2), p.length ≤ 262144) (fun ⟨i, a, e⟩ => l.length - i) (fun ⟨i, a, e⟩ => [(5, .v (a)), (6, .v (e)), (7, .v (.int .i64 i))]) [0, 1] (fun ⟨i, a, e⟩ => sl a (mrow by8 5 (fr ((l.take i).map (·.2)))) :: sl e (mrow i64v 3 (endsR ((l.take i).map (·.2)))) :: [base W]) (0, .slice none 0 0, .slice none 0 0) (by dsimp only [pickE, pick1, lk2, Nat.reduceBEq, Nat.reduceAdd, Nat.zero_add, cond_true, cond_false] <;> exact rfl) ?_ (by repeat (first | exact trivial | refine ⟨rfl, ?_⟩ | refine envsub_v rfl (by first | rfl | (refine int_eq ?_; first | omega | (simp; omega) | (simp; done)) | (refine bool_eq ?_; first | (simp [*]; done) | (simp; done)) | (refine str_eq ?_; simp; done) | (refine ptr_eq ?_; omega) | fail) ?_)) ?_ ?_
  · exact ⟨Nat.zero_le _, Nat.zero_le _, fun p hp => by simp at hp⟩
  · exact (Ent.nilM i64v 3).trans (Ent.nilM by8 5)
  rintro ⟨i, a, e⟩ ⟨hi, hi5, hps⟩; dsimp only [List.cons_append, List.nil_append]
  have hfl := fr_len hps
  have hel := ends_len ((l.take i).map (·.2))
  have hpl : ((l.take i).map (·.2)).length = i := by rw [List.length_map, List.length_take]; omega
  rw [hpl] at hfl hel
  refine r_seq ?_
  refine r_seq ?_
  refine r_region (id := 6) ?_
  refine o_give (g_move (evv rfl)) rfl rfl ?_
  refine o_give (g_move (evv rfl)) rfl rfl ?_
  refine o_give (g_lenM (evv rfl)) rfl rfl ?_
  refine o_give (g_bin (evv rfl) (evv rfl) (by rfl)) rfl rfl ?_
  refine o_give (g_move (evv rfl)) rfl rfl ?_
  refine o_lazy rfl (fun hg => g_move (by first | exact evv rfl | exact evg rfl (by rw [hp]; rfl) | exact evg rfl hp | exact evg rfl hg | exact evg rfl (by first | (simp_all; done) | (simp [*]; done) | fail) | fail)) rfl rfl ?_
  refine o_lazy rfl (fun hg => g_bin (by first | exact evv rfl | exact evg rfl (by rw [hp]; rfl) | exact evg rfl hp | exact evg rfl hg | exact evg rfl (by first | (simp_all; done) | (simp [*]; done) | fail) | fail) (by first | exact evv rfl | exact evg rfl (by rw [hp]; rfl) | exact evg rfl hp | exact evg rfl hg | exact evg rfl (by first | (simp_all; done) | (simp [*]; done) | fail) | fail) (by rfl)) rfl rfl ?_
  refine o_give (g_pick_and (evv rfl) (evv rfl) (fun hp => (by first | exact evv rfl | exact evg rfl (by rw [hp]; rfl) | exact evg rfl hp | exact evg rfl hg | exact evg rfl (by first | (simp_all; done) | (simp [*]; done) | fail) | fail))) rfl rfl ?_
  refine o_nil ?_
  refine c_code ?_
  refine r_cond rfl (fun hc => ?_) (fun hc => ?_) <;> (try simp only [decide_eq_true_eq, decide_eq_false_iff_not, Bool.and_eq_true, Bool.or_eq_true, Bool.not_eq_true', Bool.and_eq_false_iff, Bool.or_eq_false_iff, Bool.not_eq_false', Bool.not_eq_true, Bool.not_eq_false, Bool.true_eq_false, Bool.false_eq_true, Int.not_lt, Int.not_le, not_and, not_or, ne_eq] at hc)
  · have h1 : i < l.length := by omega
    have h2 : i < 50 := by omega
    have hpm : l.getD i default ∈ l := by simp [h1]
    have hsn := take_snd h1
    have h48 := hok _ hpm
    haveI : Rd [base W] (pcV (l.getD i default)) (mrow by8 5 (l.getD i default).2) := hrd _ hpm
    refine r_skip ?_
    refine c_code ?_
    refine r_seq ?_
    refine r_block ?_
    refine r_seq ?_
    refine r_region (id := 8) ?_
    refine o_give (g_move (evv rfl)) rfl rfl ?_
    refine o_give (g_move (evv rfl)) rfl rfl ?_
    refine o_give (g_idxMN (evv rfl) (evv rfl) (by rfl) (by first | omega | (have := of_decide_eq_true hg; omega) | (simp at hg; omega) | (simp only [List.length_set, List.length_append, List.length_cons, List.length_nil, List.length_map, List.length_take, List.length_drop, List.length_replicate]; omega))) rfl rfl ?_
    refine o_give (g_loadM (evv rfl) (by rfl) (by first | omega | (have := of_decide_eq_true hg; omega) | (simp at hg; omega) | (simp only [List.length_set, List.length_append, List.length_cons, List.length_nil, List.length_map, List.length_take, List.length_drop, List.length_replicate]; omega))) rfl rfl ?_
    (refine o_call rfl _ (Ent.refl _) (Frame_c _ _ _ (by first | assumption | omega)) rfl ?_; rintro _ _ ⟨ff, rfl, rfl⟩)
    refine o_give (g_move (evv rfl)) rfl rfl ?_
    refine o_give (g_extract (evv rfl) (by rfl)) rfl rfl ?_
    refine o_give (g_extract (evv rfl) (by rfl)) rfl rfl ?_
    refine o_give (g_assign (evv rfl)) rfl rfl ?_
    refine o_give (g_assign (evv rfl)) rfl rfl ?_
    refine o_nil ?_
    refine c_code ?_
    refine r_seq ?_
    refine r_seq ?_
    refine r_region (id := 9) ?_
    refine o_give (g_move (evv rfl)) rfl rfl ?_
    refine o_give (g_bin (evv rfl) (evv rfl) (by rfl)) rfl rfl ?_
    refine o_nil ?_
    refine c_code ?_
    by_cases hl2 : 262144 < (l.getD i default).2.length
    · rw [show frR (l.getD i default).2 = ([], 2) from if_pos hl2]
      refine r_cond rfl (fun he => ?_) (fun he => ?_) <;> (try simp only [decide_eq_true_eq, decide_eq_false_iff_not, Bool.and_eq_true, Bool.or_eq_true, Bool.not_eq_true', Bool.and_eq_false_iff, Bool.or_eq_false_iff, Bool.not_eq_false', Bool.not_eq_true, Bool.not_eq_false, Bool.true_eq_false, Bool.false_eq_true, Int.not_lt, Int.not_le, not_and, not_or, ne_eq] at he)
      · refine r_seq ?_
        refine r_region (id := 10) ?_
        refine o_give (g_move (evv rfl)) rfl rfl ?_
        refine o_give (g_bin (evv rfl) (evv rfl) (by rfl)) rfl rfl ?_
        refine o_give (g_move (evv rfl)) rfl rfl ?_
        refine o_gyes rfl ?_
        refine o_give (g_move (evv rfl)) rfl rfl ?_
        refine o_gyes rfl ?_
        refine o_give (g_move (evv rfl)) rfl rfl ?_
        refine o_gyes rfl ?_
        refine o_give (g_idxMN (evv rfl) (evv rfl) (by rfl) (by first | omega | (have := of_decide_eq_true hg; omega) | (simp at hg; omega) | (simp only [List.length_set, List.length_append, List.length_cons, List.length_nil, List.length_map, List.length_take, List.length_drop, List.length_replicate]; omega))) rfl rfl ?_
        refine o_gyes rfl ?_
        refine o_give (g_loadM (evv rfl) (by rfl) (by first | omega | (have := of_decide_eq_true hg; omega) | (simp at hg; omega) | (simp only [List.length_set, List.length_append, List.length_cons, List.length_nil, List.length_map, List.length_take, List.length_drop, List.length_replicate]; omega))) rfl rfl ?_
        refine o_gyes rfl ?_
        refine o_give (g_lenM (evv rfl)) rfl rfl ?_
        refine o_gyes rfl ?_
        refine o_give (g_bin (evv rfl) (evv rfl) (by rfl)) rfl rfl ?_
        refine o_give (g_pick (b := true) (evv rfl) (fun _ => (evv rfl)) (fun h => by cases h)) rfl rfl ?_
        refine o_give (g_assign (evv rfl)) rfl rfl ?_
        refine o_nil ?_
        refine c_code ?_
        first | refine r_ret (rs := [.tmp 4]) rfl rfl _ ((Lay.ent (L' := [base W]))) ?_ | refine c_end (rs := [.tmp 4]) rfl rfl _ ((Lay.ent (L' := [base W]))) ?_
        refine ⟨bool_eq ?_, rfl⟩
        exact decide_eq_true (by omega)
      · exact absurd he (by decide)
    · rw [show frR (l.getD i default).2 = (frameB (l.getD i default).2, 0) from if_neg hl2]
      have hfl2 := frame_len (l.getD i default).2
      have hsn2 : fr ((l.take (i + 1)).map (·.2)) = fr ((l.take i).map (·.2)) ++ frameB (l.getD i default).2 := by rw [hsn, fr_snoc]
      have hse : endsR ((l.take (i + 1)).map (·.2)) = endsR ((l.take i).map (·.2)) ++ [((fr ((l.take i).map (·.2)) ++ frameB (l.getD i default).2).length : Int)] := by rw [hsn, ends_snoc, fr_snoc]
      refine r_cond rfl (fun he => ?_) (fun he => ?_) <;> (try simp only [decide_eq_true_eq, decide_eq_false_iff_not, Bool.and_eq_true, Bool.or_eq_true, Bool.not_eq_true', Bool.and_eq_false_iff, Bool.or_eq_false_iff, Bool.not_eq_false', Bool.not_eq_true, Bool.not_eq_false, Bool.true_eq_false, Bool.false_eq_true, Int.not_lt, Int.not_le, not_and, not_or, ne_eq] at he)
      · exact absurd he (by decide)
      · refine r_skip ?_
        refine c_code ?_
        refine r_seq ?_
        refine r_region (id := 11) ?_
        refine o_give (g_move (evv rfl)) rfl rfl ?_
        refine o_give (g_move (evv rfl)) rfl rfl ?_
        refine o_appM (evv rfl) (evv rfl) (by rfl) (by rfl) (by rfl) (by (try simp only [bsOf, List.length_append, List.length_cons, List.length_nil]); omega) rfl (fun _ => ?_)
        refine o_give (g_assign (evv rfl)) rfl rfl ?_
        refine o_nil ?_
        refine c_code ?_
        refine r_region (id := 12) ?_
        refine o_give (g_move (evv rfl)) rfl rfl ?_
        refine o_give (g_move (evv rfl)) rfl rfl ?_
        refine o_give (g_lenM (evv rfl)) rfl rfl ?_
        refine o_litI rfl (by rfl) rfl (fun _ => ?_)
        refine o_appM (evv rfl) (evv rfl) (by rfl) (by rfl) (by rfl) (by (try simp only [bsOf, List.length_append, List.length_cons, List.length_nil]); omega) rfl (fun _ => ?_)
        refine o_give (g_assign (evv rfl)) rfl rfl ?_
        refine o_nil ?_
        refine c_blk ?_
        refine c_code ?_
        rename_i a2 lit e2
        refine r_region (id := 7) ?_
        refine o_give (g_move (evv rfl)) rfl rfl ?_
        refine o_giveN (g_bin (evv rfl) (evv rfl) (by rfl)) (by simp only [inR]; omega) rfl ?_
        refine o_give (g_assign (evv rfl)) rfl rfl ?_
        refine o_nil ?_
        refine c_loop (i + 1, a2, e2) ?_ ?_ (by repeat (first | exact trivial | refine ⟨rfl, ?_⟩ | refine envsub_v rfl (by first | rfl | (refine int_eq ?_; first | omega | (simp; omega) | (simp; done)) | (refine bool_eq ?_; first | (simp [*]; done) | (simp; done)) | (refine str_eq ?_; simp; done) | (refine ptr_eq ?_; omega) | fail) ?_)) ?_ <;> (try dsimp only)
        · refine ⟨by omega, by omega, fun p hp => ?_⟩
          rw [hsn] at hp
          rcases List.mem_append.1 hp with hp | hp
          · exact hps p hp
          · rw [List.mem_singleton.1 hp]; omega
        · omega
        · rw [hsn2, hse]
          exact Lay.ent
  · have hk0 : 0 ≤ cut % 18446744073709551616 % (((fr ((l.take i).map (·.2))).length : Int) + 1) := Int.emod_nonneg _ (by omega)
    have hk1 : cut % 18446744073709551616 % (((fr ((l.take i).map (·.2))).length : Int) + 1) < ((fr ((l.take i).map (·.2))).length : Int) + 1 := Int.emod_lt_of_pos _ (by omega)
    obtain ⟨k, hk⟩ := Int.eq_ofNat_of_zero_le hk0
    refine r_exit rfl ?_
    refine c_code ?_
    refine r_seq ?_
    refine r_region (id := 13) ?_
    refine o_give (g_move (evv rfl)) rfl rfl ?_
    refine o_giveU (g_conv TyU.h TyU.h (evv rfl)) (by rfl) rfl ?_
    refine o_give (g_move (evv rfl)) rfl rfl ?_
    refine o_give (g_lenM (evv rfl)) rfl rfl ?_
    refine o_giveN (g_bin (evv rfl) (evv rfl) (by rfl)) (by simp only [inR]; omega) rfl ?_
    refine o_giveN (g_conv TyU.h TyU.h (evv rfl)) (by simp only [inR]; omega) rfl ?_
    refine o_give (g_remP (evv rfl) (evv rfl) (by omega) (by omega)) rfl rfl ?_
    refine o_giveN (g_conv TyU.h TyU.h (evv rfl)) (by simp only [inR]; omega) rfl ?_
    refine o_give (g_assign (evv rfl)) rfl rfl ?_
    refine o_nil ?_
    refine c_code ?_
    refine r_seq ?_
    refine r_region (id := 14) ?_
    refine o_give (g_assign (evv rfl)) rfl rfl ?_
    refine o_nil ?_
    refine c_code ?_
    refine r_seq ?_
    refine r_region (id := 15) ?_
    refine o_give (g_assign (evv rfl)) rfl rfl ?_
    refine o_nil ?_
    refine c_code ?_
    refine r_seq ?_
    refine r_block ?_
    rw [hk] at hk1 ⊢
    generalize hP : (l.take i).map (·.2) = ps at *
    refine r_loopE (σ := Nat) (fun n => n ≤ torn ps k) (fun n => torn ps k - n) (fun n => [(11, .v (.int .i64 n)), (12, .v (.int .i64 ((fr (ps.take n)).length : Int)))]) [0, 5, 6, 10] (fun n => sl a (mrow by8 5 (fr ps)) :: sl e (mrow i64v 3 (endsR ps)) :: [base W]) 0 (by dsimp only [pickE, pick1, lk2, Nat.reduceBEq, Nat.reduceAdd, Nat.zero_add, cond_true, cond_false] <;> exact rfl) ?_ (by repeat (first | exact trivial | refine ⟨rfl, ?_⟩ | refine envsub_v rfl (by first | rfl | (refine int_eq ?_; first | omega | (simp; omega) | (simp; done)) | (refine bool_eq ?_; first | (simp [*]; done) | (simp; done)) | (refine str_eq ?_; simp; done) | (refine ptr_eq ?_; omega) | fail) ?_)) ?_ ?_
    · exact Nat.zero_le _
    · exact Ent.refl _
    rintro n hn; (try dsimp only at hn); dsimp only [List.cons_append, List.nil_append]
    have htl := torn_le ps k
    have hit := @torn_iff ps k n
    have hea := @ends_at ps n
    refine r_seq ?_
    refine r_seq ?_
    refine r_region (id := 16) ?_
    refine o_give (g_move (evv rfl)) rfl rfl ?_
    refine o_give (g_move (evv rfl)) rfl rfl ?_
    refine o_give (g_lenM (evv rfl)) rfl rfl ?_
    refine o_give (g_bin (evv rfl) (evv rfl) (by rfl)) rfl rfl ?_
    refine o_give (g_move (evv rfl)) rfl rfl ?_
    refine o_lazy rfl (fun hg => g_move (by first | exact evv rfl | exact evg rfl (by rw [hp]; rfl) | exact evg rfl hp | exact evg rfl hg | exact evg rfl (by first | (simp_all; done) | (simp [*]; done) | fail) | fail)) rfl rfl ?_
    refine o_lazy rfl (fun hg => g_move (by first | exact evv rfl | exact evg rfl (by rw [hp]; rfl) | exact evg rfl hp | exact evg rfl hg | exact evg rfl (by first | (simp_all; done) | (simp [*]; done) | fail) | fail)) rfl rfl ?_
    refine o_lazy rfl (fun hg => g_idxMN (evg rfl hg) (evg rfl hg) (by rfl) (by first | omega | (have := of_decide_eq_true hg; omega) | (simp at hg; omega) | (simp only [List.length_set, List.length_append, List.length_cons, List.length_nil, List.length_map, List.length_take, List.length_drop, List.length_replicate]; omega))) rfl rfl ?_
    refine o_lazy rfl (fun hg => g_loadM (evg rfl hg) (by rfl) (by first | omega | (have := of_decide_eq_true hg; omega) | (simp at hg; omega) | (simp only [List.length_set, List.length_append, List.length_cons, List.length_nil, List.length_map, List.length_take, List.length_drop, List.length_replicate]; omega))) rfl rfl ?_
    refine o_lazy rfl (fun hg => g_move (by first | exact evv rfl | exact evg rfl (by rw [hp]; rfl) | exact evg rfl hp | exact evg rfl hg | exact evg rfl (by first | (simp_all; done) | (simp [*]; done) | fail) | fail)) rfl rfl ?_
    refine o_lazy rfl (fun hg => g_bin (by first | exact evv rfl | exact evg rfl (by rw [hp]; rfl) | exact evg rfl hp | exact evg rfl hg | exact evg rfl (by first | (simp_all; done) | (simp [*]; done) | fail) | fail) (by first | exact evv rfl | exact evg rfl (by rw [hp]; rfl) | exact evg rfl hp | exact evg rfl hg | exact evg rfl (by first | (simp_all; done) | (simp [*]; done) | fail) | fail) (by rfl)) rfl rfl ?_
    refine o_give (g_pick_and (evv rfl) (evv rfl) (fun hp => (by first | exact evv rfl | exact evg rfl (by rw [hp]; rfl) | exact evg rfl hp | exact evg rfl hg | exact evg rfl (by first | (simp_all; done) | (simp [*]; done) | fail) | fail))) rfl rfl ?_
    refine o_nil ?_
    refine c_code ?_
    refine r_cond rfl (fun hd => ?_) (fun hd => ?_) <;> (try simp only [decide_eq_true_eq, decide_eq_false_iff_not, Bool.and_eq_true, Bool.or_eq_true, Bool.not_eq_true', Bool.and_eq_false_iff, Bool.or_eq_false_iff, Bool.not_eq_false', Bool.not_eq_true, Bool.not_eq_false, Bool.true_eq_false, Bool.false_eq_true, Int.not_lt, Int.not_le, not_and, not_or, ne_eq] at hd)
    · have g1 : n < ps.length := by omega
      have g2 := hea g1
      have g3 : n < torn ps k := (hit g1).1 (by omega)
      refine r_skip ?_
      refine c_code ?_
      refine r_block ?_
      refine r_seq ?_
      refine r_region (id := 17) ?_
      refine o_give (g_move (evv rfl)) rfl rfl ?_
      refine o_give (g_move (evv rfl)) rfl rfl ?_
      refine o_give (g_idxMN (evv rfl) (evv rfl) (by rfl) (by first | omega | (have := of_decide_eq_true hg; omega) | (simp at hg; omega) | (simp only [List.length_set, List.length_append, List.length_cons, List.length_nil, List.length_map, List.length_take, List.length_drop, List.length_replicate]; omega))) rfl rfl ?_
      refine o_give (g_loadM (evv rfl) (by rfl) (by first | omega | (have := of_decide_eq_true hg; omega) | (simp at hg; omega) | (simp only [List.length_set, List.length_append, List.length_cons, List.length_nil, List.length_map, List.length_take, List.length_drop, List.length_replicate]; omega))) rfl rfl ?_
      refine o_give (g_assign (evv rfl)) rfl rfl ?_
      refine o_nil ?_
      refine c_code ?_
      refine r_region (id := 18) ?_
      refine o_give (g_move (evv rfl)) rfl rfl ?_
      refine o_giveN (g_bin (evv rfl) (evv rfl) (by rfl)) (by simp only [inR]; omega) rfl ?_
      refine o_give (g_assign (evv rfl)) rfl rfl ?_
      refine o_nil ?_
      refine c_blk ?_
      rw [g2]
      refine c_loop (n + 1) ?_ ?_ (by repeat (first | exact trivial | refine ⟨rfl, ?_⟩ | refine envsub_v rfl (by first | rfl | (refine int_eq ?_; first | omega | (simp; omega) | (simp; done)) | (refine bool_eq ?_; first | (simp [*]; done) | (simp; done)) | (refine str_eq ?_; simp; done) | (refine ptr_eq ?_; omega) | fail) ?_)) ?_ <;> (try dsimp only)
      · exact g3
      · omega
      · exact Ent.refl _
    · have g0 : n = torn ps k := by
        by_cases g1 : n < ps.length
        · have g2 := hea g1
          have g3 : ¬ n < torn ps k := fun g => by
            have := (hit g1).2 g
            omega
          omega
        · omega
      have hst := scan_torn (k := k) hps
      rw [← g0] at hst
      have hln : n ≤ l.length := by omega
      have het : List.take (k - 0) (List.drop 0 (fr ps)) = (fr ps).take k := by rw [List.drop_zero, Nat.sub_zero]
      have hkl : (List.take (k - 0) (List.drop 0 (fr ps))).length ≤ 1000000000 := by rw [List.length_take]; omega
      refine r_exit rfl ?_
      refine c_code ?_
      refine r_seq ?_
      refine r_region (id := 19) ?_
      refine o_give (g_move (evv rfl)) rfl rfl ?_
      refine o_give (g_move (evv rfl)) rfl rfl ?_
      refine o_give (g_subM (evv rfl) _ _ bnd_none (bnd_some (evv rfl) rfl) (by rfl) (by omega) (by omega)) rfl rfl ?_
      (refine o_call rfl _ (Ent.refl _) (Scan_c _ _ _ (by first | assumption | omega)) rfl ?_; rintro _ _ ⟨so, rs, rfl, hrs, rfl⟩)
      refine o_give (g_move (evv rfl)) rfl rfl ?_
      refine o_give (g_extract (evv rfl) (by rfl)) rfl rfl ?_
      refine o_give (g_extract (evv rfl) (by rfl)) rfl rfl ?_
      refine o_give (g_assign (evv rfl)) rfl rfl ?_
      refine o_give (g_assign (evv rfl)) rfl rfl ?_
      refine o_nil ?_
      refine c_code ?_
      refine r_seq ?_
      rw [het, hst] at *
      have hLd : ∀ p ∈ List.take (n - 0) (List.drop 0 l), Rd [base W] p.1 (mrow by8 5 p.2) := fun p hp => hrd p (List.mem_of_mem_take (by simpa using hp))
      refine r_region (id := 20) ?_
      refine o_give (g_move (evv rfl)) rfl rfl ?_
      refine o_give (g_move (evv rfl)) rfl rfl ?_
      refine o_give (g_bin (evv rfl) (evv rfl) (by rfl)) rfl rfl ?_
      refine o_give (g_move (evv rfl)) rfl rfl ?_
      refine o_lazy rfl (fun hg => g_move (by first | exact evv rfl | exact evg rfl (by rw [hp]; rfl) | exact evg rfl hp | exact evg rfl hg | exact evg rfl (by first | (simp_all; done) | (simp [*]; done) | fail) | fail)) rfl rfl ?_
      refine o_lazy rfl (fun hg => g_move (by first | exact evv rfl | exact evg rfl (by rw [hp]; rfl) | exact evg rfl hp | exact evg rfl hg | exact evg rfl (by first | (simp_all; done) | (simp [*]; done) | fail) | fail)) rfl rfl ?_
      refine o_lazy rfl (fun hg => g_move (by first | exact evv rfl | exact evg rfl (by rw [hp]; rfl) | exact evg rfl hp | exact evg rfl hg | exact evg rfl (by first | (simp_all; done) | (simp [*]; done) | fail) | fail)) rfl rfl ?_
      refine o_lazy rfl (fun hg => g_subM (by first | exact evv rfl | exact evg rfl (by rw [hp]; rfl) | exact evg rfl hp | exact evg rfl hg | exact evg rfl (by first | (simp_all; done) | (simp [*]; done) | fail) | fail) _ _ bnd_none (bnd_some (by first | exact evv rfl | exact evg rfl (by rw [hp]; rfl) | exact evg rfl hp | exact evg rfl hg | exact evg rfl (by first | (simp_all; done) | (simp [*]; done) | fail) | fail) rfl) (by rfl) (by omega) (by omega)) rfl rfl ?_
      simp only [decide_true]
      refine o_sure (t := 92) rfl rfl ?_
      refine o_sure (t := 95) rfl rfl ?_
      refine o_gyes rfl ?_
      (refine o_call rfl _ (Ent.refl _) (Lists_c _ _ _ _ _ (by first | assumption | (intro p hp; haveI := pcR_in hp; infer_instance) | (intro p hp; haveI := hLd p hp; infer_instance)) (by first | assumption | (intro p hp; haveI := pcR_in hp; infer_instance) | (intro p hp; haveI := hLd p hp; infer_instance))) rfl ?_; rintro _ _ ⟨rfl, hLz⟩; obtain rfl := hLz.symm; clear hLz)
      refine o_give (g_pick (b := true) (evv rfl) (fun _ => (evv rfl)) (fun h => by cases h)) rfl rfl ?_
      refine o_give (g_assign (evv rfl)) rfl rfl ?_
      refine o_nil ?_
      refine c_code ?_
      first | refine r_ret (rs := [.tmp 4]) rfl rfl _ ((Lay.ent (L' := [base W]))) ?_ | refine c_end (rs := [.tmp 4]) rfl rfl _ ((Lay.ent (L' := [base W]))) ?_
      refine ⟨bool_eq ?_, rfl⟩
      refine decide_eq_true ?_
      rw [hrs, ← hP, ← List.map_take, List.take_take, Nat.min_eq_left (by omega), List.drop_zero, Nat.sub_zero]
end VK
