/- awake of layer 19; the rows without lists. Conditions: none. -/
import Derived.Test.YtccpfdhmffciaaaView4
namespace VK
open Go Go.Proofs
set_option linter.unusedSimpArgs false
set_option linter.unusedVariables false
set_option maxRecDepth 100000
set_option maxHeartbeats 40000000
theorem best3 {z : Int} (h : bestP [⟨0, 2, 5⟩, ⟨1, 3, 1⟩, ⟨2, 3, 4⟩] z) : z = 2 :=
  bestP_one h (.inr ⟨2, rfl, by decide, by decide, by decide⟩)
theorem reach3 {z : Int} (h : reachP [5, 9, 7] z) : z = 7 :=
  reachP_one h (.inr ⟨by decide, by decide, by decide, by decide⟩)
theorem awake_c (L : List Atom) : Fn Try.prog 8 [] L fun w L' => w = .bool true ∧ L' = L := by
  have e1 : prim 7 3 = 1 := by decide
  have e2 : quo 5 = 3 := by decide
  have e3 : waitI 2 = 12 := by decide
  have e4 : nextI 7 1 3 = 10 := by decide
  refine fn_intro Try.func8 rfl Try.ntmps8 rfl (fun W0 => ?_)
  simp only [argE]
  refine r_seq ?_
  refine r_region (id := 0) ?_
  refine o_give (g_assign (evv rfl)) rfl rfl ?_
  refine o_nil ?_
  refine c_code ?_
  refine r_seq ?_
  refine r_region (id := 1) ?_
  (refine o_call rfl _ (Ent.refl _) (vPrim_c _ _ _ (by first | assumption | (simp only [inR]; omega)) (by first | assumption | (simp only [inR]; omega))) rfl ?_; rintro _ _ ⟨rfl, hLz⟩; obtain rfl := hLz.symm; clear hLz)
  refine o_give (g_bin (evv rfl) (evv rfl) (by rfl)) rfl rfl ?_
  refine o_give (g_move (evv rfl)) rfl rfl ?_
  refine o_gyes rfl ?_
  (refine o_call rfl _ (Ent.refl _) (vQuo_c _ _ (by first | assumption | (simp only [inR]; omega))) rfl ?_; rintro _ _ ⟨rfl, hLz⟩; obtain rfl := hLz.symm; clear hLz)
  refine o_gyes rfl ?_
  refine o_give (g_bin (evv rfl) (evv rfl) (by rfl)) rfl rfl ?_
  refine o_give (g_pick (b := true) (evv rfl) (fun _ => (evv rfl)) (fun h => by cases h)) rfl rfl ?_
  refine o_give (g_move (evv rfl)) rfl rfl ?_
  refine o_gyes rfl ?_
  (refine o_call rfl _ (Ent.refl _) (vWait_c _ _ (by first | assumption | (simp only [inR]; omega))) rfl ?_; rintro _ _ ⟨rfl, hLz⟩; obtain rfl := hLz.symm; clear hLz)
  refine o_gyes rfl ?_
  refine o_give (g_bin (evv rfl) (evv rfl) (by rfl)) rfl rfl ?_
  refine o_give (g_pick (b := true) (evv rfl) (fun _ => (evv rfl)) (fun h => by cases h)) rfl rfl ?_
  refine o_give (g_move (evv rfl)) rfl rfl ?_
  refine o_gyes rfl ?_
  (refine o_call rfl _ (Ent.refl _) (vNext_c _ _ _ _ (by first | assumption | (simp only [inR]; omega)) (by first | assumption | (simp only [inR]; omega)) (by first | assumption | (simp only [inR]; omega))) rfl ?_; rintro _ _ ⟨rfl, hLz⟩; obtain rfl := hLz.symm; clear hLz)
  refine o_gyes rfl ?_
  refine o_give (g_bin (evv rfl) (evv rfl) (by rfl)) rfl rfl ?_
  refine o_give (g_pick (b := true) (evv rfl) (fun _ => (evv rfl)) (fun h => by cases h)) rfl rfl ?_
  refine o_give (g_move (evv rfl)) rfl rfl ?_
  refine o_gyes rfl ?_
  refine o_give (g_buildC rfl (by rfl)) rfl rfl ?_
  refine o_gyes rfl ?_
  refine o_give (g_buildC rfl (by rfl)) rfl rfl ?_
  refine o_gyes rfl ?_
  refine o_give (g_buildC rfl (by rfl)) rfl rfl ?_
  rw [e1]
  skip
  rw [e2]
  skip
  rw [e3]
  skip
  rw [e4]
  skip
  refine o_gyes rfl ?_
  refine o_lit (vs := [agg (voteSC ⟨0, 2, 5⟩), agg (voteSC ⟨1, 3, 1⟩), agg (voteSC ⟨2, 3, 4⟩)]) (xs := voteSC ⟨0, 2, 5⟩ ++ voteSC ⟨1, 3, 1⟩ ++ voteSC ⟨2, 3, 4⟩) rfl rfl rfl (by intro _ _ _ u hu; simp [voteSC] at hu; rcases hu with rfl | rfl | rfl | rfl | rfl | rfl | rfl | rfl | rfl <;> rfl) rfl rfl rfl fun sv => ?_
  change Ops _ _ _ _ _ (sl sv (frow voteSC 3 31 [⟨0, 2, 5⟩, ⟨1, 3, 1⟩, ⟨2, 3, 4⟩]) :: L)
  refine o_gyes rfl ?_
  (refine o_call rfl _ (Ent.refl _) (Best_c _ _ _) rfl ?_; rintro _ _ ⟨bz, rfl, hLz, hbz⟩; obtain rfl := hLz.symm; clear hLz)
  refine o_gyes rfl ?_
  refine o_give (g_bin (evv rfl) (evv rfl) (by rfl)) rfl rfl ?_
  refine o_give (g_pick (b := true) (evv rfl) (fun _ => (evv rfl)) (fun h => by cases h)) rfl rfl ?_
  refine o_give (g_move (evv rfl)) rfl rfl ?_
  obtain rfl := best3 hbz
  skip
  refine o_gyes rfl ?_
  refine o_litIs (vs := [.int .i64 5, .int .i64 9, .int .i64 7]) rfl rfl rfl rfl rfl rfl rfl fun tv => ?_
  change Ops _ _ _ _ _ (sl tv (mrow i64v 2 [5, 9, 7]) :: _)
  refine o_gyes rfl ?_
  (refine o_call rfl _ (Ent.refl _) (Reached_c _ _ _ (by first | assumption | (simp; done) | (simp; omega))) rfl ?_; rintro _ _ ⟨az, rfl, hLz, haz⟩; obtain rfl := hLz.symm; clear hLz)
  refine o_gyes rfl ?_
  refine o_give (g_bin (evv rfl) (evv rfl) (by rfl)) rfl rfl ?_
  refine o_give (g_pick (b := true) (evv rfl) (fun _ => (evv rfl)) (fun h => by cases h)) rfl rfl ?_
  refine o_give (g_assign (evv rfl)) rfl rfl ?_
  refine o_nil ?_
  refine c_code ?_
  obtain rfl := reach3 haz
  skip
  first | refine r_ret (rs := [.tmp 0]) rfl rfl _ ((Lay.ent (L' := L))) ?_ | refine c_end (rs := [.tmp 0]) rfl rfl _ ((Lay.ent (L' := L))) ?_
  exact ⟨rfl, rfl⟩
theorem ViewLeads_c (L : List Atom) (v n i : Int) (hv : inR .i64 v) (hn : inR .i64 n) (hi : inR .i64 i) : Fn Try.prog 3 [.int .i64 v, .int .i64 n, .int .i64 i] L fun w L' => w = .bool true ∧ L' = L := by
  refine fn_intro Try.func3 rfl Try.ntmps3 rfl (fun W0 => ?_)
  simp only [argE]
  refine r_seq ?_
  refine r_region (id := 0) ?_
  refine o_give (g_assign (evv rfl)) rfl rfl ?_
  refine o_nil ?_
  refine c_code ?_
  refine r_seq ?_
  refine r_region (id := 1) ?_
  (refine o_call rfl _ (Ent.refl _) (awake_c _) rfl ?_; rintro _ _ ⟨rfl, hLz⟩; obtain rfl := hLz.symm; clear hLz)
  refine o_give (g_move (evv rfl)) rfl rfl ?_
  refine o_gyes rfl ?_
  refine o_give (g_move (evv rfl)) rfl rfl ?_
  refine o_gyes rfl ?_
  refine o_give (g_move (evv rfl)) rfl rfl ?_
  refine o_gyes rfl ?_
  (refine o_call rfl _ (Ent.refl _) (vPrim_c _ _ _ (by first | assumption | (simp only [inR]; omega)) (by first | assumption | (simp only [inR]; omega))) rfl ?_; rintro _ _ ⟨rfl, hLz⟩; obtain rfl := hLz.symm; clear hLz)
  refine o_gyes rfl ?_
  refine o_give (g_move (evv rfl)) rfl rfl ?_
  refine o_gyes rfl ?_
  refine o_give (g_move (evv rfl)) rfl rfl ?_
  refine o_gyes rfl ?_
  (refine o_call rfl _ (Ent.refl _) (rPrim_c _ _ _ (by first | assumption | (simp only [inR]; omega)) (by first | assumption | (simp only [inR]; omega))) rfl ?_; rintro _ _ ⟨rfl, hLz⟩; obtain rfl := hLz.symm; clear hLz)
  refine o_gyes rfl ?_
  refine o_give (g_bin (evv rfl) (evv rfl) (by rfl)) rfl rfl ?_
  refine o_give (g_pick (b := true) (evv rfl) (fun _ => (evv rfl)) (fun h => by cases h)) rfl rfl ?_
  refine o_give (g_move (evv rfl)) rfl rfl ?_
  refine o_lazy rfl (fun hg => g_move (by first | exact evv rfl | exact evg rfl (by rw [hp]; rfl) | exact evg rfl hp | exact evg rfl hg | exact evg rfl (by first | (simp_all; done) | (simp [*]; done) | fail) | fail)) rfl rfl ?_
  simp only [decide_true]
  refine o_sure (t := 18) rfl rfl ?_
  refine o_gyes rfl ?_
  (refine o_call rfl _ (Ent.refl _) (vQuo_c _ _ (by first | assumption | (simp only [inR]; omega))) rfl ?_; rintro _ _ ⟨rfl, hLz⟩; obtain rfl := hLz.symm; clear hLz)
  refine o_gyes rfl ?_
  refine o_give (g_move (evv rfl)) rfl rfl ?_
  refine o_gyes rfl ?_
  (refine o_call rfl _ (Ent.refl _) (rQuo_c _ _ (by first | assumption | (simp only [inR]; omega))) rfl ?_; rintro _ _ ⟨rfl, hLz⟩; obtain rfl := hLz.symm; clear hLz)
  refine o_gyes rfl ?_
  refine o_give (g_bin (evv rfl) (evv rfl) (by rfl)) rfl rfl ?_
  refine o_give (g_pick (b := true) (evv rfl) (fun _ => (evv rfl)) (fun h => by cases h)) rfl rfl ?_
  refine o_give (g_move (evv rfl)) rfl rfl ?_
  refine o_lazy rfl (fun hg => g_move (by first | exact evv rfl | exact evg rfl (by rw [hp]; rfl) | exact evg rfl hp | exact evg rfl hg | exact evg rfl (by first | (simp_all; done) | (simp [*]; done) | fail) | fail)) rfl rfl ?_
  simp only [decide_true]
  refine o_sure (t := 25) rfl rfl ?_
  refine o_gyes rfl ?_
  (refine o_call rfl _ (Ent.refl _) (vWait_c _ _ (by first | assumption | (simp only [inR]; omega))) rfl ?_; rintro _ _ ⟨rfl, hLz⟩; obtain rfl := hLz.symm; clear hLz)
  refine o_gyes rfl ?_
  refine o_give (g_move (evv rfl)) rfl rfl ?_
  refine o_gyes rfl ?_
  (refine o_call rfl _ (Ent.refl _) (rWait_c _ _ (by first | assumption | (simp only [inR]; omega))) rfl ?_; rintro _ _ ⟨rfl, hLz⟩; obtain rfl := hLz.symm; clear hLz)
  refine o_gyes rfl ?_
  refine o_give (g_bin (evv rfl) (evv rfl) (by rfl)) rfl rfl ?_
  refine o_give (g_pick (b := true) (evv rfl) (fun _ => (evv rfl)) (fun h => by cases h)) rfl rfl ?_
  refine o_give (g_assign (evv rfl)) rfl rfl ?_
  refine o_nil ?_
  refine c_code ?_
  simp only [decide_true]
  first | refine r_ret (rs := [.tmp 6]) rfl rfl _ (Ent.refl _) ?_ | refine c_end (rs := [.tmp 6]) rfl rfl _ (Ent.refl _) ?_
  exact ⟨rfl, rfl⟩
/-- does a replica lead one of the views from v + 1 to v + m? -/
def leadsB (v m i n : Int) : Bool := (List.range (min m 1000).toNat).any (fun k => decide (prim (v + (k + 1)) n = i))
theorem leadsB_yes {v m i n : Int} (k : Nat) (hk : (k : Int) + 1 ≤ m) (hk' : k + 1 ≤ 1000) (h : prim (v + (k + 1)) n = i) : leadsB v m i n = true := by
  unfold leadsB
  rw [List.any_eq_true]
  exact ⟨k, by rw [List.mem_range]; omega, by simpa using h⟩
theorem leadsB_no {v m i n : Int} (h : ∀ k : Nat, (k : Int) + 1 ≤ m → k + 1 ≤ 1000 → prim (v + (k + 1)) n ≠ i) : leadsB v m i n = false := by
  unfold leadsB
  rw [List.any_eq_false]
  intro k hk
  rw [List.mem_range] at hk
  simpa using h k (by omega) (by omega)
theorem leads_c (L : List Atom) (v m i n : Int) (hv : 0 ≤ v ∧ v ≤ 1099511627776) (hm : inR .i64 m) (hn : inR .i64 n) (hi : inR .i64 i) : Fn Try.prog 16 [.int .i64 v, .int .i64 m, .int .i64 i, .int .i64 n] L fun w L' => w = .bool (leadsB v m i n) ∧ L' = L := by
  simp only [inR] at hm hn hi
  refine fn_intro Try.func16 rfl Try.ntmps16 rfl (fun W0 => ?_)
  simp only [argE]
  refine r_seq ?_
  refine r_region (id := 0) ?_
  refine o_give (g_assign (evv rfl)) rfl rfl ?_
  refine o_nil ?_
  refine c_code ?_
  refine r_seq ?_
  refine r_seq ?_
  refine r_region (id := 1) ?_
  refine o_give (g_assign (evv rfl)) rfl rfl ?_
  refine o_nil ?_
  refine c_code ?_
  refine r_block ?_
  refine r_loopE (σ := Nat) (fun k => (k ≤ 1000 ∧ ∀ j < k, prim (v + ((j : Int) + 1)) n ≠ i)) (fun k => 1000 - k) (fun k => [(9, .v (.int .i64 ((k : Int) + 1)))]) [0, 1, 2, 3] (fun k => L) 0 (by dsimp only [pickE, pick1, lk2, Nat.reduceBEq, Nat.reduceAdd, Nat.zero_add, cond_true, cond_false] <;> exact rfl) ?_ (by repeat (first | exact trivial | refine ⟨rfl, ?_⟩ | refine envsub_v rfl (by first | rfl | (refine int_eq ?_; first | omega | (simp; omega) | (simp; done)) | (refine bool_eq ?_; first | (simp [*]; done) | (simp; done)) | (refine str_eq ?_; simp; done) | (refine ptr_eq ?_; omega) | fail) ?_)) ?_ ?_
  · exact ⟨Nat.zero_le _, fun j hj => absurd hj (Nat.not_lt_zero j)⟩
  · exact Ent.refl _
  rintro k ⟨hk, hj⟩; dsimp only [List.cons_append, List.nil_append]
  refine r_seq ?_
  refine r_seq ?_
  refine r_region (id := 2) ?_
  refine o_give (g_move (evv rfl)) rfl rfl ?_
  refine o_give (g_move (evv rfl)) rfl rfl ?_
  refine o_give (g_bin (evv rfl) (evv rfl) (by rfl)) rfl rfl ?_
  refine o_give (g_move (evv rfl)) rfl rfl ?_
  refine o_lazy rfl (fun hg => g_move (by first | exact evv rfl | exact evg rfl (by rw [hp]; rfl) | exact evg rfl hp | exact evg rfl hg | exact evg rfl (by first | (simp_all; done) | (simp [*]; done) | fail) | fail)) rfl rfl ?_
  refine o_lazy rfl (fun hg => g_bin (by first | exact evv rfl | exact evg rfl (by rw [hp]; rfl) | exact evg rfl hp | exact evg rfl hg | exact evg rfl (by first | (simp_all; done) | (simp [*]; done) | fail) | fail) (by first | exact evv rfl | exact evg rfl (by rw [hp]; rfl) | exact evg rfl hp | exact evg rfl hg | exact evg rfl (by first | (simp_all; done) | (simp [*]; done) | fail) | fail) (by rfl)) rfl rfl ?_
  refine o_give (g_pick_and (evv rfl) (evv rfl) (fun hp => (by first | exact evv rfl | exact evg rfl (by rw [hp]; rfl) | exact evg rfl hp | exact evg rfl hg | exact evg rfl (by first | (simp_all; done) | (simp [*]; done) | fail) | fail))) rfl rfl ?_
  refine o_nil ?_
  refine c_code ?_
  refine r_cond rfl (fun hc => ?_) (fun hc => ?_) <;> (try simp only [decide_eq_true_eq, decide_eq_false_iff_not, Bool.and_eq_true, Bool.or_eq_true, Bool.not_eq_true', Bool.and_eq_false_iff, Bool.or_eq_false_iff, Bool.not_eq_false', Bool.not_eq_true, Bool.not_eq_false, Bool.true_eq_false, Bool.false_eq_true, Int.not_lt, Int.not_le, not_and, not_or, ne_eq] at hc)
  · refine r_skip ?_
    refine c_code ?_
    refine r_seq ?_
    refine r_block ?_
    refine r_seq ?_
    refine r_region (id := 4) ?_
    refine o_give (g_move (evv rfl)) rfl rfl ?_
    refine o_give (g_move (evv rfl)) rfl rfl ?_
    refine o_giveN (g_bin (evv rfl) (evv rfl) (by rfl)) (by simp only [inR]; omega) rfl ?_
    refine o_give (g_move (evv rfl)) rfl rfl ?_
    (refine o_call rfl _ (Ent.refl _) (rPrim_c _ _ _ (by first | assumption | (simp only [inR]; omega)) (by first | assumption | (simp only [inR]; omega))) rfl ?_; rintro _ _ ⟨rfl, hLz⟩; obtain rfl := hLz.symm; clear hLz)
    refine o_give (g_move (evv rfl)) rfl rfl ?_
    refine o_give (g_bin (evv rfl) (evv rfl) (by rfl)) rfl rfl ?_
    refine o_nil ?_
    refine c_code ?_
    refine r_cond rfl (fun hd => ?_) (fun hd => ?_) <;> (try simp only [decide_eq_true_eq, decide_eq_false_iff_not, Bool.and_eq_true, Bool.or_eq_true, Bool.not_eq_true', Bool.and_eq_false_iff, Bool.or_eq_false_iff, Bool.not_eq_false', Bool.not_eq_true, Bool.not_eq_false, Bool.true_eq_false, Bool.false_eq_true, Int.not_lt, Int.not_le, not_and, not_or, ne_eq] at hd)
    · refine r_seq ?_
      refine r_region (id := 5) ?_
      refine o_give (g_assign (evv rfl)) rfl rfl ?_
      refine o_nil ?_
      refine c_code ?_
      first | refine r_ret (rs := [.tmp 8]) rfl rfl _ (Ent.refl _) ?_ | refine c_end (rs := [.tmp 8]) rfl rfl _ (Ent.refl _) ?_
      exact ⟨bool_eq (leadsB_yes k (by omega) (by omega) hd).symm, rfl⟩
    · refine r_skip ?_
      refine c_blk ?_
      refine c_code ?_
      refine r_region (id := 3) ?_
      refine o_give (g_move (evv rfl)) rfl rfl ?_
      refine o_giveN (g_bin (evv rfl) (evv rfl) (by rfl)) (by simp only [inR]; omega) rfl ?_
      refine o_give (g_assign (evv rfl)) rfl rfl ?_
      refine o_nil ?_
      refine c_loop (k + 1) ?_ ?_ (by repeat (first | exact trivial | refine ⟨rfl, ?_⟩ | refine envsub_v rfl (by first | rfl | (refine int_eq ?_; first | omega | (simp; omega) | (simp; done)) | (refine bool_eq ?_; first | (simp [*]; done) | (simp; done)) | (refine str_eq ?_; simp; done) | (refine ptr_eq ?_; omega) | fail) ?_)) ?_ <;> (try dsimp only)
      · refine ⟨by omega, fun j hjk => ?_⟩
        by_cases e : j = k
        · subst e; exact hd
        · exact hj j (by omega)
      · omega
      · exact Ent.refl _
  · refine r_exit rfl ?_
    refine c_code ?_
    refine r_seq ?_
    refine r_region (id := 6) ?_
    refine o_give (g_assign (evv rfl)) rfl rfl ?_
    refine o_nil ?_
    refine c_code ?_
    first | refine r_ret (rs := [.tmp 8]) rfl rfl _ (Ent.refl _) ?_ | refine c_end (rs := [.tmp 8]) rfl rfl _ (Ent.refl _) ?_
    exact ⟨bool_eq (leadsB_no fun j h1 h2 => hj j (by omega)).symm, rfl⟩
end VK
