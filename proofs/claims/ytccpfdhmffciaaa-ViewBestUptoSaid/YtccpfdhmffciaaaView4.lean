/- What most have reached: the code's and the reference's. Conditions: few elements. -/
import Derived.Test.YtccpfdhmffciaaaView3
namespace VK
open Go Go.Proofs
set_option linter.unusedSimpArgs false
set_option linter.unusedVariables false
set_option maxRecDepth 100000
set_option maxHeartbeats 40000000
/-! ### plain -/
def cntGe (l : List Int) (z : Int) : Nat := l.countP (fun x => decide (z ≤ x))
def cntGt (l : List Int) (z : Int) : Nat := l.countP (fun x => decide (z < x))
def reachP (l : List Int) (z : Int) : Prop := (l = [] ∧ z = 0) ∨ (l ≠ [] ∧ z ∈ l ∧ quo l.length ≤ cntGe l z ∧ (cntGt l z : Int) < quo l.length)
theorem cnt_mono {l : List Int} {y z : Int} (h : y < z) : cntGe l z ≤ cntGt l y := by
  unfold cntGe cntGt
  exact List.countP_mono_left (fun x _ hx => by simp at hx ⊢; omega)
theorem reachP_one {l : List Int} {y z : Int} (hy : reachP l y) (hz : reachP l z) : y = z := by
  rcases hy with ⟨h1, rfl⟩ | ⟨h1, h2, h3, h4⟩
  · rcases hz with ⟨_, rfl⟩ | ⟨h, _⟩
    · rfl
    · exact absurd h1 h
  · rcases hz with ⟨h, _⟩ | ⟨_, g2, g3, g4⟩
    · exact absurd h h1
    · rcases Int.lt_trichotomy y z with h | h | h
      · have := cnt_mono (l := l) h; omega
      · exact h
      · have := cnt_mono (l := l) h; omega
theorem sortZ_perm (l : List Int) : (sortZ l).Perm l := List.mergeSort_perm l _
theorem sortZ_pair (l : List Int) : (sortZ l).Pairwise (fun a b => a ≤ b) := by
  have := List.pairwise_mergeSort (le := fun x y : Int => decide (x ≤ y)) (fun a b c h1 h2 => by simp at h1 h2 ⊢; omega) (fun a b => by simp; omega) l
  exact this.imp (fun h => by simpa using h)
theorem quo_le {n : Nat} (h : 1 ≤ n) : 1 ≤ quo n ∧ quo n ≤ n := by unfold quo; rw [if_neg (by omega)]; omega
theorem reach_sort {l : List Int} (h : l ≠ []) : reachP l ((sortZ l).getD (l.length - (quo l.length).toNat) default) := by
  have hpos : 1 ≤ l.length := List.length_pos_iff.2 h
  obtain ⟨q1, q2⟩ := quo_le hpos
  have hlen := sortZ_len l
  have hp := sortZ_perm l
  have hs := sortZ_pair l
  obtain ⟨q, hq⟩ : ∃ q : Nat, (quo l.length) = q := ⟨(quo l.length).toNat, by omega⟩
  rw [hq]
  simp only [Int.toNat_natCast]
  have hi : l.length - q < (sortZ l).length := by omega
  have hg : (sortZ l).getD (l.length - q) default = (sortZ l)[l.length - q] := by simp [List.getD_eq_getElem?_getD, hi]
  rw [hg]
  refine .inr ⟨h, hp.mem_iff.1 (List.getElem_mem hi), ?_, ?_⟩
  · rw [hq]
    have e : cntGe l (sortZ l)[l.length - q] = cntGe (sortZ l) (sortZ l)[l.length - q] := (hp.countP_eq _).symm
    rw [e]
    have h1 : ((sortZ l).drop (l.length - q)).countP (fun x => decide ((sortZ l)[l.length - q] ≤ x)) = ((sortZ l).drop (l.length - q)).length := by
      rw [List.countP_eq_length]
      intro x hx
      obtain ⟨j, hj, rfl⟩ := List.getElem_of_mem hx
      rw [List.getElem_drop]
      simp only [decide_eq_true_eq]
      rw [List.length_drop] at hj
      by_cases hj0 : j = 0
      · subst hj0; simp
      · exact List.pairwise_iff_getElem.1 hs _ _ hi (by omega) (by omega)
    have h2 : ((sortZ l).drop (l.length - q)).countP (fun x => decide ((sortZ l)[l.length - q] ≤ x)) ≤ cntGe (sortZ l) (sortZ l)[l.length - q] := (List.drop_sublist _ _).countP_le
    rw [h1, List.length_drop] at h2
    omega
  · rw [hq]
    have e : cntGt l (sortZ l)[l.length - q] = cntGt (sortZ l) (sortZ l)[l.length - q] := (hp.countP_eq _).symm
    rw [e]
    have h0 : cntGt (sortZ l) (sortZ l)[l.length - q] = ((sortZ l).take (l.length - q + 1)).countP (fun x => decide ((sortZ l)[l.length - q] < x)) + ((sortZ l).drop (l.length - q + 1)).countP (fun x => decide ((sortZ l)[l.length - q] < x)) := by
      rw [← List.countP_append, List.take_append_drop]; rfl
    have h1 : ((sortZ l).take (l.length - q + 1)).countP (fun x => decide ((sortZ l)[l.length - q] < x)) = 0 := by
      rw [List.countP_eq_zero]
      intro x hx
      obtain ⟨j, hj, rfl⟩ := List.getElem_of_mem hx
      rw [List.getElem_take]
      rw [List.length_take] at hj
      simp only [decide_eq_true_eq, Int.not_lt]
      by_cases hj0 : j = l.length - q
      · subst hj0; simp
      · exact List.pairwise_iff_getElem.1 hs _ _ (by omega) hi (by omega)
    have h2 := List.countP_le_length (p := fun x => decide ((sortZ l)[l.length - q] < x)) (l := (sortZ l).drop (l.length - q + 1))
    rw [List.length_drop] at h2
    omega
theorem reach_ex (l : List Int) : ∃ z, reachP l z := by
  by_cases h : l = []
  · exact ⟨0, .inl ⟨h, rfl⟩⟩
  · exact ⟨_, reach_sort h⟩
theorem scan_yes {l : List Int} {f : Bool} {z : Int} {i : Nat} (hil : i < l.length)
    (ht : f = true → z ∈ l ∧ quo l.length ≤ cntGe l z ∧ ∀ j < i, quo l.length ≤ cntGe l (l.getD j default) → l.getD j default ≤ z)
    (hf : f = false → z = 0 ∧ ∀ j < i, ¬ quo l.length ≤ cntGe l (l.getD j default))
    (hb : quo l.length ≤ cntGe l (l.getD i default) ∧ (f = false ∨ z < l.getD i default)) :
    l.getD i default ∈ l ∧ quo l.length ≤ cntGe l (l.getD i default) ∧ ∀ j < i + 1, quo l.length ≤ cntGe l (l.getD j default) → l.getD j default ≤ l.getD i default := by
  refine ⟨?_, hb.1, ?_⟩
  · have e : l.getD i default = l[i] := by simp [List.getD_eq_getElem?_getD, hil]
    rw [e]; exact List.getElem_mem hil
  · intro j hj hq
    by_cases h : j = i
    · rw [h]; exact Int.le_refl _
    · cases f with
      | false => exact absurd hq ((hf rfl).2 j (by omega))
      | true =>
        have h1 := (ht rfl).2.2 j (by omega) hq
        rcases hb.2 with h2 | h2
        · cases h2
        · omega
theorem scan_no {l : List Int} {f : Bool} {z : Int} {i : Nat}
    (ht : f = true → z ∈ l ∧ quo l.length ≤ cntGe l z ∧ ∀ j < i, quo l.length ≤ cntGe l (l.getD j default) → l.getD j default ≤ z)
    (hf : f = false → z = 0 ∧ ∀ j < i, ¬ quo l.length ≤ cntGe l (l.getD j default))
    (hb : (cntGe l (l.getD i default) : Int) < quo l.length ∨ f = true ∧ l.getD i default ≤ z) :
    (f = true → z ∈ l ∧ quo l.length ≤ cntGe l z ∧ ∀ j < i + 1, quo l.length ≤ cntGe l (l.getD j default) → l.getD j default ≤ z) ∧
    (f = false → z = 0 ∧ ∀ j < i + 1, ¬ quo l.length ≤ cntGe l (l.getD j default)) := by
  refine ⟨fun h => ⟨(ht h).1, (ht h).2.1, fun j hj hq => ?_⟩, fun h => ⟨(hf h).1, fun j hj hq => ?_⟩⟩
  · by_cases e : j = i
    · subst e; rcases hb with h1 | h1
      · omega
      · exact h1.2
    · exact (ht h).2.2 j (by omega) hq
  · by_cases e : j = i
    · subst e; rcases hb with h1 | h1
      · omega
      · rw [h] at h1; exact absurd h1.1 (by decide)
    · exact (hf h).2 j (by omega) hq
theorem reach_scan {l : List Int} {f : Bool} {z z0 : Int} (h0 : reachP l z0)
    (ht : f = true → z ∈ l ∧ quo l.length ≤ cntGe l z ∧ ∀ j < l.length, quo l.length ≤ cntGe l (l.getD j default) → l.getD j default ≤ z)
    (hf : f = false → z = 0 ∧ ∀ j < l.length, ¬ quo l.length ≤ cntGe l (l.getD j default)) : z = z0 := by
  rcases h0 with ⟨h1, rfl⟩ | ⟨h1, h2, h3, h4⟩
  · subst h1
    cases f with
    | false => exact (hf rfl).1
    | true => exact absurd (ht rfl).1 (by simp)
  · obtain ⟨j, hj, rfl⟩ := List.getElem_of_mem h2
    have e : l.getD j default = l[j] := by simp [List.getD_eq_getElem?_getD, hj]
    cases f with
    | false => exact absurd h3 (by have := (hf rfl).2 j hj; rw [e] at this; exact this)
    | true =>
      obtain ⟨g1, g2, g3⟩ := ht rfl
      have := g3 j hj; rw [e] at this
      have h5 := this h3
      rcases Int.lt_or_le l[j] z with h | h
      · have := cnt_mono (l := l) h; omega
      · omega
/-! ### walks -/
theorem Values_c (F : List Atom) (v : Value) (xs : List Int) [rd : Rd F v (mrow i64v 2 xs)] : Fn Try.prog 25 [v] F fun w L' => ∃ b, w = .func (.func 31) #[] #[.pointer (some ⟨b, 0, none⟩)] ∧ L' = blk b ⟨[v], 34⟩ :: F := by
  refine fn_intro Try.func25 rfl Try.ntmps25 rfl (fun W0 => ?_)
  simp only [argE]
  refine r_seq ?_
  refine r_region (id := 0) ?_
  refine o_box1 (evv rfl) rfl (fun _ => ?_)
  refine o_give (g_assign (evv rfl)) rfl rfl ?_
  refine o_nil ?_
  refine c_code ?_
  refine r_seq ?_
  refine r_region (id := 1) ?_
  refine o_give (g_func rfl rfl) rfl rfl ?_
  refine o_give (g_assign (evv rfl)) rfl rfl ?_
  refine o_nil ?_
  refine c_code ?_
  rename_i b
  first | refine r_ret (rs := [.tmp 2]) rfl rfl _ (Ent.refl _) ?_ | refine c_end (rs := [.tmp 2]) rfl rfl _ (Ent.refl _) ?_
  exact ⟨b, rfl, rfl⟩
theorem Collect_c (F : List Atom) (b : Nat) (v : Value) (xs : List Int) (hx : xs.length ≤ 1048576) [rd : Rd F v (mrow i64v 2 xs)] :
    Fn Try.prog 29 [.func (.func 31) #[] #[.pointer (some ⟨b, 0, none⟩)]] (blk b ⟨[v], 34⟩ :: F)
      fun w L' => True ∧ L' = sl w (mrow i64v 2 xs) :: F := by
  refine fn_intro Try.func29 rfl Try.ntmps29 rfl (fun W0 => ?_)
  simp only [argE]
  refine r_seq ?_
  refine r_region (id := 0) ?_
  refine o_give (g_assign (evv rfl)) rfl rfl ?_
  refine o_nil ?_
  refine c_code ?_
  refine r_seq ?_
  refine r_region (id := 1) ?_
  refine o_give (g_move (evv rfl)) rfl rfl ?_
  (refine o_call rfl _ (Ent.refl _) (AppSeq_c _ _ _ _ (by assumption)) rfl ?_; rintro _ _ ⟨_, rfl⟩)
  refine o_give (g_assign (evv rfl)) rfl rfl ?_
  refine o_nil ?_
  refine c_code ?_
  first | refine r_ret (rs := [.tmp 2]) rfl rfl _ (Ent.refl _) ?_ | refine c_end (rs := [.tmp 2]) rfl rfl _ (Ent.refl _) ?_
  exact ⟨trivial, rfl⟩
theorem Sorted_c (F : List Atom) (b : Nat) (v : Value) (xs : List Int) (hx : xs.length ≤ 1048576) [rd : Rd F v (mrow i64v 2 xs)] :
    Fn Try.prog 24 [.func (.func 31) #[] #[.pointer (some ⟨b, 0, none⟩)]] (blk b ⟨[v], 34⟩ :: F)
      fun w L' => True ∧ L' = sl w (mrow i64v 2 (sortZ xs)) :: F := by
  refine fn_intro Try.func24 rfl Try.ntmps24 rfl (fun W0 => ?_)
  simp only [argE]
  refine r_seq ?_
  refine r_region (id := 0) ?_
  refine o_give (g_assign (evv rfl)) rfl rfl ?_
  refine o_nil ?_
  refine c_code ?_
  refine r_seq ?_
  refine r_region (id := 1) ?_
  refine o_give (g_move (evv rfl)) rfl rfl ?_
  (refine o_call rfl _ (Ent.refl _) (Collect_c _ _ _ _ (by assumption)) rfl ?_; rintro _ _ ⟨_, rfl⟩)
  refine o_give (g_assign (evv rfl)) rfl rfl ?_
  refine o_nil ?_
  refine c_code ?_
  refine r_seq ?_
  refine r_region (id := 2) ?_
  refine o_give (g_move (evv rfl)) rfl rfl ?_
  (refine o_call rfl _ (Ent.refl _) (Sort_c _ _ _ (by omega)) rfl ?_; rintro _ _ ⟨rfl, rfl⟩)
  refine o_nil ?_
  refine c_code ?_
  refine r_seq ?_
  refine r_region (id := 3) ?_
  refine o_give (g_move (evv rfl)) rfl rfl ?_
  refine o_give (g_assign (evv rfl)) rfl rfl ?_
  refine o_nil ?_
  refine c_code ?_
  first | refine r_ret (rs := [.tmp 2]) rfl rfl _ (Ent.refl _) ?_ | refine c_end (rs := [.tmp 2]) rfl rfl _ (Ent.refl _) ?_
  exact ⟨trivial, rfl⟩
theorem Reached_c (L : List Atom) (v : Value) (l : List Int) (hx : l.length ≤ 1048576) [rd : Rd L v (mrow i64v 2 l)] : Fn Try.prog 19 [v] L fun w L' => ∃ z : Int, w = .int .i64 z ∧ L' = L ∧ reachP l z := by
  have hlen := sortZ_len l
  refine fn_intro Try.func19 rfl Try.ntmps19 rfl (fun W0 => ?_)
  simp only [argE]
  refine r_seq ?_
  refine r_region (id := 0) ?_
  refine o_give (g_assign (evv rfl)) rfl rfl ?_
  refine o_nil ?_
  refine c_code ?_
  refine r_seq ?_
  refine r_seq ?_
  refine r_region (id := 1) ?_
  refine o_give (g_move (evv rfl)) rfl rfl ?_
  refine o_give (g_lenM (evv rfl)) rfl rfl ?_
  refine o_give (g_bin (evv rfl) (evv rfl) (by rfl)) rfl rfl ?_
  refine o_nil ?_
  refine c_code ?_
  refine r_cond rfl (fun hc => ?_) (fun hc => ?_) <;> (try simp only [decide_eq_true_eq, decide_eq_false_iff_not, Bool.and_eq_true, Bool.or_eq_true, Bool.not_eq_true', Bool.and_eq_false_iff, Bool.or_eq_false_iff, Bool.not_eq_false', Bool.not_eq_true, Bool.not_eq_false, Bool.true_eq_false, Bool.false_eq_true, Int.not_lt, Int.not_le, not_and, not_or, ne_eq] at hc)
  · have hl : l = [] := List.eq_nil_of_length_eq_zero (by omega)
    refine r_seq ?_
    refine r_region (id := 2) ?_
    refine o_give (g_assign (evv rfl)) rfl rfl ?_
    refine o_nil ?_
    refine c_code ?_
    first | refine r_ret (rs := [.tmp 2]) rfl rfl _ (Ent.refl _) ?_ | refine c_end (rs := [.tmp 2]) rfl rfl _ (Ent.refl _) ?_
    exact ⟨_, rfl, rfl, .inl ⟨hl, rfl⟩⟩
  · have hne : l ≠ [] := fun h => by rw [h] at hc; exact hc rfl
    have hpos : 1 ≤ l.length := List.length_pos_iff.2 hne
    obtain ⟨q1, q2⟩ := quo_le hpos
    have hr := reach_sort hne
    rw [← hlen] at q1 q2
    refine r_skip ?_
    refine c_code ?_
    refine r_seq ?_
    refine r_region (id := 3) ?_
    refine o_give (g_move (evv rfl)) rfl rfl ?_
    (refine o_call rfl _ (Ent.refl _) (Values_c _ _ _) rfl ?_; rintro _ _ ⟨vb, rfl, rfl⟩)
    (refine o_call rfl _ (Ent.refl _) (Sorted_c _ _ _ _ (by assumption)) rfl ?_; rintro _ _ ⟨_, rfl⟩)
    refine o_give (g_assign (evv rfl)) rfl rfl ?_
    refine o_nil ?_
    refine c_code ?_
    refine r_seq ?_
    rename_i sv tv
    refine r_region (id := 4) ?_
    refine o_give (g_move (evv rfl)) rfl rfl ?_
    refine o_give (g_move (evv rfl)) rfl rfl ?_
    refine o_give (g_lenM (evv rfl)) rfl rfl ?_
    refine o_give (g_move (evv rfl)) rfl rfl ?_
    refine o_give (g_lenM (evv rfl)) rfl rfl ?_
    (refine o_call rfl _ (Ent.refl _) (vQuo_c _ _ (by first | assumption | (simp only [inR]; omega))) rfl ?_; rintro _ _ ⟨rfl, hLz⟩; obtain rfl := hLz.symm; clear hLz)
    refine o_giveN (g_bin (evv rfl) (evv rfl) (by rfl)) (by simp only [inR]; omega) rfl ?_
    refine o_give (g_idxM (evv rfl) (evv rfl) (by rfl) (by omega) (by first | omega | (have := of_decide_eq_true hg; omega) | (simp at hg; omega) | (simp only [List.length_set, List.length_append, List.length_cons, List.length_nil, List.length_map, List.length_take, List.length_drop, List.length_replicate]; omega))) rfl rfl ?_
    refine o_give (g_loadM (evv rfl) (by rfl) (by first | omega | (have := of_decide_eq_true hg; omega) | (simp at hg; omega) | (simp only [List.length_set, List.length_append, List.length_cons, List.length_nil, List.length_map, List.length_take, List.length_drop, List.length_replicate]; omega))) rfl rfl ?_
    refine o_give (g_assign (evv rfl)) rfl rfl ?_
    refine o_nil ?_
    refine c_code ?_
    first | refine r_ret (rs := [.tmp 2]) rfl rfl _ ((Lay.ent (L' := L))) ?_ | refine c_end (rs := [.tmp 2]) rfl rfl _ ((Lay.ent (L' := L))) ?_
    refine ⟨_, rfl, rfl, ?_⟩
    rw [hlen] at q1 q2 ⊢
    rw [show ((l.length : Int) - quo l.length).toNat = l.length - (quo l.length).toNat from by omega]
    exact hr
theorem rReached_c (L : List Atom) (v : Value) (l : List Int) (hx : l.length ≤ 1048576) [rd : Rd L v (mrow i64v 2 l)] : Fn Try.prog 20 [v] L fun w L' => ∃ z : Int, w = .int .i64 z ∧ L' = L ∧ reachP l z := by
  obtain ⟨z0, hz0⟩ := reach_ex l
  refine fn_intro Try.func20 rfl Try.ntmps20 rfl (fun W0 => ?_)
  simp only [argE]
  refine r_seq ?_
  refine r_region (id := 0) ?_
  refine o_give (g_assign (evv rfl)) rfl rfl ?_
  refine o_nil ?_
  refine c_code ?_
  refine r_seq ?_
  refine r_region (id := 1) ?_
  refine o_give (g_assign (evv rfl)) rfl rfl ?_
  refine o_nil ?_
  refine c_code ?_
  refine r_seq ?_
  refine r_region (id := 2) ?_
  refine o_give (g_assign (evv rfl)) rfl rfl ?_
  refine o_nil ?_
  refine c_code ?_
  refine r_seq ?_
  refine r_seq ?_
  refine r_region (id := 3) ?_
  refine o_give (g_assign (evv rfl)) rfl rfl ?_
  refine o_nil ?_
  refine c_code ?_
  refine r_block ?_
  refine r_loopE (σ := Nat × Bool × Int) (fun ⟨i, f, z⟩ => i ≤ l.length ∧ (f = true → z ∈ l ∧ quo l.length ≤ cntGe l z ∧ ∀ j < i, quo l.length ≤ cntGe l (l.getD j default) → l.getD j default ≤ z) ∧ (f = false → z = 0 ∧ ∀ j < i, ¬ quo l.length ≤ cntGe l (l.getD j default))) (fun ⟨i, f, z⟩ => l.length - i) (fun ⟨i, f, z⟩ => [(3, .v (.int .i64 z)), (4, .v (.bool f)), (5, .v (.int .i64 i))]) [0] (fun ⟨i, f, z⟩ => L) (0, false, 0) (by dsimp only [pickE, pick1, lk2, Nat.reduceBEq, Nat.reduceAdd, Nat.zero_add, cond_true, cond_false] <;> exact rfl) ?_ (by repeat (first | exact trivial | refine ⟨rfl, ?_⟩ | refine envsub_v rfl (by first | rfl | (refine int_eq ?_; first | omega | (simp; omega) | (simp; done)) | (refine bool_eq ?_; first | (simp [*]; done) | (simp; done)) | (refine str_eq ?_; simp; done) | (refine ptr_eq ?_; omega) | fail) ?_)) ?_ ?_
  · exact ⟨Nat.zero_le _, (fun h => by cases h), (fun _ => ⟨rfl, fun j hj => absurd hj (Nat.not_lt_zero j)⟩)⟩
  · exact Ent.refl _
  rintro ⟨i, f, z⟩ ⟨hi, ht, hf⟩; dsimp only [List.cons_append, List.nil_append]
  refine r_seq ?_
  refine r_seq ?_
  refine r_region (id := 4) ?_
  refine o_give (g_move (evv rfl)) rfl rfl ?_
  refine o_give (g_move (evv rfl)) rfl rfl ?_
  refine o_give (g_lenM (evv rfl)) rfl rfl ?_
  refine o_give (g_bin (evv rfl) (evv rfl) (by rfl)) rfl rfl ?_
  refine o_nil ?_
  refine c_code ?_
  refine r_cond rfl (fun hc => ?_) (fun hc => ?_) <;> (try simp only [decide_eq_true_eq, decide_eq_false_iff_not, Bool.and_eq_true, Bool.or_eq_true, Bool.not_eq_true', Bool.and_eq_false_iff, Bool.or_eq_false_iff, Bool.not_eq_false', Bool.not_eq_true, Bool.not_eq_false, Bool.true_eq_false, Bool.false_eq_true, Int.not_lt, Int.not_le, not_and, not_or, ne_eq] at hc)
  · have hil : i < l.length := by omega
    refine r_skip ?_
    refine c_code ?_
    refine r_seq ?_
    refine r_block ?_
    refine r_seq ?_
    refine r_region (id := 6) ?_
    refine o_give (g_assign (evv rfl)) rfl rfl ?_
    refine o_nil ?_
    refine c_code ?_
    refine r_seq ?_
    refine r_seq ?_
    refine r_region (id := 7) ?_
    refine o_give (g_assign (evv rfl)) rfl rfl ?_
    refine o_nil ?_
    refine c_code ?_
    refine r_block ?_
    refine r_loopE (σ := Nat) (fun k => k ≤ l.length) (fun k => l.length - k) (fun k => [(6, .v (.int .i64 ((l.take k).countP (fun x => decide (l.getD i default ≤ x)) : Int))), (7, .v (.int .i64 k))]) [0, 3, 4, 5] (fun k => L) 0 (by dsimp only [pickE, pick1, lk2, Nat.reduceBEq, Nat.reduceAdd, Nat.zero_add, cond_true, cond_false] <;> exact rfl) ?_ (by repeat (first | exact trivial | refine ⟨rfl, ?_⟩ | refine envsub_v rfl (by first | rfl | (refine int_eq ?_; first | omega | (simp; omega) | (simp; done)) | (refine bool_eq ?_; first | (simp [*]; done) | (simp; done)) | (refine str_eq ?_; simp; done) | (refine ptr_eq ?_; omega) | fail) ?_)) ?_ ?_
    · exact Nat.zero_le _
    · exact Ent.refl _
    rintro k hk; (try dsimp only at hk); dsimp only [List.cons_append, List.nil_append]
    refine r_seq ?_
    refine r_seq ?_
    refine r_region (id := 8) ?_
    refine o_give (g_move (evv rfl)) rfl rfl ?_
    refine o_give (g_move (evv rfl)) rfl rfl ?_
    refine o_give (g_lenM (evv rfl)) rfl rfl ?_
    refine o_give (g_bin (evv rfl) (evv rfl) (by rfl)) rfl rfl ?_
    refine o_nil ?_
    refine c_code ?_
    refine r_cond rfl (fun hc2 => ?_) (fun hc2 => ?_) <;> (try simp only [decide_eq_true_eq, decide_eq_false_iff_not, Bool.and_eq_true, Bool.or_eq_true, Bool.not_eq_true', Bool.and_eq_false_iff, Bool.or_eq_false_iff, Bool.not_eq_false', Bool.not_eq_true, Bool.not_eq_false, Bool.true_eq_false, Bool.false_eq_true, Int.not_lt, Int.not_le, not_and, not_or, ne_eq] at hc2)
    · have hkl : k < l.length := by omega
      have hs : (l.take (k + 1)).countP (fun x => decide (l.getD i default ≤ x)) = (l.take k).countP (fun x => decide (l.getD i default ≤ x)) + if l.getD i default ≤ l.getD k default then 1 else 0 := by
        rw [List.take_succ_eq_append_getElem hkl, List.countP_append]
        simp [List.getD_eq_getElem?_getD, hkl, List.countP_cons]
      have hcl := List.countP_le_length (p := fun x => decide (l.getD i default ≤ x)) (l := l.take k)
      rw [List.length_take] at hcl
      refine r_skip ?_
      refine c_code ?_
      refine r_seq ?_
      refine r_block ?_
      refine r_seq ?_
      refine r_quiet (id := 10) Mixed.h (by kernel_rfl) ?_
      refine q_give (g_move (evv rfl)) rfl rfl ?_
      refine q_give (g_move (evv rfl)) rfl rfl ?_
      refine q_give (g_idxMN (evv rfl) (evv rfl) (by rfl) (by first | omega | (have := of_decide_eq_true hg; omega) | (simp at hg; omega) | (simp only [List.length_set, List.length_append, List.length_cons, List.length_nil, List.length_map, List.length_take, List.length_drop, List.length_replicate]; omega))) rfl rfl ?_
      refine q_give (g_loadM (evv rfl) (by rfl) (by first | omega | (have := of_decide_eq_true hg; omega) | (simp at hg; omega) | (simp only [List.length_set, List.length_append, List.length_cons, List.length_nil, List.length_map, List.length_take, List.length_drop, List.length_replicate]; omega))) rfl rfl ?_
      refine q_give (g_move (evv rfl)) rfl rfl ?_
      refine q_give (g_move (evv rfl)) rfl rfl ?_
      refine q_give (g_idxMN (evv rfl) (evv rfl) (by rfl) (by first | omega | (have := of_decide_eq_true hg; omega) | (simp at hg; omega) | (simp only [List.length_set, List.length_append, List.length_cons, List.length_nil, List.length_map, List.length_take, List.length_drop, List.length_replicate]; omega))) rfl rfl ?_
      refine q_give (g_loadM (evv rfl) (by rfl) (by first | omega | (have := of_decide_eq_true hg; omega) | (simp at hg; omega) | (simp only [List.length_set, List.length_append, List.length_cons, List.length_nil, List.length_map, List.length_take, List.length_drop, List.length_replicate]; omega))) rfl rfl ?_
      refine q_give (g_bin (evv rfl) (evv rfl) (by rfl)) rfl rfl ?_
      refine q_nil ?_
      refine c_code ?_
      simp only [i64v]
      refine r_cond rfl (fun hd => ?_) (fun hd => ?_) <;> (try simp only [decide_eq_true_eq, decide_eq_false_iff_not, Bool.and_eq_true, Bool.or_eq_true, Bool.not_eq_true', Bool.and_eq_false_iff, Bool.or_eq_false_iff, Bool.not_eq_false', Bool.not_eq_true, Bool.not_eq_false, Bool.true_eq_false, Bool.false_eq_true, Int.not_lt, Int.not_le, not_and, not_or, ne_eq] at hd)
      · rw [if_pos hd] at hs
        refine r_region (id := 11) ?_
        refine o_give (g_move (evv rfl)) rfl rfl ?_
        refine o_giveN (g_bin (evv rfl) (evv rfl) (by rfl)) (by simp only [inR]; omega) rfl ?_
        refine o_give (g_assign (evv rfl)) rfl rfl ?_
        refine o_nil ?_
        refine c_blk ?_
        refine c_code ?_
        refine r_region (id := 9) ?_
        refine o_give (g_move (evv rfl)) rfl rfl ?_
        refine o_giveN (g_bin (evv rfl) (evv rfl) (by rfl)) (by simp only [inR]; omega) rfl ?_
        refine o_give (g_assign (evv rfl)) rfl rfl ?_
        refine o_nil ?_
        refine c_loop (k + 1) ?_ ?_ (by repeat (first | exact trivial | refine ⟨rfl, ?_⟩ | refine envsub_v rfl (by first | rfl | (refine int_eq ?_; first | omega | (simp; omega) | (simp; done)) | (refine bool_eq ?_; first | (simp [*]; done) | (simp; done)) | (refine str_eq ?_; simp; done) | (refine ptr_eq ?_; omega) | fail) ?_)) ?_ <;> (try dsimp only)
        · omega
        · omega
        · exact Ent.refl _
      · rw [if_neg (by omega)] at hs
        refine r_skip ?_
        refine c_blk ?_
        refine c_code ?_
        refine r_region (id := 9) ?_
        refine o_give (g_move (evv rfl)) rfl rfl ?_
        refine o_giveN (g_bin (evv rfl) (evv rfl) (by rfl)) (by simp only [inR]; omega) rfl ?_
        refine o_give (g_assign (evv rfl)) rfl rfl ?_
        refine o_nil ?_
        refine c_loop (k + 1) ?_ ?_ (by repeat (first | exact trivial | refine ⟨rfl, ?_⟩ | refine envsub_v rfl (by first | rfl | (refine int_eq ?_; first | omega | (simp; omega) | (simp; done)) | (refine bool_eq ?_; first | (simp [*]; done) | (simp; done)) | (refine str_eq ?_; simp; done) | (refine ptr_eq ?_; omega) | fail) ?_)) ?_ <;> (try dsimp only)
        · omega
        · omega
        · exact Ent.refl _
    · rw [List.take_of_length_le (by omega), show l.countP (fun x => decide (l.getD i default ≤ x)) = cntGe l (l.getD i default) from rfl]
      refine r_exit rfl ?_
      refine c_code ?_
      refine r_seq ?_
      refine r_region (id := 12) ?_
      refine o_give (g_move (evv rfl)) rfl rfl ?_
      refine o_give (g_move (evv rfl)) rfl rfl ?_
      refine o_give (g_lenM (evv rfl)) rfl rfl ?_
      (refine o_call rfl _ (Ent.refl _) (rQuo_c _ _ (by first | assumption | (simp only [inR]; omega))) rfl ?_; rintro _ _ ⟨rfl, hLz⟩; obtain rfl := hLz.symm; clear hLz)
      refine o_give (g_bin (evv rfl) (evv rfl) (by rfl)) rfl rfl ?_
      refine o_give (g_move (evv rfl)) rfl rfl ?_
      refine o_lazy rfl (fun hg => g_move (by first | exact evv rfl | exact evg rfl (by rw [hp]; rfl) | exact evg rfl hp | exact evg rfl hg | exact evg rfl (by first | (simp_all; done) | (simp [*]; done) | fail) | fail)) rfl rfl ?_
      refine o_lazy rfl (fun hg => g_not (by first | exact evv rfl | exact evg rfl (by rw [hp]; rfl) | exact evg rfl hp | exact evg rfl hg | exact evg rfl (by first | (simp_all; done) | (simp [*]; done) | fail) | fail)) rfl rfl ?_
      refine o_lazy rfl (fun hg => g_move (by first | exact evv rfl | exact evg rfl (by rw [hp]; rfl) | exact evg rfl hp | exact evg rfl hg | exact evg rfl (by first | (simp_all; done) | (simp [*]; done) | fail) | fail)) rfl rfl ?_
      refine o_lazy rfl (fun hg => g_move (by first | exact evv rfl | exact evg rfl (by rw [hp]; rfl) | exact evg rfl hp | exact evg rfl hg | exact evg rfl (by first | (simp_all; done) | (simp [*]; done) | fail) | fail)) rfl rfl ?_
      refine o_lazy rfl (fun hg => g_move (by first | exact evv rfl | exact evg rfl (by rw [hp]; rfl) | exact evg rfl hp | exact evg rfl hg | exact evg rfl (by first | (simp_all; done) | (simp [*]; done) | fail) | fail)) rfl rfl ?_
      refine o_lazy rfl (fun hg => g_idxMN (evg rfl hg) (evg rfl hg) (by rfl) (by first | omega | (have := of_decide_eq_true hg; omega) | (simp at hg; omega) | (simp only [List.length_set, List.length_append, List.length_cons, List.length_nil, List.length_map, List.length_take, List.length_drop, List.length_replicate]; omega))) rfl rfl ?_
      refine o_lazy rfl (fun hg => g_loadM (evg rfl hg) (by rfl) (by first | omega | (have := of_decide_eq_true hg; omega) | (simp at hg; omega) | (simp only [List.length_set, List.length_append, List.length_cons, List.length_nil, List.length_map, List.length_take, List.length_drop, List.length_replicate]; omega))) rfl rfl ?_
      refine o_lazy rfl (fun hg => g_move (by first | exact evv rfl | exact evg rfl (by rw [hp]; rfl) | exact evg rfl hp | exact evg rfl hg | exact evg rfl (by first | (simp_all; done) | (simp [*]; done) | fail) | fail)) rfl rfl ?_
      refine o_lazy rfl (fun hg => g_bin (by first | exact evv rfl | exact evg rfl (by rw [hp]; rfl) | exact evg rfl hp | exact evg rfl hg | exact evg rfl (by first | (simp_all; done) | (simp [*]; done) | fail) | fail) (by first | exact evv rfl | exact evg rfl (by rw [hp]; rfl) | exact evg rfl hp | exact evg rfl hg | exact evg rfl (by first | (simp_all; done) | (simp [*]; done) | fail) | fail) (by rfl)) rfl rfl ?_
      refine o_lazy rfl (fun hg => g_pick_or (by first | exact evv rfl | exact evg rfl (by rw [hp]; rfl) | exact evg rfl hp | exact evg rfl hg | exact evg rfl (by first | (simp_all; done) | (simp [*]; done) | fail) | fail) (by first | exact evv rfl | exact evg rfl (by rw [hp]; rfl) | exact evg rfl hp | exact evg rfl hg | exact evg rfl (by first | (simp_all; done) | (simp [*]; done) | fail) | fail) (fun hp => (by first | exact evv rfl | exact evg rfl (by rw [hp]; rfl) | exact evg rfl hp | exact evg rfl hg | exact evg rfl (by first | (simp_all; done) | (simp [*]; done) | fail) | fail))) rfl rfl ?_
      refine o_give (g_pick_and (evv rfl) (evv rfl) (fun hp => (by first | exact evv rfl | exact evg rfl (by rw [hp]; rfl) | exact evg rfl hp | exact evg rfl hg | exact evg rfl (by first | (simp_all; done) | (simp [*]; done) | fail) | fail))) rfl rfl ?_
      refine o_nil ?_
      refine c_code ?_
      refine r_cond rfl (fun hb => ?_) (fun hb => ?_) <;> (try simp only [decide_eq_true_eq, decide_eq_false_iff_not, Bool.and_eq_true, Bool.or_eq_true, Bool.not_eq_true', Bool.and_eq_false_iff, Bool.or_eq_false_iff, Bool.not_eq_false', Bool.not_eq_true, Bool.not_eq_false, Bool.true_eq_false, Bool.false_eq_true, Int.not_lt, Int.not_le, not_and, not_or, ne_eq] at hb)
      · refine r_seq ?_
        refine r_region (id := 13) ?_
        refine o_give (g_move (evv rfl)) rfl rfl ?_
        refine o_give (g_move (evv rfl)) rfl rfl ?_
        refine o_give (g_idxMN (evv rfl) (evv rfl) (by rfl) (by first | omega | (have := of_decide_eq_true hg; omega) | (simp at hg; omega) | (simp only [List.length_set, List.length_append, List.length_cons, List.length_nil, List.length_map, List.length_take, List.length_drop, List.length_replicate]; omega))) rfl rfl ?_
        refine o_give (g_loadM (evv rfl) (by rfl) (by first | omega | (have := of_decide_eq_true hg; omega) | (simp at hg; omega) | (simp only [List.length_set, List.length_append, List.length_cons, List.length_nil, List.length_map, List.length_take, List.length_drop, List.length_replicate]; omega))) rfl rfl ?_
        refine o_give (g_assign (evv rfl)) rfl rfl ?_
        refine o_nil ?_
        refine c_code ?_
        refine r_region (id := 14) ?_
        refine o_give (g_assign (evv rfl)) rfl rfl ?_
        refine o_nil ?_
        refine c_blk ?_
        refine c_code ?_
        refine r_region (id := 5) ?_
        refine o_give (g_move (evv rfl)) rfl rfl ?_
        refine o_giveN (g_bin (evv rfl) (evv rfl) (by rfl)) (by simp only [inR]; omega) rfl ?_
        refine o_give (g_assign (evv rfl)) rfl rfl ?_
        refine o_nil ?_
        refine c_loop (i + 1, true, l.getD i default) ?_ ?_ (by repeat (first | exact trivial | refine ⟨rfl, ?_⟩ | refine envsub_v rfl (by first | rfl | (refine int_eq ?_; first | omega | (simp; omega) | (simp; done)) | (refine bool_eq ?_; first | (simp [*]; done) | (simp; done)) | (refine str_eq ?_; simp; done) | (refine ptr_eq ?_; omega) | fail) ?_)) ?_ <;> (try dsimp only)
        · exact ⟨by omega, (fun _ => scan_yes hil ht hf hb), (fun h => by cases h)⟩
        · omega
        · exact Ent.refl _
      · have hs := scan_no ht hf hb
        refine r_skip ?_
        refine c_blk ?_
        refine c_code ?_
        refine r_region (id := 5) ?_
        refine o_give (g_move (evv rfl)) rfl rfl ?_
        refine o_giveN (g_bin (evv rfl) (evv rfl) (by rfl)) (by simp only [inR]; omega) rfl ?_
        refine o_give (g_assign (evv rfl)) rfl rfl ?_
        refine o_nil ?_
        refine c_loop (i + 1, f, z) ?_ ?_ (by repeat (first | exact trivial | refine ⟨rfl, ?_⟩ | refine envsub_v rfl (by first | rfl | (refine int_eq ?_; first | omega | (simp; omega) | (simp; done)) | (refine bool_eq ?_; first | (simp [*]; done) | (simp; done)) | (refine str_eq ?_; simp; done) | (refine ptr_eq ?_; omega) | fail) ?_)) ?_ <;> (try dsimp only)
        · exact ⟨by omega, hs.1, hs.2⟩
        · omega
        · exact Ent.refl _
  · obtain rfl : i = l.length := by omega
    refine r_exit rfl ?_
    refine c_code ?_
    refine r_seq ?_
    refine r_region (id := 15) ?_
    refine o_give (g_move (evv rfl)) rfl rfl ?_
    refine o_give (g_assign (evv rfl)) rfl rfl ?_
    refine o_nil ?_
    refine c_code ?_
    first | refine r_ret (rs := [.tmp 2]) rfl rfl _ (Ent.refl _) ?_ | refine c_end (rs := [.tmp 2]) rfl rfl _ (Ent.refl _) ?_
    exact ⟨_, rfl, rfl, by rw [reach_scan hz0 ht hf]; exact hz0⟩
end VK
