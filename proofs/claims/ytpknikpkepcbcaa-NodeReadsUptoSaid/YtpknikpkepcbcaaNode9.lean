/- Items found, the blobs that a node names, nodes out of plain data. Conditions: none. -/
import Derived.Test.YtpknikpkepcbcaaNode8
import Derived.Test.YtpknikpkepcbcaaFold
namespace VK
open Go Go.Proofs
set_option linter.unusedSimpArgs false
set_option linter.unusedVariables false
set_option maxRecDepth 100000
set_option maxHeartbeats 40000000
def findN (l : List Itm) (nm : List UInt8) : Option Itm := l.find? (fun x => decide (x.name = nm))
theorem findN_some {l : List Itm} {nm : List UInt8} {i : Nat} (hi : i < l.length) (h : ∀ j < i, (l.getD j default).name ≠ nm) (he : (l.getD i default).name = nm) : findN l nm = some (l.getD i default) := by
  unfold findN
  rw [List.find?_eq_some_iff_getElem]
  refine ⟨by simpa using he, i, hi, by simp [List.getD_eq_getElem?_getD, hi], fun j hj => ?_⟩
  have := h j hj
  have hjl : j < l.length := by omega
  simp only [List.getD_eq_getElem?_getD, List.getElem?_eq_getElem hjl, Option.getD_some] at this
  simpa using this
theorem findN_none {l : List Itm} {nm : List UInt8} (h : ∀ j < l.length, (l.getD j default).name ≠ nm) : findN l nm = none := by
  unfold findN
  rw [List.find?_eq_none]
  intro x hx
  obtain ⟨i, hi, rfl⟩ := List.getElem_of_mem hx
  have := h i hi
  simp only [List.getD_eq_getElem?_getD, List.getElem?_eq_getElem hi, Option.getD_some] at this
  simpa using this
theorem Find1_c (L : List Atom) (x : Itm) (b : Nat) (nm : List UInt8) {g : Atom → List Atom} [pk : Pick (blk b) L ⟨[str nm], 9⟩ g] : Fn Try.prog 39 [agg (itmC x), .pointer (some ⟨b, 0, none⟩)] L fun w L' => w = .bool (decide (x.name = nm)) ∧ L' = L := by
  refine fn_intro Try.func39 rfl Try.ntmps39 rfl (fun W0 => ?_)
  simp only [argE]
  refine r_seq ?_
  refine r_region (id := 0) ?_
  refine o_boxA (evv rfl) rfl (fun _ => ?_)
  refine o_give (g_assign (evv rfl)) rfl rfl ?_
  refine o_nil ?_
  refine c_code ?_
  refine r_seq ?_
  refine r_region (id := 1) ?_
  refine o_give (g_fld (evv rfl)) rfl rfl ?_
  refine o_give (g_load (evv rfl) (by rfl) (by rfl)) rfl rfl ?_
  refine o_give (g_load (evv rfl) (by rfl) (by rfl)) rfl rfl ?_
  refine o_give (g_binS (evv rfl) (evv rfl) (by rfl)) rfl rfl ?_
  refine o_give (g_assign (evv rfl)) rfl rfl ?_
  refine o_nil ?_
  refine c_code ?_
  first | refine r_ret (rs := [.tmp 3]) rfl rfl _ (Ent.drop) ?_ | refine c_end (rs := [.tmp 3]) rfl rfl _ (Ent.drop) ?_
  exact ⟨rfl, rfl⟩
theorem IndexItm_c (L : List Atom) (v : Value) (l : List Itm) (b : Nat) (nm : List UInt8) {g : Atom → List Atom} [pk : Pick (blk b) L ⟨[str nm], 9⟩ g] [rd : Rd L v (frow itmC 34 54 l)] :
    Fn Try.prog 38 [v, .func (.func 39) #[] #[.pointer (some ⟨b, 0, none⟩)]] L fun w L' => ∃ z : Int, w = .int .i64 z ∧ L' = L ∧ ((z = -1 ∧ findN l nm = none) ∨ (0 ≤ z ∧ z < l.length ∧ findN l nm = some (l.getD z.toNat default))) := by
  refine fn_lenF rd fun hl1 => ?_
  have hl1 : l.length ≤ 2 ^ 63 - 1 := hl1
  refine fn_intro Try.func38 rfl Try.ntmps38 rfl (fun W0 => ?_)
  simp only [argE]
  refine r_seq ?_
  refine r_region (id := 0) ?_
  refine o_give (g_assign (evv rfl)) rfl rfl ?_
  refine o_nil ?_
  refine c_code ?_
  refine r_seq ?_
  refine r_seq ?_
  refine r_region (id := 1) ?_
  refine o_give (g_move (evv rfl)) rfl rfl ?_
  refine o_give (g_lenF (evv rfl)) rfl rfl ?_
  refine o_give (g_move (evv rfl)) rfl rfl ?_
  refine o_nil ?_
  refine c_code ?_
  refine r_block ?_
  refine r_loopE (σ := Nat) (fun i => i ≤ l.length ∧ ∀ j < i, (l.getD j default).name ≠ nm) (fun i => l.length - i) (fun i => [(8, .v (.int .i64 i))]) [0, 1, 7] (fun i => L) 0 (by dsimp only [pickE, pick1, lk2, Nat.reduceBEq, Nat.reduceAdd, Nat.zero_add, cond_true, cond_false] <;> exact rfl) ?_ (by repeat (first | exact trivial | refine ⟨rfl, ?_⟩ | refine envsub_v rfl (by first | rfl | (refine int_eq ?_; first | omega | (simp; omega) | (simp; done)) | (refine bool_eq ?_; first | (simp [*]; done) | (simp; done)) | (refine str_eq ?_; simp; done) | (refine ptr_eq ?_; omega) | fail) ?_)) ?_ ?_
  · exact ⟨Nat.zero_le _, by omega⟩
  · exact Ent.refl _
  rintro i ⟨hi, ha⟩; dsimp only [List.cons_append, List.nil_append]
  refine r_seq ?_
  refine r_region (id := 2) ?_
  refine o_give (g_bin (evv rfl) (evv rfl) (by rfl)) rfl rfl ?_
  refine o_nil ?_
  refine c_code ?_
  refine r_seq ?_
  refine r_cond rfl (fun hc => ?_) (fun hc => ?_) <;> (try simp only [decide_eq_true_eq, decide_eq_false_iff_not, Bool.and_eq_true, Bool.or_eq_true, Bool.not_eq_true', Bool.and_eq_false_iff, Bool.or_eq_false_iff, Bool.not_eq_false', Bool.not_eq_true, Bool.not_eq_false, Bool.true_eq_false, Bool.false_eq_true, Int.not_lt, Int.not_le, not_and, not_or, ne_eq] at hc)
  · have hil : i < l.length := by omega
    refine r_skip ?_
    refine c_code ?_
    refine r_seq ?_
    refine r_block ?_
    refine r_seq ?_
    refine r_region (id := 3) ?_
    refine o_give (g_move (evv rfl)) rfl rfl ?_
    refine o_give (g_assign (evv rfl)) rfl rfl ?_
    refine o_nil ?_
    refine c_code ?_
    refine r_seq ?_
    refine r_region (id := 4) ?_
    refine o_give (g_move (evv rfl)) rfl rfl ?_
    refine o_give (g_move (evv rfl)) rfl rfl ?_
    refine o_give (g_move (evv rfl)) rfl rfl ?_
    refine o_give (g_idxFN (evv rfl) (evv rfl) (by rfl) (by rfl) (by first | omega | (have := of_decide_eq_true hg; omega) | (simp at hg; omega) | (simp only [List.length_set, List.length_append, List.length_cons, List.length_nil, List.length_map, List.length_take, List.length_drop, List.length_replicate]; omega))) rfl rfl ?_
    refine o_give (g_loadFr (evv rfl) (by rfl) (by first | (intro; rfl) | exact LenC.h) (by rfl) (by rfl) (by first | omega | (have := of_decide_eq_true hg; omega) | (simp at hg; omega) | (simp only [List.length_set, List.length_append, List.length_cons, List.length_nil, List.length_map, List.length_take, List.length_drop, List.length_replicate]; omega))) rfl rfl ?_
    (refine o_callV rfl rfl _ (Ent.refl _) (Find1_c _ _ _ _) rfl ?_; rintro _ _ ⟨rfl, hLz⟩; obtain rfl := hLz.symm; clear hLz)
    refine o_nil ?_
    refine c_code ?_
    refine r_cond rfl (fun hd => ?_) (fun hd => ?_) <;> (try simp only [decide_eq_true_eq, decide_eq_false_iff_not, Bool.and_eq_true, Bool.or_eq_true, Bool.not_eq_true', Bool.and_eq_false_iff, Bool.or_eq_false_iff, Bool.not_eq_false', Bool.not_eq_true, Bool.not_eq_false, Bool.true_eq_false, Bool.false_eq_true, Int.not_lt, Int.not_le, not_and, not_or, ne_eq] at hd)
    · refine r_seq ?_
      refine r_region (id := 5) ?_
      refine o_give (g_move (evv rfl)) rfl rfl ?_
      refine o_give (g_assign (evv rfl)) rfl rfl ?_
      refine o_nil ?_
      refine c_code ?_
      first | refine r_ret (rs := [.tmp 4]) rfl rfl _ (Ent.refl _) ?_ | refine c_end (rs := [.tmp 4]) rfl rfl _ (Ent.refl _) ?_
      exact ⟨i, rfl, rfl, .inr ⟨by omega, by omega, by rw [Int.toNat_natCast]; exact findN_some hil ha hd⟩⟩
    · refine r_skip ?_
      refine c_blk ?_
      refine c_code ?_
      refine r_region (id := 6) ?_
      refine o_giveN (g_bin (evv rfl) (evv rfl) (by rfl)) (by simp only [inR]; omega) rfl ?_
      refine o_give (g_move (evv rfl)) rfl rfl ?_
      refine o_nil ?_
      refine c_loop (i + 1) ?_ ?_ (by repeat (first | exact trivial | refine ⟨rfl, ?_⟩ | refine envsub_v rfl (by first | rfl | (refine int_eq ?_; first | omega | (simp; omega) | (simp; done)) | (refine bool_eq ?_; first | (simp [*]; done) | (simp; done)) | (refine str_eq ?_; simp; done) | (refine ptr_eq ?_; omega) | fail) ?_)) ?_ <;> (try dsimp only)
      · refine ⟨by omega, fun j hj => ?_⟩
        by_cases hji : j = i
        · subst hji; exact hd
        · exact ha j (by omega)
      · omega
      · exact Ent.refl _
  · refine r_exit rfl ?_
    refine c_code ?_
    refine r_seq ?_
    refine r_region (id := 7) ?_
    refine o_give (g_assign (evv rfl)) rfl rfl ?_
    refine o_nil ?_
    refine c_code ?_
    first | refine r_ret (rs := [.tmp 4]) rfl rfl _ (Ent.refl _) ?_ | refine c_end (rs := [.tmp 4]) rfl rfl _ (Ent.refl _) ?_
    exact ⟨-1, rfl, rfl, .inl ⟨rfl, findN_none (fun j hj => ha j (by omega))⟩⟩
def findV (l : List Itm) (nm : List UInt8) : Itm := (findN l nm).getD default
theorem Find_c (L : List Atom) (n : NodeS) (pv iv : Value) (nm : List UInt8) [r2 : Rd L iv (frow itmC 34 54 n.items)] [r1 : Rd L pv (frow digC 32 52 n.parts)] :
    Fn Try.prog 21 [agg (nodV n pv iv), str nm] L fun w L' => w = .tuple #[agg (itmC (findV n.items nm)), .bool (findN n.items nm).isSome] ∧ L' = L := by
  refine fn_intro Try.func21 rfl Try.ntmps21 rfl (fun W0 => ?_)
  simp only [argE, nodV]
  refine r_seq ?_
  refine r_region (id := 0) ?_
  refine o_boxA (evv rfl) rfl (fun _ => ?_)
  refine o_box1 (evv rfl) rfl (fun _ => ?_)
  refine o_alloc (cs := ((Go.Value.string { data := #[] }) :: (Go.Value.int Go.IntKind.i64 0) :: bys (List.replicate 32 0))) rfl rfl (fun _ => ?_)
  refine o_give (g_assign (evv rfl)) rfl rfl ?_
  refine o_nil ?_
  refine c_code ?_
  refine r_seq ?_
  rename_i q p z
  refine r_region (id := 1) ?_
  refine o_give (g_fld (evv rfl)) rfl rfl ?_
  refine o_give (g_load (evv rfl) (by rfl) (by rfl)) rfl rfl ?_
  refine o_give (g_func rfl rfl) rfl rfl ?_
  (refine o_call rfl _ (Ent.refl _) (IndexItm_c _ _ _ _ _) rfl ?_; rintro _ _ ⟨z1, rfl, hLz, hz1⟩; obtain rfl := hLz.symm; clear hLz)
  refine o_give (g_assign (evv rfl)) rfl rfl ?_
  refine o_nil ?_
  refine c_code ?_
  refine r_seq ?_
  refine r_seq ?_
  refine r_region (id := 2) ?_
  refine o_give (g_move (evv rfl)) rfl rfl ?_
  refine o_give (g_bin (evv rfl) (evv rfl) (by rfl)) rfl rfl ?_
  refine o_nil ?_
  refine c_code ?_
  rcases hz1 with ⟨rfl, hf⟩ | ⟨h0, h1, hf⟩
  · rw [findV, hf]
    refine r_cond_true rfl ?_
    refine r_seq ?_
    refine r_region (id := 3) ?_
    refine o_give (v := agg ((Go.Value.string { data := #[] }) :: (Go.Value.int Go.IntKind.i64 0) :: bys (List.replicate 32 0))) (g_buildC rfl (by rfl)) rfl rfl ?_
    refine o_storeW (evv rfl) (evv rfl) (by first | rfl | assumption | exact LenC.h _ | (simp [bys, *]; done) | fail) (by first | (intro _ _ _; exact bys_one _) | exact AllOne.h | (intro _ _ _ u hu; simp at hu; rcases hu with rfl | rfl | rfl | rfl | rfl | rfl | rfl | rfl <;> rfl) | fail) (by first | rfl | exact (LenC.h _).trans rfl | (simp [bys, *]; done) | (simp only [bys, List.length_map, *]; rfl) | fail) ?_
    refine o_give (g_assign (evv rfl)) rfl rfl ?_
    refine o_nil ?_
    refine c_code ?_
    first | refine r_retC (rs := [.cell 4 54, .tmp 5]) rfl (by first | exact ro_agg rfl rfl (by first | rfl | exact LenC.h _ | (simp [bys, *]; done)) (ro_tmp rfl ro_nil) | exact ro_cell rfl rfl rfl (ro_tmp rfl ro_nil)) _ ((Lay.ent (L' := L))) ?_ | refine c_endC (rs := [.cell 4 54, .tmp 5]) rfl (by first | exact ro_agg rfl rfl (by first | rfl | exact LenC.h _ | (simp [bys, *]; done)) (ro_tmp rfl ro_nil) | exact ro_cell rfl rfl rfl (ro_tmp rfl ro_nil)) _ ((Lay.ent (L' := L))) ?_
    exact ⟨rfl, rfl⟩
  · rw [findV, hf, decide_eq_false (show ¬ z1 < 0 by omega)]
    refine r_cond_false rfl ?_
    refine r_skip ?_
    refine c_code ?_
    refine r_seq ?_
    refine r_region (id := 4) ?_
    refine o_give (g_fld (evv rfl)) rfl rfl ?_
    refine o_give (g_load (evv rfl) (by rfl) (by rfl)) rfl rfl ?_
    refine o_give (g_move (evv rfl)) rfl rfl ?_
    refine o_give (g_idxF (evv rfl) (evv rfl) (by rfl) (by rfl) (by omega) (by first | omega | (have := of_decide_eq_true hg; omega) | (simp at hg; omega) | (simp only [List.length_set, List.length_append, List.length_cons, List.length_nil, List.length_map, List.length_take, List.length_drop, List.length_replicate]; omega))) rfl rfl ?_
    refine o_give (g_loadFr (evv rfl) (by rfl) (by first | (intro; rfl) | exact LenC.h) (by rfl) (by rfl) (by first | omega | (have := of_decide_eq_true hg; omega) | (simp at hg; omega) | (simp only [List.length_set, List.length_append, List.length_cons, List.length_nil, List.length_map, List.length_take, List.length_drop, List.length_replicate]; omega))) rfl rfl ?_
    refine o_storeW (evv rfl) (evv rfl) (by first | rfl | assumption | exact LenC.h _ | (simp [bys, *]; done) | fail) (by first | (intro _ _ _; exact bys_one _) | exact AllOne.h | (intro _ _ _ u hu; simp at hu; rcases hu with rfl | rfl | rfl | rfl | rfl | rfl | rfl | rfl <;> rfl) | fail) (by first | rfl | exact (LenC.h _).trans rfl | (simp [bys, *]; done) | (simp only [bys, List.length_map, *]; rfl) | fail) ?_
    refine o_give (g_assign (evv rfl)) rfl rfl ?_
    refine o_nil ?_
    refine c_code ?_
    first | refine r_retC (rs := [.cell 4 54, .tmp 5]) rfl (by first | exact ro_agg rfl rfl (by first | rfl | exact LenC.h _ | (simp [bys, *]; done)) (ro_tmp rfl ro_nil) | exact ro_cell rfl rfl rfl (ro_tmp rfl ro_nil)) _ ((Lay.ent (L' := L))) ?_ | refine c_endC (rs := [.cell 4 54, .tmp 5]) rfl (by first | exact ro_agg rfl rfl (by first | rfl | exact LenC.h _ | (simp [bys, *]; done)) (ro_tmp rfl ro_nil) | exact ro_cell rfl rfl rfl (ro_tmp rfl ro_nil)) _ ((Lay.ent (L' := L))) ?_
    exact ⟨rfl, rfl⟩
def kidsOf (n : NodeS) : List Itm := n.parts.map (fun d => ⟨[], 1, d⟩) ++ n.items
theorem kidsOf_len (n : NodeS) : (kidsOf n).length = n.parts.length + n.items.length := by simp [kidsOf]
theorem kids_step {ps : List Dig} {i : Nat} (h : i < ps.length) : (ps.take (i + 1)).map (fun d => (⟨[], 1, d⟩ : Itm)) = (ps.take i).map (fun d => (⟨[], 1, d⟩ : Itm)) ++ [⟨[], 1, ps.getD i default⟩] := by
  rw [List.take_succ_eq_append_getElem h, List.map_append]
  simp [List.getD_eq_getElem?_getD, h]
theorem Kids_c (L : List Atom) (n : NodeS) (pv iv : Value) (hs1 : n.parts.length ≤ 1048576) (hs2 : n.items.length ≤ 1048576) [r1 : Rd L pv (frow digC 32 52 n.parts)] [r2 : Rd L iv (frow itmC 34 54 n.items)] :
    Fn Try.prog 18 [agg (nodV n pv iv)] L fun w L' => True ∧ L' = sl w (frow itmC 34 54 (kidsOf n)) :: L := by
  refine fn_intro Try.func18 rfl Try.ntmps18 rfl (fun W0 => ?_)
  simp only [argE, nodV]
  refine r_seq ?_
  refine r_region (id := 0) ?_
  refine o_boxA (evv rfl) rfl (fun _ => ?_)
  refine o_give (g_assign (evv rfl)) rfl rfl ?_
  refine o_nil ?_
  refine c_code ?_
  refine r_seq ?_
  refine r_region (id := 1) ?_
  refine o_give (g_assign (evv rfl)) rfl rfl ?_
  refine o_nil ?_
  refine c_code ?_
  refine r_seq ?_
  refine r_seq ?_
  refine r_region (id := 2) ?_
  refine o_give (g_fld (evv rfl)) rfl rfl ?_
  refine o_give (g_load (evv rfl) (by rfl) (by rfl)) rfl rfl ?_
  refine o_give (g_lenF (evv rfl)) rfl rfl ?_
  refine o_give (g_move (evv rfl)) rfl rfl ?_
  refine o_nil ?_
  refine c_code ?_
  refine r_block ?_
  rename_i q
  refine r_loopE (σ := Nat × Value) (fun ⟨i, v⟩ => i ≤ n.parts.length) (fun ⟨i, v⟩ => n.parts.length - i) (fun ⟨i, v⟩ => [(3, .v (v)), (9, .v (.int .i64 i))]) [1, 7, 8] (fun ⟨i, v⟩ => sl v (frow itmC 34 54 ((n.parts.take i).map (fun d => ⟨[], 1, d⟩))) :: blk q ⟨[.int .i64 n.kind, str n.data, .int .i64 n.size, pv, iv], 27⟩ :: L) (0, .slice none 0 0) (by dsimp only [pickE, pick1, lk2, Nat.reduceBEq, Nat.reduceAdd, Nat.zero_add, cond_true, cond_false] <;> exact rfl) ?_ (by repeat (first | exact trivial | refine ⟨rfl, ?_⟩ | refine envsub_v rfl (by first | rfl | (refine int_eq ?_; first | omega | (simp; omega) | (simp; done)) | (refine bool_eq ?_; first | (simp [*]; done) | (simp; done)) | (refine str_eq ?_; simp; done) | (refine ptr_eq ?_; omega) | fail) ?_)) ?_ ?_
  · exact Nat.zero_le _
  · exact (Ent.nilsl 54 34)
  rintro ⟨i, v⟩ hi; (try dsimp only at hi); dsimp only [List.cons_append, List.nil_append]
  refine r_seq ?_
  refine r_region (id := 3) ?_
  refine o_give (g_bin (evv rfl) (evv rfl) (by rfl)) rfl rfl ?_
  refine o_nil ?_
  refine c_code ?_
  refine r_seq ?_
  refine r_cond rfl (fun hc => ?_) (fun hc => ?_) <;> (try simp only [decide_eq_true_eq, decide_eq_false_iff_not, Bool.and_eq_true, Bool.or_eq_true, Bool.not_eq_true', Bool.and_eq_false_iff, Bool.or_eq_false_iff, Bool.not_eq_false', Bool.not_eq_true, Bool.not_eq_false, Bool.true_eq_false, Bool.false_eq_true, Int.not_lt, Int.not_le, not_and, not_or, ne_eq] at hc)
  · have hil : i < n.parts.length := by omega
    have hs := kids_step hil
    refine r_skip ?_
    refine c_code ?_
    refine r_seq ?_
    refine r_block ?_
    refine r_seq ?_
    refine r_region (id := 4) ?_
    refine o_give (g_idxFN (evv rfl) (evv rfl) (by rfl) (by rfl) (by first | omega | (have := of_decide_eq_true hg; omega) | (simp at hg; omega) | (simp only [List.length_set, List.length_append, List.length_cons, List.length_nil, List.length_map, List.length_take, List.length_drop, List.length_replicate]; omega))) rfl rfl ?_
    refine o_give (g_loadFr (evv rfl) (by rfl) (by first | (intro; rfl) | exact LenC.h) (by rfl) (by rfl) (by first | omega | (have := of_decide_eq_true hg; omega) | (simp at hg; omega) | (simp only [List.length_set, List.length_append, List.length_cons, List.length_nil, List.length_map, List.length_take, List.length_drop, List.length_replicate]; omega))) rfl rfl ?_
    refine o_alloc (cs := (bys (List.replicate 32 0))) rfl rfl (fun _ => ?_)
    refine o_storeW (evv rfl) (evv rfl) (by first | rfl | assumption | exact LenC.h _ | (simp [bys, *]; done) | fail) (by first | (intro _ _ _; exact bys_one _) | exact AllOne.h | (intro _ _ _ u hu; simp at hu; rcases hu with rfl | rfl | rfl | rfl | rfl | rfl | rfl | rfl <;> rfl) | fail) (by first | rfl | exact (LenC.h _).trans rfl | (simp [bys, *]; done) | (simp only [bys, List.length_map, *]; rfl) | fail) ?_
    refine o_nil ?_
    refine c_code ?_
    refine r_region (id := 5) ?_
    refine o_give (g_move (evv rfl)) rfl rfl ?_
    refine o_give (g_loadW (evv rfl) (by rfl) (LenC.h _)) rfl rfl ?_
    refine o_give (g_buildX (is := [1, 2]) rfl rfl (show cellsL _ = ((Go.Value.string { data := #[] }) :: (Go.Value.int Go.IntKind.i64 0) :: bys (List.replicate 32 0)) from rfl)) rfl rfl ?_
    refine o_litS rfl (by rfl) inferInstance (by rfl) rfl (fun _ => ?_)
    refine o_appF (evv rfl) (evv rfl) (by rfl) (by rfl) (by rfl) (by (try simp only [bsOf, List.length_append, List.length_cons, List.length_nil, List.length_take, List.length_drop, List.length_map]); omega) rfl (fun _ => ?_)
    refine o_give (g_assign (evv rfl)) rfl rfl ?_
    refine o_nil ?_
    refine c_blk ?_
    refine c_code ?_
    refine r_region (id := 6) ?_
    refine o_giveN (g_bin (evv rfl) (evv rfl) (by rfl)) (by simp only [inR]; omega) rfl ?_
    refine o_give (g_move (evv rfl)) rfl rfl ?_
    refine o_nil ?_
    rename_i v'
    rw [show (⟨[], 1, ⟨(n.parts.getD i default).1, (n.parts.getD i default).2⟩⟩ : Itm) = ⟨[], 1, n.parts.getD i default⟩ from rfl, ← hs]
    refine c_loop (i + 1, v') ?_ ?_ (by repeat (first | exact trivial | refine ⟨rfl, ?_⟩ | refine envsub_v rfl (by first | rfl | (refine int_eq ?_; first | omega | (simp; omega) | (simp; done)) | (refine bool_eq ?_; first | (simp [*]; done) | (simp; done)) | (refine str_eq ?_; simp; done) | (refine ptr_eq ?_; omega) | fail) ?_)) ?_ <;> (try dsimp only)
    · omega
    · omega
    · exact Lay.ent
  · rw [List.take_of_length_le (by omega)]
    refine r_exit rfl ?_
    refine c_code ?_
    refine r_seq ?_
    refine r_region (id := 7) ?_
    refine o_give (g_move (evv rfl)) rfl rfl ?_
    refine o_give (g_fld (evv rfl)) rfl rfl ?_
    refine o_give (g_load (evv rfl) (by rfl) (by rfl)) rfl rfl ?_
    refine o_appF (evv rfl) (evv rfl) (by rfl) (by rfl) (by rfl) (by (try simp only [bsOf, List.length_append, List.length_cons, List.length_nil, List.length_take, List.length_drop, List.length_map]); omega) rfl (fun _ => ?_)
    refine o_give (g_assign (evv rfl)) rfl rfl ?_
    refine o_nil ?_
    refine c_code ?_
    rename_i v'
    first | refine r_ret (rs := [.tmp 2]) rfl rfl _ ((Lay.ent (L' := sl v' (frow itmC 34 54 (n.parts.map (fun d => (⟨[], 1, d⟩ : Itm)) ++ n.items)) :: L))) ?_ | refine c_end (rs := [.tmp 2]) rfl rfl _ ((Lay.ent (L' := sl v' (frow itmC 34 54 (n.parts.map (fun d => (⟨[], 1, d⟩ : Itm)) ++ n.items)) :: L))) ?_
    exact ⟨trivial, rfl⟩
theorem RKids_c (L : List Atom) (n : NodeS) (pv iv : Value) (hs1 : n.parts.length ≤ 1048576) (hs2 : n.items.length ≤ 1048576) [r1 : Rd L pv (frow digC 32 52 n.parts)] [r2 : Rd L iv (frow itmC 34 54 n.items)] :
    Fn Try.prog 20 [agg (nodV n pv iv)] L fun w L' => True ∧ L' = sl w (frow itmC 34 54 (kidsOf n)) :: L := by
  refine fn_intro Try.func20 rfl Try.ntmps20 rfl (fun W0 => ?_)
  simp only [argE, nodV]
  refine r_seq ?_
  refine r_region (id := 0) ?_
  refine o_boxA (evv rfl) rfl (fun _ => ?_)
  refine o_give (g_assign (evv rfl)) rfl rfl ?_
  refine o_nil ?_
  refine c_code ?_
  refine r_seq ?_
  refine r_region (id := 1) ?_
  refine o_give (g_assign (evv rfl)) rfl rfl ?_
  refine o_nil ?_
  refine c_code ?_
  refine r_seq ?_
  refine r_seq ?_
  refine r_region (id := 2) ?_
  refine o_give (g_assign (evv rfl)) rfl rfl ?_
  refine o_nil ?_
  refine c_code ?_
  refine r_block ?_
  rename_i q
  refine r_loopE (σ := Nat × Value) (fun ⟨i, v⟩ => i ≤ n.parts.length) (fun ⟨i, v⟩ => n.parts.length - i) (fun ⟨i, v⟩ => [(3, .v (v)), (4, .v (.int .i64 i))]) [1] (fun ⟨i, v⟩ => sl v (frow itmC 34 54 ((n.parts.take i).map (fun d => ⟨[], 1, d⟩))) :: blk q ⟨[.int .i64 n.kind, str n.data, .int .i64 n.size, pv, iv], 27⟩ :: L) (0, .slice none 0 0) (by dsimp only [pickE, pick1, lk2, Nat.reduceBEq, Nat.reduceAdd, Nat.zero_add, cond_true, cond_false] <;> exact rfl) ?_ (by repeat (first | exact trivial | refine ⟨rfl, ?_⟩ | refine envsub_v rfl (by first | rfl | (refine int_eq ?_; first | omega | (simp; omega) | (simp; done)) | (refine bool_eq ?_; first | (simp [*]; done) | (simp; done)) | (refine str_eq ?_; simp; done) | (refine ptr_eq ?_; omega) | fail) ?_)) ?_ ?_
  · exact Nat.zero_le _
  · exact (Ent.nilsl 54 34)
  rintro ⟨i, v⟩ hi; (try dsimp only at hi); dsimp only [List.cons_append, List.nil_append]
  refine r_seq ?_
  refine r_seq ?_
  refine r_region (id := 3) ?_
  refine o_give (g_move (evv rfl)) rfl rfl ?_
  refine o_give (g_fld (evv rfl)) rfl rfl ?_
  refine o_give (g_load (evv rfl) (by rfl) (by rfl)) rfl rfl ?_
  refine o_give (g_lenF (evv rfl)) rfl rfl ?_
  refine o_give (g_bin (evv rfl) (evv rfl) (by rfl)) rfl rfl ?_
  refine o_nil ?_
  refine c_code ?_
  refine r_cond rfl (fun hc => ?_) (fun hc => ?_) <;> (try simp only [decide_eq_true_eq, decide_eq_false_iff_not, Bool.and_eq_true, Bool.or_eq_true, Bool.not_eq_true', Bool.and_eq_false_iff, Bool.or_eq_false_iff, Bool.not_eq_false', Bool.not_eq_true, Bool.not_eq_false, Bool.true_eq_false, Bool.false_eq_true, Int.not_lt, Int.not_le, not_and, not_or, ne_eq] at hc)
  · have hil : i < n.parts.length := by omega
    have hs := kids_step hil
    refine r_skip ?_
    refine c_code ?_
    refine r_seq ?_
    refine r_block ?_
    refine r_region (id := 5) ?_
    refine o_give (g_move (evv rfl)) rfl rfl ?_
    refine o_give (g_fld (evv rfl)) rfl rfl ?_
    refine o_give (g_load (evv rfl) (by rfl) (by rfl)) rfl rfl ?_
    refine o_give (g_move (evv rfl)) rfl rfl ?_
    refine o_give (g_idxFN (evv rfl) (evv rfl) (by rfl) (by rfl) (by first | omega | (have := of_decide_eq_true hg; omega) | (simp at hg; omega) | (simp only [List.length_set, List.length_append, List.length_cons, List.length_nil, List.length_map, List.length_take, List.length_drop, List.length_replicate]; omega))) rfl rfl ?_
    refine o_give (g_loadFr (evv rfl) (by rfl) (by first | (intro; rfl) | exact LenC.h) (by rfl) (by rfl) (by first | omega | (have := of_decide_eq_true hg; omega) | (simp at hg; omega) | (simp only [List.length_set, List.length_append, List.length_cons, List.length_nil, List.length_map, List.length_take, List.length_drop, List.length_replicate]; omega))) rfl rfl ?_
    refine o_give (g_buildX (is := [1, 2]) rfl rfl (show cellsL _ = ((Go.Value.string { data := #[] }) :: (Go.Value.int Go.IntKind.i64 0) :: bys (List.replicate 32 0)) from rfl)) rfl rfl ?_
    refine o_litS rfl (by rfl) inferInstance (by rfl) rfl (fun _ => ?_)
    refine o_appF (evv rfl) (evv rfl) (by rfl) (by rfl) (by rfl) (by (try simp only [bsOf, List.length_append, List.length_cons, List.length_nil, List.length_take, List.length_drop, List.length_map]); omega) rfl (fun _ => ?_)
    refine o_give (g_assign (evv rfl)) rfl rfl ?_
    refine o_nil ?_
    refine c_blk ?_
    refine c_code ?_
    refine r_region (id := 4) ?_
    refine o_give (g_move (evv rfl)) rfl rfl ?_
    refine o_giveN (g_bin (evv rfl) (evv rfl) (by rfl)) (by simp only [inR]; omega) rfl ?_
    refine o_give (g_assign (evv rfl)) rfl rfl ?_
    refine o_nil ?_
    rename_i v'
    rw [show (⟨[], 1, ⟨(n.parts.getD i default).1, (n.parts.getD i default).2⟩⟩ : Itm) = ⟨[], 1, n.parts.getD i default⟩ from rfl, ← hs]
    refine c_loop (i + 1, v') ?_ ?_ (by repeat (first | exact trivial | refine ⟨rfl, ?_⟩ | refine envsub_v rfl (by first | rfl | (refine int_eq ?_; first | omega | (simp; omega) | (simp; done)) | (refine bool_eq ?_; first | (simp [*]; done) | (simp; done)) | (refine str_eq ?_; simp; done) | (refine ptr_eq ?_; omega) | fail) ?_)) ?_ <;> (try dsimp only)
    · omega
    · omega
    · exact Lay.ent
  · rw [List.take_of_length_le (by omega)]
    refine r_exit rfl ?_
    refine c_code ?_
    refine r_seq ?_
    refine r_seq ?_
    refine r_region (id := 6) ?_
    refine o_give (g_assign (evv rfl)) rfl rfl ?_
    refine o_nil ?_
    refine c_code ?_
    refine r_block ?_
    refine r_loopE (σ := Nat × Value) (fun ⟨i, v⟩ => i ≤ n.items.length) (fun ⟨i, v⟩ => n.items.length - i) (fun ⟨i, v⟩ => [(3, .v (v)), (5, .v (.int .i64 i))]) [1] (fun ⟨i, v⟩ => sl v (frow itmC 34 54 (n.parts.map (fun d => ⟨[], 1, d⟩) ++ n.items.take i)) :: blk q ⟨[.int .i64 n.kind, str n.data, .int .i64 n.size, pv, iv], 27⟩ :: L) (0, v) (by dsimp only [pickE, pick1, lk2, Nat.reduceBEq, Nat.reduceAdd, Nat.zero_add, cond_true, cond_false] <;> exact rfl) ?_ (by repeat (first | exact trivial | refine ⟨rfl, ?_⟩ | refine envsub_v rfl (by first | rfl | (refine int_eq ?_; first | omega | (simp; omega) | (simp; done)) | (refine bool_eq ?_; first | (simp [*]; done) | (simp; done)) | (refine str_eq ?_; simp; done) | (refine ptr_eq ?_; omega) | fail) ?_)) ?_ ?_
    · exact Nat.zero_le _
    · dsimp only
      rw [List.take_zero, List.append_nil]
      exact Lay.ent
    rintro ⟨i, v⟩ hi; (try dsimp only at hi); dsimp only [List.cons_append, List.nil_append]
    refine r_seq ?_
    refine r_seq ?_
    refine r_region (id := 7) ?_
    refine o_give (g_move (evv rfl)) rfl rfl ?_
    refine o_give (g_fld (evv rfl)) rfl rfl ?_
    refine o_give (g_load (evv rfl) (by rfl) (by rfl)) rfl rfl ?_
    refine o_give (g_lenF (evv rfl)) rfl rfl ?_
    refine o_give (g_bin (evv rfl) (evv rfl) (by rfl)) rfl rfl ?_
    refine o_nil ?_
    refine c_code ?_
    refine r_cond rfl (fun hc2 => ?_) (fun hc2 => ?_) <;> (try simp only [decide_eq_true_eq, decide_eq_false_iff_not, Bool.and_eq_true, Bool.or_eq_true, Bool.not_eq_true', Bool.and_eq_false_iff, Bool.or_eq_false_iff, Bool.not_eq_false', Bool.not_eq_true, Bool.not_eq_false, Bool.true_eq_false, Bool.false_eq_true, Int.not_lt, Int.not_le, not_and, not_or, ne_eq] at hc2)
    · have hil : i < n.items.length := by omega
      have hs : n.items.take (i + 1) = n.items.take i ++ [n.items.getD i default] := by
        rw [List.take_succ_eq_append_getElem hil]
        simp [List.getD_eq_getElem?_getD, hil]
      refine r_skip ?_
      refine c_code ?_
      refine r_seq ?_
      refine r_block ?_
      refine r_region (id := 9) ?_
      refine o_give (g_move (evv rfl)) rfl rfl ?_
      refine o_give (g_fld (evv rfl)) rfl rfl ?_
      refine o_give (g_load (evv rfl) (by rfl) (by rfl)) rfl rfl ?_
      refine o_give (g_move (evv rfl)) rfl rfl ?_
      refine o_give (g_idxFN (evv rfl) (evv rfl) (by rfl) (by rfl) (by first | omega | (have := of_decide_eq_true hg; omega) | (simp at hg; omega) | (simp only [List.length_set, List.length_append, List.length_cons, List.length_nil, List.length_map, List.length_take, List.length_drop, List.length_replicate]; omega))) rfl rfl ?_
      refine o_give (g_loadFr (evv rfl) (by rfl) (by first | (intro; rfl) | exact LenC.h) (by rfl) (by rfl) (by first | omega | (have := of_decide_eq_true hg; omega) | (simp at hg; omega) | (simp only [List.length_set, List.length_append, List.length_cons, List.length_nil, List.length_map, List.length_take, List.length_drop, List.length_replicate]; omega))) rfl rfl ?_
      refine o_litS rfl (by rfl) inferInstance (by rfl) rfl (fun _ => ?_)
      refine o_appF (evv rfl) (evv rfl) (by rfl) (by rfl) (by rfl) (by (try simp only [bsOf, List.length_append, List.length_cons, List.length_nil, List.length_take, List.length_drop, List.length_map]); omega) rfl (fun _ => ?_)
      refine o_give (g_assign (evv rfl)) rfl rfl ?_
      refine o_nil ?_
      refine c_blk ?_
      refine c_code ?_
      refine r_region (id := 8) ?_
      refine o_give (g_move (evv rfl)) rfl rfl ?_
      refine o_giveN (g_bin (evv rfl) (evv rfl) (by rfl)) (by simp only [inR]; omega) rfl ?_
      refine o_give (g_assign (evv rfl)) rfl rfl ?_
      refine o_nil ?_
      rename_i v'
      refine c_loop (i + 1, v') ?_ ?_ (by repeat (first | exact trivial | refine ⟨rfl, ?_⟩ | refine envsub_v rfl (by first | rfl | (refine int_eq ?_; first | omega | (simp; omega) | (simp; done)) | (refine bool_eq ?_; first | (simp [*]; done) | (simp; done)) | (refine str_eq ?_; simp; done) | (refine ptr_eq ?_; omega) | fail) ?_)) ?_ <;> (try dsimp only)
      · omega
      · omega
      · rw [hs, ← List.append_assoc]
        exact Lay.ent
    · rw [List.take_of_length_le (by omega)]
      refine r_exit rfl ?_
      refine c_code ?_
      refine r_seq ?_
      refine r_region (id := 10) ?_
      refine o_give (g_move (evv rfl)) rfl rfl ?_
      refine o_give (g_assign (evv rfl)) rfl rfl ?_
      refine o_nil ?_
      refine c_code ?_
      first | refine r_ret (rs := [.tmp 2]) rfl rfl _ ((Lay.ent (L' := sl v (frow itmC 34 54 (n.parts.map (fun d => (⟨[], 1, d⟩ : Itm)) ++ n.items)) :: L))) ?_ | refine c_end (rs := [.tmp 2]) rfl rfl _ ((Lay.ent (L' := sl v (frow itmC 34 54 (n.parts.map (fun d => (⟨[], 1, d⟩ : Itm)) ++ n.items)) :: L))) ?_
      exact ⟨trivial, rfl⟩
end VK
