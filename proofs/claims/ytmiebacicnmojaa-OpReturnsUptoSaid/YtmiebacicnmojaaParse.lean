/- Parse, walked: the code's, over its iterator, and the reference's. Conditions: texts of a machine's size. -/
import Derived.Test.YtmiebacicnmojaaParseL
namespace VK
open Go Go.Proofs
set_option linter.unusedSimpArgs false
set_option linter.unusedVariables false
set_option maxRecDepth 100000
set_option maxHeartbeats 40000000
theorem Ent.slTake {α : Type} {f : α → Value} {e : TypeId} {v : Value} {l : List α} {k : Nat} {L : List Atom} (hk : k ≤ l.length) : Ent (sl v (mrow f e l) :: L) (sl (subV 1 v 0 k) (mrow f e (l.take k)) :: L) := Ent.atom fun h q => by
  unfold sl subV at *
  obtain ⟨h1, h2, h3⟩ := q
  refine ⟨by simp [mrow], fun u hu => h2 u ?_, ?_⟩
  · simp only [mrow, List.map_take] at hu ⊢
    exact List.mem_of_mem_take hu
  · rcases h3 with ⟨rfl, hn⟩ | ⟨b, cap, cur, fr, rfl, h4, h5, h6, h7, h8, h9⟩
    · have hl : l.length = 0 := hn
      have : k = 0 := by omega
      subst this
      exact .inl ⟨rfl, by simp [mrow]⟩
    · have hl : (mrow f e l).n = l.length := rfl
      have hs : (mrow f e l).sz = 1 := rfl
      refine .inr ⟨b, cap, cur, fr, ?_, h4, h5, ?_, h7, h8, ?_⟩
      · simp only [Nat.zero_le, Nat.min_eq_left, Nat.sub_zero, hl, Nat.min_eq_left hk, Nat.zero_mul, Option.map_some, Addr.add]
        simp [mrow, Nat.min_eq_left hk]
      · simp only [mrow, List.length_take] at h6 ⊢; omega
      · rw [hl, hs] at h9
        simp only [mrow, List.length_take, Nat.min_eq_left hk, Nat.mul_one] at h9 ⊢
        rw [List.map_take, ← h9, List.take_take, Nat.min_eq_left hk]
def foldO {σ : Type} (step : σ → List UInt8 → Option σ) : σ → List (List UInt8) → Option σ
  | u, [] => some u
  | u, p :: ps => match step u p with
    | none => none
    | some u' => foldO step u' ps
theorem pieces_c (L : List Atom) (s : List UInt8) : Fn Try.prog 50 [str s] L fun v L' => ∃ b, v = .func (.func 57) #[] #[.pointer (some ⟨b, 0, none⟩)] ∧ L' = blk b ⟨[str s], 9⟩ :: L := by
  refine fn_intro Try.func50 rfl Try.ntmps50 rfl (fun W0 => ?_)
  simp only [argE]
  refine r_seq ?_
  refine r_region (id := 0) ?_
  refine o_box1 (evv rfl) rfl (fun _ => ?_)
  refine o_give (g_assign (evv rfl)) rfl rfl ?_
  refine o_nil ?_
  refine c_code ?_
  refine r_seq ?_
  refine r_region (id := 1) ?_
  refine o_give (g_func rfl rfl) rfl rfl ?_
  refine o_give (g_assign (evv rfl)) rfl rfl ?_
  refine o_nil ?_
  refine c_code ?_
  rename_i b
  first | refine r_ret (rs := [.tmp 2]) rfl rfl _ (Ent.refl _) ?_ | refine c_end (rs := [.tmp 2]) rfl rfl _ (Ent.refl _) ?_
  exact ⟨b, rfl, rfl⟩
/-- the iterator, at a body that takes each piece -/
theorem pieces1_c {σ : Type} {l : Nat} {R0 R1 : Obj} {B : σ → Atom} {BX : Atom} {step : σ → List UInt8 → Option σ} (u0 : σ) (b : Nat) (s : List UInt8) (F : List Atom) (hs : s.length ≤ 9223372036854775806) (I : σ → List UInt8 → Prop) (hI : I u0 s) (hst : ∀ u r u', I u r → r ≠ [] → step u (cutA 47 r) = some u' → I u' (cutZ 47 r))
    (hY : ∀ F u p, (∃ r, I u r ∧ r ≠ [] ∧ p = cutA 47 r) → Yields Try.prog l [str p] (objA l R0 :: B u :: F) (fun v L' => (∃ u', step u p = some u' ∧ v = .bool true ∧ L' = objA l R0 :: B u' :: F) ∨ (step u p = none ∧ v = .bool false ∧ L' = objA l R1 :: BX :: F))) :
    Fn Try.prog 57 [.func (.yield l) #[] #[], .pointer (some ⟨b, 0, none⟩)] (blk b ⟨[str s], 9⟩ :: objA l R0 :: B u0 :: F)
      (fun _ L' => ∃ r, (∃ u, foldO step u0 (pcs s) = some u ∧ L' = blk b ⟨[str r], 9⟩ :: objA l R0 :: B u :: F) ∨ (foldO step u0 (pcs s) = none ∧ L' = blk b ⟨[str r], 9⟩ :: objA l R1 :: BX :: F)) := by
  refine fn_introY Try.func57 rfl Try.ntmps57 rfl (fun W0 => ?_)
  simp only [argE]
  refine r_block ?_
  refine r_loopE (σ := σ × List UInt8) (fun ⟨u, r⟩ => foldO step u (pcs r) = foldO step u0 (pcs s) ∧ r.length ≤ s.length ∧ I u r) (fun ⟨u, r⟩ => r.length) (fun ⟨u, r⟩ => []) [0, 1] (fun ⟨u, r⟩ => blk b ⟨[str r], 9⟩ :: objA l R0 :: B u :: F) (u0, s) (by dsimp only [pickE, pick1, lk2, Nat.reduceBEq, Nat.reduceAdd, Nat.zero_add, cond_true, cond_false] <;> exact rfl) ?_ (by repeat (first | exact trivial | refine ⟨rfl, ?_⟩ | refine envsub_v rfl (by first | rfl | (refine int_eq ?_; first | omega | (simp; omega) | (simp; done)) | (refine bool_eq ?_; first | (simp [*]; done) | (simp; done)) | (refine str_eq ?_; simp; done) | (refine ptr_eq ?_; omega) | fail) ?_)) ?_ ?_
  · exact ⟨rfl, Nat.le_refl _, hI⟩
  · exact Ent.refl _
  rintro ⟨u, r⟩ ⟨hf, hr, hIr⟩; dsimp only [List.cons_append, List.nil_append]
  have hrl : r.length ≤ 9223372036854775806 := by omega
  refine r_seq ?_
  refine r_seq ?_
  refine r_region (id := 0) ?_
  refine o_give (g_load (evv rfl) (by rfl) (by rfl)) rfl rfl ?_
  refine o_give (g_binS (evv rfl) (evv rfl) (by rfl)) rfl rfl ?_
  refine o_nil ?_
  refine c_code ?_
  refine r_cond rfl (fun hc => ?_) (fun hc => ?_) <;> (try simp only [decide_eq_true_eq, decide_eq_false_iff_not, Bool.and_eq_true, Bool.or_eq_true, Bool.not_eq_true', Bool.and_eq_false_iff, Bool.or_eq_false_iff, Bool.not_eq_false', Bool.not_eq_true, Bool.not_eq_false, Bool.true_eq_false, Bool.false_eq_true, Int.not_lt, Int.not_le, not_and, not_or, ne_eq] at hc)
  · have hz := cutZ_len r hc
    rw [pcs_go hc] at hf
    simp only [foldO] at hf
    refine r_skip ?_
    refine c_code ?_
    refine r_block ?_
    refine r_seq ?_
    refine r_region (id := 1) ?_
    refine o_give (g_load (evv rfl) (by rfl) (by rfl)) rfl rfl ?_
    (refine o_call rfl _ (Ent.refl _) (SCut_1 _ _ _ (by first | assumption | omega)) rfl ?_; rintro _ _ ⟨rfl, hLz⟩; obtain rfl := hLz.symm; clear hLz)
    refine o_give (g_move (evv rfl)) rfl rfl ?_
    refine o_give (g_extract (evv rfl) (by rfl)) rfl rfl ?_
    refine o_give (g_extract (evv rfl) (by rfl)) rfl rfl ?_
    refine o_give (g_extract (evv rfl) (by rfl)) rfl rfl ?_
    refine o_give (g_assign (evv rfl)) rfl rfl ?_
    refine o_give (g_assign (evv rfl)) rfl rfl ?_
    refine o_give (g_assign (evv rfl)) rfl rfl ?_
    refine o_nil ?_
    refine c_code ?_
    refine r_seq ?_
    refine r_seq ?_
    refine r_region (id := 2) ?_
    refine o_give (g_move (evv rfl)) rfl rfl ?_
    refine o_give (g_move (evv rfl)) rfl rfl ?_
    refine o_yield rfl rfl rfl (objA l R0 :: B u :: blk b ⟨[str r], 9⟩ :: F) (Lay.ent) (hY _ _ _ ⟨r, hIr, hc, rfl⟩) rfl ?_
    rintro v L' (⟨u', h1, rfl, rfl⟩ | ⟨h1, rfl, rfl⟩)
    · rw [h1] at hf
      refine o_give (g_not (evv rfl)) rfl rfl ?_
      refine o_nil ?_
      refine c_code ?_
      refine r_cond_false rfl ?_
      refine r_skip ?_
      refine c_code ?_
      refine r_region (id := 3) ?_
      refine o_give (g_move (evv rfl)) rfl rfl ?_
      refine o_store1 (evv rfl) (evv rfl) (by rfl) (by rfl) (by rfl) ?_
      refine o_nil ?_
      refine c_blk ?_
      refine c_loop (u', cutZ 47 r) ?_ ?_ (by repeat (first | exact trivial | refine ⟨rfl, ?_⟩ | refine envsub_v rfl (by first | rfl | (refine int_eq ?_; first | omega | (simp; omega) | (simp; done)) | (refine bool_eq ?_; first | (simp [*]; done) | (simp; done)) | (refine str_eq ?_; simp; done) | (refine ptr_eq ?_; omega) | fail) ?_)) ?_ <;> (try dsimp only)
      · exact ⟨hf, by omega, hst u r u' hIr hc h1⟩
      · exact hz
      · exact Lay.ent
    · rw [h1] at hf
      refine o_give (g_not (evv rfl)) rfl rfl ?_
      refine o_nil ?_
      refine c_code ?_
      refine r_cond_true rfl ?_
      skip
      first | refine r_ret (rs := []) rfl rfl _ ((Lay.ent (L' := blk b ⟨[str r], 9⟩ :: objA l R1 :: BX :: F))) ?_ | refine c_end (rs := []) rfl rfl _ ((Lay.ent (L' := blk b ⟨[str r], 9⟩ :: objA l R1 :: BX :: F))) ?_
      exact ⟨r, .inr ⟨hf.symm, rfl⟩⟩
  · subst hc
    rw [pcs_nil] at hf
    simp only [foldO] at hf
    refine r_exit rfl ?_
    first | refine r_ret (rs := []) rfl rfl _ (Ent.refl _) ?_ | refine c_end (rs := []) rfl rfl _ (Ent.refl _) ?_
    exact ⟨[], .inl ⟨u, hf.symm, rfl⟩⟩
theorem Fn.post {P : Program} {f : FuncId} {args : List Value} {L : List Atom} {R R' : Value → List Atom → Prop} (h : Fn P f args L R) (hr : ∀ v L', R v L' → ∃ L'', Ent L' L'' ∧ R' v L'') : Fn P f args L R' := by
  unfold Fn at *
  intro W0 w hs
  refine (h W0 w hs).mono ?_
  rintro e w' ⟨v, L', rfl, hR, hS⟩
  obtain ⟨L'', h1, h2⟩ := hr v L' hR
  exact ⟨v, L'', rfl, h2, hS.ent h1⟩
/-- the names so far, in their box, and the boxes of the results -/
def namesX (b2 b3 b5 : Nat) (l : List (List UInt8)) (v : Value) : List Atom := [blk b5 ⟨[v], 40⟩, sl v (mrow str 9 l), blk b3 ⟨[.int .i64 0], 25⟩, blk b2 ⟨[.slice none 0 0], 40⟩]
def namesA (b2 b3 b5 : Nat) (l : List (List UInt8)) : Atom := exA (namesX b2 b3 b5 l)
def badX (b2 b3 : Nat) (_ : Unit) : List Atom := [blk b3 ⟨[.int .i64 41], 25⟩, blk b2 ⟨[.slice none 0 0], 40⟩]
def badA (b2 b3 : Nat) : Atom := exA (badX b2 b3)
theorem fold_eq : ∀ (ps : List (List UInt8)) (acc : List (List UInt8)), foldO stepN acc ps = foldN acc ps
  | [], _ => rfl
  | p :: ps, acc => by
    simp only [foldO, foldN]
    cases stepN acc p with
    | none => rfl
    | some u => exact fold_eq ps u
theorem Parse_c (L : List Atom) (s : List UInt8) (hs : s.length ≤ 9223372036854775806) :
    Fn Try.prog 26 [str s] L fun w L' => ∃ v, w = .tuple #[v, .int .i64 (parseR s).2] ∧ L' = sl v (mrow str 9 (parseR s).1) :: L := by
  refine fn_intro Try.func26 rfl Try.ntmps26 rfl (fun W0 => ?_)
  simp only [argE]
  refine r_seq ?_
  refine r_region (id := 0) ?_
  refine o_alloc rfl rfl (fun _ => ?_)
  refine o_alloc rfl rfl (fun _ => ?_)
  refine o_nil ?_
  refine c_code ?_
  refine r_seq ?_
  refine r_seq ?_
  refine r_region (id := 1) ?_
  refine o_give (g_move (evv rfl)) rfl rfl ?_
  refine o_give (g_lenS TyU.h (evv rfl)) rfl rfl ?_
  refine o_give (g_bin (evv rfl) (evv rfl) (by rfl)) rfl rfl ?_
  refine o_nil ?_
  refine c_code ?_
  rename_i b2 b3
  refine r_cond rfl (fun h1 => ?_) (fun h1 => ?_) <;> (try simp only [decide_eq_true_eq, decide_eq_false_iff_not, Bool.and_eq_true, Bool.or_eq_true, Bool.not_eq_true', Bool.and_eq_false_iff, Bool.or_eq_false_iff, Bool.not_eq_false', Bool.not_eq_true, Bool.not_eq_false, Bool.true_eq_false, Bool.false_eq_true, Int.not_lt, Int.not_le, not_and, not_or, ne_eq] at h1)
  · rw [show parseR s = ([], 2) from if_pos (by omega)]
    refine r_seq ?_
    refine r_region (id := 2) ?_
    refine o_store1 (evv rfl) (evv rfl) (by rfl) (by rfl) (by rfl) ?_
    refine o_store1 (evv rfl) (evv rfl) (by rfl) (by rfl) (by rfl) ?_
    refine o_nil ?_
    refine c_code ?_
    first | refine r_retC (rs := [.cell 2 40, .cell 3 25]) rfl (by first | exact ro_agg rfl rfl (by first | rfl | (simp [bys, *]; done)) (by first | exact ro_agg rfl rfl (by first | rfl | (simp [bys, *]; done)) ro_nil | exact ro_cell rfl rfl rfl ro_nil) | exact ro_cell rfl rfl rfl (by first | exact ro_agg rfl rfl (by first | rfl | (simp [bys, *]; done)) ro_nil | exact ro_cell rfl rfl rfl ro_nil)) _ (((Ent.drop.trans Ent.drop).trans (Ent.nilM str 9))) ?_ | refine c_endC (rs := [.cell 2 40, .cell 3 25]) rfl (by first | exact ro_agg rfl rfl (by first | rfl | (simp [bys, *]; done)) (by first | exact ro_agg rfl rfl (by first | rfl | (simp [bys, *]; done)) ro_nil | exact ro_cell rfl rfl rfl ro_nil) | exact ro_cell rfl rfl rfl (by first | exact ro_agg rfl rfl (by first | rfl | (simp [bys, *]; done)) ro_nil | exact ro_cell rfl rfl rfl ro_nil)) _ (((Ent.drop.trans Ent.drop).trans (Ent.nilM str 9))) ?_
    exact ⟨_, rfl, rfl⟩
  · have g1 : ¬ 256 < s.length := by omega
    refine r_skip ?_
    refine c_code ?_
    refine r_seq ?_
    refine r_seq ?_
    refine r_region (id := 3) ?_
    refine o_give (g_move (evv rfl)) rfl rfl ?_
    (refine o_call rfl _ (Ent.refl _) (SPrefix_c _ _ _) rfl ?_; rintro _ _ ⟨rfl, hLz⟩; obtain rfl := hLz.symm; clear hLz)
    refine o_give (g_not (evv rfl)) rfl rfl ?_
    refine o_nil ?_
    refine c_code ?_
    refine r_cond rfl (fun h2 => ?_) (fun h2 => ?_) <;> (try simp only [decide_eq_true_eq, decide_eq_false_iff_not, Bool.and_eq_true, Bool.or_eq_true, Bool.not_eq_true', Bool.and_eq_false_iff, Bool.or_eq_false_iff, Bool.not_eq_false', Bool.not_eq_true, Bool.not_eq_false, Bool.true_eq_false, Bool.false_eq_true, Int.not_lt, Int.not_le, not_and, not_or, ne_eq] at h2)
    · rw [show parseR s = ([], 40) from (if_neg g1).trans (if_pos (.inl h2))]
      refine r_seq ?_
      refine r_region (id := 4) ?_
      refine o_store1 (evv rfl) (evv rfl) (by rfl) (by rfl) (by rfl) ?_
      refine o_store1 (evv rfl) (evv rfl) (by rfl) (by rfl) (by rfl) ?_
      refine o_nil ?_
      refine c_code ?_
      first | refine r_retC (rs := [.cell 2 40, .cell 3 25]) rfl (by first | exact ro_agg rfl rfl (by first | rfl | (simp [bys, *]; done)) (by first | exact ro_agg rfl rfl (by first | rfl | (simp [bys, *]; done)) ro_nil | exact ro_cell rfl rfl rfl ro_nil) | exact ro_cell rfl rfl rfl (by first | exact ro_agg rfl rfl (by first | rfl | (simp [bys, *]; done)) ro_nil | exact ro_cell rfl rfl rfl ro_nil)) _ (((Ent.drop.trans Ent.drop).trans (Ent.nilM str 9))) ?_ | refine c_endC (rs := [.cell 2 40, .cell 3 25]) rfl (by first | exact ro_agg rfl rfl (by first | rfl | (simp [bys, *]; done)) (by first | exact ro_agg rfl rfl (by first | rfl | (simp [bys, *]; done)) ro_nil | exact ro_cell rfl rfl rfl ro_nil) | exact ro_cell rfl rfl rfl (by first | exact ro_agg rfl rfl (by first | rfl | (simp [bys, *]; done)) ro_nil | exact ro_cell rfl rfl rfl ro_nil)) _ (((Ent.drop.trans Ent.drop).trans (Ent.nilM str 9))) ?_
      exact ⟨_, rfl, rfl⟩
    · refine r_skip ?_
      refine c_code ?_
      refine r_seq ?_
      refine r_seq ?_
      refine r_region (id := 5) ?_
      refine o_give (g_move (evv rfl)) rfl rfl ?_
      refine o_give (g_lenS TyU.h (evv rfl)) rfl rfl ?_
      refine o_give (g_move (evv rfl)) rfl rfl ?_
      refine o_nil ?_
      refine c_code ?_
      refine r_block ?_
      refine r_loopE (σ := Nat) (fun i => i ≤ s.length ∧ ∀ c ∈ s.take i, okC c) (fun i => s.length - i) (fun i => [(15, .v (.int .i64 i))]) [0, 2, 3, 14] (fun i => blk b3 ⟨[.int .i64 0], 25⟩ :: blk b2 ⟨[.slice none 0 0], 40⟩ :: L) 0 (by dsimp only [pickE, pick1, lk2, Nat.reduceBEq, Nat.reduceAdd, Nat.zero_add, cond_true, cond_false] <;> exact rfl) ?_ (by repeat (first | exact trivial | refine ⟨rfl, ?_⟩ | refine envsub_v rfl (by first | rfl | (refine int_eq ?_; first | omega | (simp; omega) | (simp; done)) | (refine bool_eq ?_; first | (simp [*]; done) | (simp; done)) | (refine str_eq ?_; simp; done) | (refine ptr_eq ?_; omega) | fail) ?_)) ?_ ?_
      · exact ⟨Nat.zero_le _, fun c hc => by simp at hc⟩
      · exact Ent.refl _
      rintro i ⟨hi, ha⟩; dsimp only [List.cons_append, List.nil_append]
      refine r_seq ?_
      refine r_region (id := 6) ?_
      refine o_give (g_bin (evv rfl) (evv rfl) (by rfl)) rfl rfl ?_
      refine o_nil ?_
      refine c_code ?_
      refine r_seq ?_
      refine r_cond rfl (fun hc => ?_) (fun hc => ?_) <;> (try simp only [decide_eq_true_eq, decide_eq_false_iff_not, Bool.and_eq_true, Bool.or_eq_true, Bool.not_eq_true', Bool.and_eq_false_iff, Bool.or_eq_false_iff, Bool.not_eq_false', Bool.not_eq_true, Bool.not_eq_false, Bool.true_eq_false, Bool.false_eq_true, Int.not_lt, Int.not_le, not_and, not_or, ne_eq] at hc)
      · have hil : i < s.length := by omega
        have hg0 : s.getD i 0 = s[i] := by simp [List.getD_eq_getElem?_getD, hil]
        have hmem : s[i] ∈ s := List.getElem_mem hil
        have htk : s.take (i + 1) = s.take i ++ [s[i]] := List.take_succ_eq_append_getElem hil
        refine r_skip ?_
        refine c_code ?_
        refine r_seq ?_
        refine r_block ?_
        refine r_seq ?_
        refine r_region (id := 7) ?_
        refine o_give (g_move (evv rfl)) rfl rfl ?_
        refine o_give (g_assign (evv rfl)) rfl rfl ?_
        refine o_nil ?_
        refine c_code ?_
        refine r_seq ?_
        refine r_region (id := 8) ?_
        refine o_give (g_move (evv rfl)) rfl rfl ?_
        refine o_give (g_move (evv rfl)) rfl rfl ?_
        refine o_give (g_indexSN TyU.h (evv rfl) (evv rfl) (by first | omega | (have := of_decide_eq_true hg; omega) | (simp at hg; omega) | (simp only [List.length_set, List.length_append, List.length_cons, List.length_nil, List.length_map, List.length_take, List.length_drop, List.length_replicate]; omega))) rfl rfl ?_
        refine o_give (g_bin (evv rfl) (evv rfl) (by rfl)) rfl rfl ?_
        refine o_give (g_move (evv rfl)) rfl rfl ?_
        refine o_lazy rfl (fun hg => g_move (by first | exact evv rfl | exact evg rfl (by rw [hp]; rfl) | exact evg rfl hp | exact evg rfl hg | exact evg rfl (by first | (simp_all; done) | (simp [*]; done) | fail) | fail)) rfl rfl ?_
        refine o_lazy rfl (fun hg => g_move (by first | exact evv rfl | exact evg rfl (by rw [hp]; rfl) | exact evg rfl hp | exact evg rfl hg | exact evg rfl (by first | (simp_all; done) | (simp [*]; done) | fail) | fail)) rfl rfl ?_
        refine o_lazy rfl (fun hg => g_indexSN TyU.h (evg rfl hg) (evg rfl hg) (by first | omega | (have := of_decide_eq_true hg; omega) | (simp at hg; omega) | (simp only [List.length_set, List.length_append, List.length_cons, List.length_nil, List.length_map, List.length_take, List.length_drop, List.length_replicate]; omega))) rfl rfl ?_
        rw [hg0]
        refine o_split (t := 22) rfl (fun hs => ?_) (fun hs => ?_)
        · refine o_sure (t := 25) rfl hs ?_
          refine o_gyes rfl ?_
          (refine o_call rfl _ (Ent.refl _) (plain_c _ _) rfl ?_; rintro _ _ ⟨rfl, hLz⟩; obtain rfl := hLz.symm; clear hLz)
          refine o_gyes rfl ?_
          refine o_give (g_not (evv rfl)) rfl rfl ?_
          refine o_give (g_pick (b := true) (evv rfl) (fun _ => (evv rfl)) (fun h => by cases h)) rfl rfl ?_
          refine o_nil ?_
          refine c_code ?_
          have h47 : s[i] ≠ 47 := fun h => by rw [h] at hs; simp at hs
          refine r_cond rfl (fun hbad => ?_) (fun hbad => ?_) <;> (try simp only [decide_eq_true_eq, decide_eq_false_iff_not, Bool.and_eq_true, Bool.or_eq_true, Bool.not_eq_true', Bool.and_eq_false_iff, Bool.or_eq_false_iff, Bool.not_eq_false', Bool.not_eq_true, Bool.not_eq_false, Bool.true_eq_false, Bool.false_eq_true, Int.not_lt, Int.not_le, not_and, not_or, ne_eq] at hbad)
          · rw [show parseR s = ([], 40) from (if_neg g1).trans (if_pos (.inr fun h => (h _ hmem).elim h47 hbad))]
            refine r_seq ?_
            refine r_region (id := 9) ?_
            refine o_store1 (evv rfl) (evv rfl) (by rfl) (by rfl) (by rfl) ?_
            refine o_store1 (evv rfl) (evv rfl) (by rfl) (by rfl) (by rfl) ?_
            refine o_nil ?_
            refine c_code ?_
            first | refine r_retC (rs := [.cell 2 40, .cell 3 25]) rfl (by first | exact ro_agg rfl rfl (by first | rfl | (simp [bys, *]; done)) (by first | exact ro_agg rfl rfl (by first | rfl | (simp [bys, *]; done)) ro_nil | exact ro_cell rfl rfl rfl ro_nil) | exact ro_cell rfl rfl rfl (by first | exact ro_agg rfl rfl (by first | rfl | (simp [bys, *]; done)) ro_nil | exact ro_cell rfl rfl rfl ro_nil)) _ (((Ent.drop.trans Ent.drop).trans (Ent.nilM str 9))) ?_ | refine c_endC (rs := [.cell 2 40, .cell 3 25]) rfl (by first | exact ro_agg rfl rfl (by first | rfl | (simp [bys, *]; done)) (by first | exact ro_agg rfl rfl (by first | rfl | (simp [bys, *]; done)) ro_nil | exact ro_cell rfl rfl rfl ro_nil) | exact ro_cell rfl rfl rfl (by first | exact ro_agg rfl rfl (by first | rfl | (simp [bys, *]; done)) ro_nil | exact ro_cell rfl rfl rfl ro_nil)) _ (((Ent.drop.trans Ent.drop).trans (Ent.nilM str 9))) ?_
            exact ⟨_, rfl, rfl⟩
          · have hok : okC s[i] := .inr (by first | exact hbad | exact Decidable.of_not_not hbad)
            refine r_skip ?_
            refine c_blk ?_
            refine c_code ?_
            refine r_region (id := 10) ?_
            refine o_giveN (g_bin (evv rfl) (evv rfl) (by rfl)) (by simp only [inR]; omega) rfl ?_
            refine o_give (g_move (evv rfl)) rfl rfl ?_
            refine o_nil ?_
            refine c_loop (i + 1) ?_ ?_ (by repeat (first | exact trivial | refine ⟨rfl, ?_⟩ | refine envsub_v rfl (by first | rfl | (refine int_eq ?_; first | omega | (simp; omega) | (simp; done)) | (refine bool_eq ?_; first | (simp [*]; done) | (simp; done)) | (refine str_eq ?_; simp; done) | (refine ptr_eq ?_; omega) | fail) ?_)) ?_ <;> (try dsimp only)
            · refine ⟨by omega, fun c hc => ?_⟩
              rw [htk] at hc
              rcases List.mem_append.1 hc with hc | hc
              · exact ha c hc
              · rw [List.mem_singleton.1 hc]; exact hok
            · omega
            · exact Ent.refl _
        · have hok : okC s[i] := .inl (UInt8.toNat_inj.1 (by
            have h3 : ((s[i].toNat : Nat) : Int) = 47 := by simpa using hs
            show s[i].toNat = 47
            omega))
          refine o_lazy (v0 := undef) rfl (fun hg => absurd hg (by first | (simp; done) | fail)) rfl rfl ?_
          refine o_lazy (v0 := undef) rfl (fun hg => absurd hg (by first | (simp; done) | fail)) rfl rfl ?_
          refine o_give (g_pick (b := false) (evv rfl) (fun h => by cases h) (fun _ => (evv rfl))) rfl rfl ?_
          refine o_nil ?_
          refine c_code ?_
          refine r_cond_false rfl ?_
          refine r_skip ?_
          refine c_blk ?_
          refine c_code ?_
          refine r_region (id := 10) ?_
          refine o_giveN (g_bin (evv rfl) (evv rfl) (by rfl)) (by simp only [inR]; omega) rfl ?_
          refine o_give (g_move (evv rfl)) rfl rfl ?_
          refine o_nil ?_
          refine c_loop (i + 1) ?_ ?_ (by repeat (first | exact trivial | refine ⟨rfl, ?_⟩ | refine envsub_v rfl (by first | rfl | (refine int_eq ?_; first | omega | (simp; omega) | (simp; done)) | (refine bool_eq ?_; first | (simp [*]; done) | (simp; done)) | (refine str_eq ?_; simp; done) | (refine ptr_eq ?_; omega) | fail) ?_)) ?_ <;> (try dsimp only)
          · refine ⟨by omega, fun c hc => ?_⟩
            rw [htk] at hc
            rcases List.mem_append.1 hc with hc | hc
            · exact ha c hc
            · rw [List.mem_singleton.1 hc]; exact hok
          · omega
          · exact Ent.refl _
      · rw [List.take_of_length_le (by omega)] at ha
        have hP : parseR s = match foldN [] (pcs s) with
            | none => ([], 41)
            | some l => if 8 < l.length then ([], 42) else (l, 0) := by
          rw [fold_pcs s.length s [] (Nat.le_refl _)]
          exact (if_neg g1).trans (if_neg fun h => h.elim (fun h => h h2) (fun h => h ha))
        refine r_exit rfl ?_
        refine c_code ?_
        refine r_seq ?_
        refine r_region (id := 11) ?_
        refine o_alloc rfl rfl (fun _ => ?_)
        refine o_nil ?_
        refine c_code ?_
        refine r_seq ?_
        refine r_seq ?_
        refine r_region (id := 12) ?_
        refine o_give (g_move (evv rfl)) rfl rfl ?_
        (refine o_call rfl _ (Ent.refl _) (pieces_c _ _) rfl ?_; rintro _ _ ⟨pb, rfl, rfl⟩)
        refine o_nil ?_
        refine c_code ?_
        refine r_block ?_
        rename_i b5
        repeat (first | refine r_seq ?_ | refine c_code ?_ | refine r_block ?_)
        refine r_range (fun j L2 => (j = none ∧ ∃ l, foldN [] (pcs s) = some l ∧ L2 = namesA b2 b3 b5 l :: L) ∨ (j = some .ret ∧ foldN [] (pcs s) = none ∧ L2 = badA b2 b3 :: L)) rfl ?_ ?_ ?_
        · intro l x hps hasg hbody hE
          refine Fn.post (Fn.pre (pieces1_c (l := l) (R0 := recO x .ready none) (R1 := recO x .done (some .ret)) (B := namesA b2 b3 b5) (BX := badA b2 b3) (step := stepN) [] pb s (objA x.d defO :: L) (by omega) (fun u r => u.length + r.length ≤ 256) (by simp; omega) ?_ ?_) ?_) ?_
          · intro u r u' h1 h2 h3
            have := step_len h3
            have := cutZ_len r h2
            omega
          · rintro F u p ⟨r, h1, h2, rfl⟩
            refine yields_one (n := 61) (fn0 := Try.f26) hps hE rfl (fun W0 => ?_)
            rw [hasg]
            refine r_region (id := 13) ?_
            refine o_give (g_assign (evv rfl)) rfl rfl ?_
            refine o_nil ?_
            refine c_begin ?_
            rw [hbody]
            generalize cutA 47 r = p
            refine r_ent (namesA b2 b3 b5 u :: objA l (recO x .busy none) :: F) Ent.swap ?_
            refine r_exA fun v => ?_
            simp only [namesX, List.cons_append, List.nil_append]
            have hul : u.length ≤ 256 := by omega
            refine r_block ?_
            refine r_block ?_
            refine r_seq ?_
            refine r_region (id := 15) ?_
            refine o_give (g_move (evv rfl)) rfl rfl ?_
            refine o_give (g_lenS TyU.h (evv rfl)) rfl rfl ?_
            refine o_give (g_bin (evv rfl) (evv rfl) (by rfl)) rfl rfl ?_
            refine o_give (g_assign (evv rfl)) rfl rfl ?_
            refine o_nil ?_
            refine c_code ?_
            refine r_cond rfl (fun h16 => ?_) (fun h16 => ?_) <;> (try simp only [decide_eq_true_eq, decide_eq_false_iff_not, Bool.and_eq_true, Bool.or_eq_true, Bool.not_eq_true', Bool.and_eq_false_iff, Bool.or_eq_false_iff, Bool.not_eq_false', Bool.not_eq_true, Bool.not_eq_false, Bool.true_eq_false, Bool.false_eq_true, Int.not_lt, Int.not_le, not_and, not_or, ne_eq] at h16)
            · have hstep : stepN u p = none := if_pos (by omega)
              refine r_seq ?_
              refine r_region (id := 16) ?_
              refine o_store1 (evv rfl) (evv rfl) (by rfl) (by rfl) (by rfl) ?_
              refine o_store1 (evv rfl) (evv rfl) (by rfl) (by rfl) (by rfl) ?_
              refine o_nil ?_
              refine c_code ?_
              refine r_ent (objA l (recO x .busy none) :: badA b2 b3 :: F) ((Lay.ent (L' := objA l (recO x .busy none) :: blk b3 ⟨[.int .i64 41], 25⟩ :: blk b2 ⟨[.slice none 0 0], 40⟩ :: F)).trans (Ent.cons (Ent.shut (X := badX b2 b3) ()))) ?_
              exact r_roundRet (.inr ⟨hstep, rfl, rfl⟩)
            · have g16 : ¬ 16 < p.length := by omega
              refine r_seq ?_
              refine r_region (id := 17) ?_
              refine o_give (g_move (evv rfl)) rfl rfl ?_
              refine o_give (g_binS (evv rfl) (evv rfl) (by rfl)) rfl rfl ?_
              refine o_give (g_move (evv rfl)) rfl rfl ?_
              refine o_lazy rfl (fun hg => g_move (by first | exact evv rfl | exact evg rfl (by rw [hp]; rfl) | exact evg rfl hp | exact evg rfl hg | exact evg rfl (by first | (simp_all; done) | (simp [*]; done) | fail) | fail)) rfl rfl ?_
              refine o_lazy rfl (fun hg => g_binS (by first | exact evv rfl | exact evg rfl (by rw [hp]; rfl) | exact evg rfl hp | exact evg rfl hg | exact evg rfl (by first | (simp_all; done) | (simp [*]; done) | fail) | fail) (by first | exact evv rfl | exact evg rfl (by rw [hp]; rfl) | exact evg rfl hp | exact evg rfl hg | exact evg rfl (by first | (simp_all; done) | (simp [*]; done) | fail) | fail) (by rfl)) rfl rfl ?_
              refine o_give (g_pick_or (evv rfl) (evv rfl) (fun hp => (by first | exact evv rfl | exact evg rfl (by rw [hp]; rfl) | exact evg rfl hp | exact evg rfl hg | exact evg rfl (by first | (simp_all; done) | (simp [*]; done) | fail) | fail))) rfl rfl ?_
              refine o_give (g_assign (evv rfl)) rfl rfl ?_
              refine o_nil ?_
              refine c_code ?_
              refine r_cond rfl (fun he => ?_) (fun he => ?_) <;> (try simp only [decide_eq_true_eq, decide_eq_false_iff_not, Bool.and_eq_true, Bool.or_eq_true, Bool.not_eq_true', Bool.and_eq_false_iff, Bool.or_eq_false_iff, Bool.not_eq_false', Bool.not_eq_true, Bool.not_eq_false, Bool.true_eq_false, Bool.false_eq_true, Int.not_lt, Int.not_le, not_and, not_or, ne_eq] at he)
              · have hstep : stepN u p = some u := (if_neg g16).trans (if_pos he)
                refine r_skip ?_
                refine c_blk ?_
                refine c_blk ?_
                refine c_ent (objA l (recO x .busy none) :: namesA b2 b3 b5 u :: F) ((Lay.ent (L' := objA l (recO x .busy none) :: blk b5 ⟨[v], 40⟩ :: sl v (mrow str 9 u) :: blk b3 ⟨[.int .i64 0], 25⟩ :: blk b2 ⟨[.slice none 0 0], 40⟩ :: F)).trans (Ent.cons (Ent.shut (X := namesX b2 b3 b5 u) v))) ?_
                refine c_round ?_
                exact .inl ⟨u, hstep, rfl, rfl⟩
              · have g17 : ¬ (p = [] ∨ p = [46]) := fun h => h.elim he.1 he.2
                refine r_seq ?_
                refine r_region (id := 18) ?_
                refine o_give (g_move (evv rfl)) rfl rfl ?_
                refine o_give (g_binS (evv rfl) (evv rfl) (by rfl)) rfl rfl ?_
                refine o_give (g_assign (evv rfl)) rfl rfl ?_
                refine o_nil ?_
                refine c_code ?_
                refine r_cond rfl (fun hd => ?_) (fun hd => ?_) <;> (try simp only [decide_eq_true_eq, decide_eq_false_iff_not, Bool.and_eq_true, Bool.or_eq_true, Bool.not_eq_true', Bool.and_eq_false_iff, Bool.or_eq_false_iff, Bool.not_eq_false', Bool.not_eq_true, Bool.not_eq_false, Bool.true_eq_false, Bool.false_eq_true, Int.not_lt, Int.not_le, not_and, not_or, ne_eq] at hd)
                · have hstep : stepN u p = some u.dropLast := (if_neg g16).trans ((if_neg g17).trans (if_pos hd))
                  refine r_region (id := 19) ?_
                  refine o_give (g_load (evv rfl) (by rfl) (by rfl)) rfl rfl ?_
                  refine o_give (g_load (evv rfl) (by rfl) (by rfl)) rfl rfl ?_
                  refine o_give (g_lenM (evv rfl)) rfl rfl ?_
                  refine o_giveN (g_bin (evv rfl) (evv rfl) (by rfl)) (by simp only [inR]; omega) rfl ?_
                  refine o_give (g_max2 (evv rfl) (evv rfl)) rfl rfl ?_
                  refine o_give (g_subM (evv rfl) _ _ bnd_none (bnd_to (evv rfl) (by omega)) (by rfl) (by omega) (by omega)) rfl rfl ?_
                  refine o_store1 (evv rfl) (evv rfl) (by rfl) (by rfl) (by rfl) ?_
                  refine o_nil ?_
                  refine c_blk ?_
                  refine c_blk ?_
                  rw [show (max ((u.length : Int) - 1) 0).toNat = u.length - 1 by omega]
                  refine c_ent (objA l (recO x .busy none) :: namesA b2 b3 b5 u.dropLast :: F) ((Lay.ent (L' := sl v (mrow str 9 u) :: blk b5 ⟨[subV 1 v 0 (u.length - 1)], 40⟩ :: blk b3 ⟨[.int .i64 0], 25⟩ :: blk b2 ⟨[.slice none 0 0], 40⟩ :: objA l (recO x .busy none) :: F)).trans ((Ent.slTake (Nat.sub_le _ 1)).trans ?_)) ?_
                  · rw [← dropLast_len]
                    generalize subV 1 v 0 (u.length - 1) = v'
                    exact (Lay.ent (L' := objA l (recO x .busy none) :: blk b5 ⟨[v'], 40⟩ :: sl v' (mrow str 9 u.dropLast) :: blk b3 ⟨[.int .i64 0], 25⟩ :: blk b2 ⟨[.slice none 0 0], 40⟩ :: F)).trans (Ent.cons (Ent.shut (X := namesX b2 b3 b5 u.dropLast) v'))
                  refine c_round ?_
                  exact .inl ⟨_, hstep, rfl, rfl⟩
                · have hstep : stepN u p = some (u ++ [p]) := (if_neg g16).trans ((if_neg g17).trans (if_neg hd))
                  refine r_region (id := 14) ?_
                  refine o_give (g_load (evv rfl) (by rfl) (by rfl)) rfl rfl ?_
                  refine o_give (g_move (evv rfl)) rfl rfl ?_
                  refine o_litT rfl (by rfl) rfl (fun _ => ?_)
                  refine o_appM (evv rfl) (evv rfl) (by rfl) (by rfl) (by rfl) (by (try simp only [bsOf, List.length_append, List.length_cons, List.length_nil, List.length_take, List.length_drop]); omega) rfl (fun _ => ?_)
                  refine o_store1 (evv rfl) (evv rfl) (by rfl) (by rfl) (by rfl) ?_
                  refine o_nil ?_
                  refine c_blk ?_
                  refine c_blk ?_
                  rename_i _ v'
                  refine c_ent (objA l (recO x .busy none) :: namesA b2 b3 b5 (u ++ [p]) :: F) ((Lay.ent (L' := objA l (recO x .busy none) :: blk b5 ⟨[v'], 40⟩ :: sl v' (mrow str 9 (u ++ [p])) :: blk b3 ⟨[.int .i64 0], 25⟩ :: blk b2 ⟨[.slice none 0 0], 40⟩ :: F)).trans (Ent.cons (Ent.shut (X := namesX b2 b3 b5 (u ++ [p])) v'))) ?_
                  refine c_round ?_
                  exact .inl ⟨_, hstep, rfl, rfl⟩
          · show Ent (objA l (recO x .ready none) :: objA x.d defO :: blk pb ⟨[str s], 9⟩ :: blk b5 ⟨[.slice none 0 0], 40⟩ :: blk b3 ⟨[.int .i64 0], 25⟩ :: blk b2 ⟨[.slice none 0 0], 40⟩ :: L) _
            refine (Ent.nilM str 9).trans ?_
            exact (Lay.ent (L' := blk pb ⟨[str s], 9⟩ :: objA l (recO x .ready none) :: blk b5 ⟨[.slice none 0 0], 40⟩ :: sl (.slice none 0 0) (mrow str 9 []) :: blk b3 ⟨[.int .i64 0], 25⟩ :: blk b2 ⟨[.slice none 0 0], 40⟩ :: objA x.d defO :: L)).trans (Ent.cons (Ent.cons (Ent.shut (X := namesX b2 b3 b5 []) (.slice none 0 0))))
          · rintro v L' ⟨r, ⟨u, h1, rfl⟩ | ⟨h1, rfl⟩⟩
            · rw [fold_eq] at h1
              exact ⟨_, Lay.ent (L' := objA l (recO x .ready none) :: objA x.d defO :: namesA b2 b3 b5 u :: L), _, _, _, by decide, rfl, .inl ⟨rfl, u, h1, rfl⟩⟩
            · rw [fold_eq] at h1
              exact ⟨_, Lay.ent (L' := objA l (recO x .done (some .ret)) :: objA x.d defO :: badA b2 b3 :: L), _, _, _, by decide, rfl, .inr ⟨rfl, h1, rfl⟩⟩
        · rintro d L2 (⟨-, l, hl, rfl⟩ | ⟨h, -⟩)
          · rw [hP, hl]
            refine c_ent (namesA b2 b3 b5 l :: objA d defO :: L) Ent.swap ?_
            refine c_exA fun v => ?_
            simp only [namesX, List.cons_append, List.nil_append]
            refine c_blk ?_
            refine c_code ?_
            refine r_seq ?_
            refine r_seq ?_
            refine r_region (id := 20) ?_
            refine o_give (g_load (evv rfl) (by rfl) (by rfl)) rfl rfl ?_
            refine o_give (g_lenM (evv rfl)) rfl rfl ?_
            refine o_give (g_bin (evv rfl) (evv rfl) (by rfl)) rfl rfl ?_
            refine o_nil ?_
            refine c_code ?_
            refine r_cond rfl (fun h8 => ?_) (fun h8 => ?_) <;> (try simp only [decide_eq_true_eq, decide_eq_false_iff_not, Bool.and_eq_true, Bool.or_eq_true, Bool.not_eq_true', Bool.and_eq_false_iff, Bool.or_eq_false_iff, Bool.not_eq_false', Bool.not_eq_true, Bool.not_eq_false, Bool.true_eq_false, Bool.false_eq_true, Int.not_lt, Int.not_le, not_and, not_or, ne_eq] at h8)
            · refine r_seq ?_
              refine r_region (id := 21) ?_
              refine o_store1 (evv rfl) (evv rfl) (by rfl) (by rfl) (by rfl) ?_
              refine o_store1 (evv rfl) (evv rfl) (by rfl) (by rfl) (by rfl) ?_
              refine o_nil ?_
              refine c_code ?_
              rw [if_pos (by omega)]
              first | refine r_retDC (rs := [.cell 2 40, .cell 3 25]) rfl _ (by first | exact ro_agg rfl rfl (by first | rfl | (simp [bys, *]; done)) (by first | exact ro_agg rfl rfl (by first | rfl | (simp [bys, *]; done)) ro_nil | exact ro_cell rfl rfl rfl ro_nil) | exact ro_cell rfl rfl rfl (by first | exact ro_agg rfl rfl (by first | rfl | (simp [bys, *]; done)) ro_nil | exact ro_cell rfl rfl rfl ro_nil)) ((Lay.ent (L' := objA d defO :: blk b3 ⟨[.int .i64 42], 25⟩ :: blk b2 ⟨[.slice none 0 0], 40⟩ :: L))) _ (((Ent.drop.trans Ent.drop).trans (Ent.nilM str 9))) ?_ | refine c_endDC (rs := [.cell 2 40, .cell 3 25]) rfl _ (by first | exact ro_agg rfl rfl (by first | rfl | (simp [bys, *]; done)) (by first | exact ro_agg rfl rfl (by first | rfl | (simp [bys, *]; done)) ro_nil | exact ro_cell rfl rfl rfl ro_nil) | exact ro_cell rfl rfl rfl (by first | exact ro_agg rfl rfl (by first | rfl | (simp [bys, *]; done)) ro_nil | exact ro_cell rfl rfl rfl ro_nil)) ((Lay.ent (L' := objA d defO :: blk b3 ⟨[.int .i64 42], 25⟩ :: blk b2 ⟨[.slice none 0 0], 40⟩ :: L))) _ (((Ent.drop.trans Ent.drop).trans (Ent.nilM str 9))) ?_
              exact ⟨_, rfl, rfl⟩
            · refine r_skip ?_
              refine c_code ?_
              refine r_seq ?_
              refine r_region (id := 22) ?_
              refine o_give (g_load (evv rfl) (by rfl) (by rfl)) rfl rfl ?_
              refine o_store1 (evv rfl) (evv rfl) (by rfl) (by rfl) (by rfl) ?_
              refine o_store1 (evv rfl) (evv rfl) (by rfl) (by rfl) (by rfl) ?_
              refine o_nil ?_
              refine c_code ?_
              rw [if_neg (by omega)]
              first | refine r_retDC (rs := [.cell 2 40, .cell 3 25]) rfl _ (by first | exact ro_agg rfl rfl (by first | rfl | (simp [bys, *]; done)) (by first | exact ro_agg rfl rfl (by first | rfl | (simp [bys, *]; done)) ro_nil | exact ro_cell rfl rfl rfl ro_nil) | exact ro_cell rfl rfl rfl (by first | exact ro_agg rfl rfl (by first | rfl | (simp [bys, *]; done)) ro_nil | exact ro_cell rfl rfl rfl ro_nil)) ((Lay.ent (L' := objA d defO :: blk b3 ⟨[.int .i64 0], 25⟩ :: blk b2 ⟨[v], 40⟩ :: sl v (mrow str 9 l) :: L))) _ ((Ent.drop.trans Ent.drop)) ?_ | refine c_endDC (rs := [.cell 2 40, .cell 3 25]) rfl _ (by first | exact ro_agg rfl rfl (by first | rfl | (simp [bys, *]; done)) (by first | exact ro_agg rfl rfl (by first | rfl | (simp [bys, *]; done)) ro_nil | exact ro_cell rfl rfl rfl ro_nil) | exact ro_cell rfl rfl rfl (by first | exact ro_agg rfl rfl (by first | rfl | (simp [bys, *]; done)) ro_nil | exact ro_cell rfl rfl rfl ro_nil)) ((Lay.ent (L' := objA d defO :: blk b3 ⟨[.int .i64 0], 25⟩ :: blk b2 ⟨[v], 40⟩ :: sl v (mrow str 9 l) :: L))) _ ((Ent.drop.trans Ent.drop)) ?_
              exact ⟨_, rfl, rfl⟩
          · cases h
        · rintro d j L2 (⟨h, -⟩ | ⟨hj, hl, rfl⟩)
          · cases h
          · cases hj
            rw [hP, hl]
            refine r_ent (badA b2 b3 :: objA d defO :: L) Ent.swap ?_
            refine r_exA fun _ => ?_
            simp only [badX, List.cons_append, List.nil_append]
            first | refine r_retDC (rs := [.cell 2 40, .cell 3 25]) rfl _ (by first | exact ro_agg rfl rfl (by first | rfl | (simp [bys, *]; done)) (by first | exact ro_agg rfl rfl (by first | rfl | (simp [bys, *]; done)) ro_nil | exact ro_cell rfl rfl rfl ro_nil) | exact ro_cell rfl rfl rfl (by first | exact ro_agg rfl rfl (by first | rfl | (simp [bys, *]; done)) ro_nil | exact ro_cell rfl rfl rfl ro_nil)) ((Lay.ent (L' := objA d defO :: blk b3 ⟨[.int .i64 41], 25⟩ :: blk b2 ⟨[.slice none 0 0], 40⟩ :: L))) _ (((Ent.drop.trans Ent.drop).trans (Ent.nilM str 9))) ?_ | refine c_endDC (rs := [.cell 2 40, .cell 3 25]) rfl _ (by first | exact ro_agg rfl rfl (by first | rfl | (simp [bys, *]; done)) (by first | exact ro_agg rfl rfl (by first | rfl | (simp [bys, *]; done)) ro_nil | exact ro_cell rfl rfl rfl ro_nil) | exact ro_cell rfl rfl rfl (by first | exact ro_agg rfl rfl (by first | rfl | (simp [bys, *]; done)) ro_nil | exact ro_cell rfl rfl rfl ro_nil)) ((Lay.ent (L' := objA d defO :: blk b3 ⟨[.int .i64 41], 25⟩ :: blk b2 ⟨[.slice none 0 0], 40⟩ :: L))) _ (((Ent.drop.trans Ent.drop).trans (Ent.nilM str 9))) ?_
            exact ⟨_, rfl, rfl⟩
end VK
