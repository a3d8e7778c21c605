/- slices.Sorted of slices.Values, at []int64; what most have reached. Conditions: few elements. -/
import Derived.Test.YtccpfdhmffciaaaView2
import Derived.Test.YtccpfdhmffciaaaSortI
namespace VK
open Go Go.Proofs
set_option linter.unusedSimpArgs false
set_option linter.unusedVariables false
set_option maxRecDepth 100000
set_option maxHeartbeats 40000000
theorem Fn.post {P : Program} {f : FuncId} {args : List Value} {L : List Atom} {R R' : Value → List Atom → Prop} (h : Fn P f args L R) (hr : ∀ v L', R v L' → ∃ L'', Ent L' L'' ∧ R' v L'') : Fn P f args L R' := by
  unfold Fn at *
  intro W0 w hs
  refine (h W0 w hs).mono ?_
  rintro e w' ⟨v, L', rfl, hR, hS⟩
  obtain ⟨L'', h1, h2⟩ := hr v L' hR
  exact ⟨v, L'', rfl, h2, hS.ent h1⟩
theorem vals1_c {l : Nat} {R0 : Obj} {B : List Int → Atom} (b : Nat) (v : Value) (xs : List Int) (F : List Atom) [rd : Rd F v (mrow i64v 2 xs)]
    (hY : ∀ F i, i < xs.length → Yields Try.prog l [.int .i64 (xs.getD i default)] (objA l R0 :: B (xs.take i) :: F) (fun w L' => w = .bool true ∧ L' = objA l R0 :: B (xs.take (i + 1)) :: F)) :
    Fn Try.prog 31 [.func (.yield l) #[] #[], .pointer (some ⟨b, 0, none⟩)] (blk b ⟨[v], 34⟩ :: objA l R0 :: B [] :: F)
      (fun _ L' => L' = blk b ⟨[v], 34⟩ :: objA l R0 :: B xs :: F) := by
  refine fn_lenM (Rd.tail _ _ _ _ (h := Rd.tail _ _ _ _ (h := Rd.tail _ _ _ _ (h := rd)))) fun hlen => ?_
  have hlen : xs.length ≤ 2 ^ 63 - 1 := hlen
  refine fn_introY Try.func31 rfl Try.ntmps31 rfl (fun W0 => ?_)
  simp only [argE]
  refine r_seq ?_
  refine r_region (id := 0) ?_
  refine o_give (g_load (evv rfl) (by rfl) (by rfl)) rfl rfl ?_
  refine o_give (g_lenM (evv rfl)) rfl rfl ?_
  refine o_give (g_move (evv rfl)) rfl rfl ?_
  refine o_nil ?_
  refine c_code ?_
  refine r_block ?_
  refine r_loopE (σ := Nat) (fun i => i ≤ xs.length) (fun i => xs.length - i) (fun i => [(7, .v (.int .i64 i))]) [0, 5, 6] (fun i => blk b ⟨[v], 34⟩ :: objA l R0 :: B (xs.take i) :: F) 0 (by dsimp only [pickE, pick1, lk2, Nat.reduceBEq, Nat.reduceAdd, Nat.zero_add, cond_true, cond_false] <;> exact rfl) ?_ (by repeat (first | exact trivial | refine ⟨rfl, ?_⟩ | refine envsub_v rfl (by first | rfl | (refine int_eq ?_; first | omega | (simp; omega) | (simp; done)) | (refine bool_eq ?_; first | (simp [*]; done) | (simp; done)) | (refine str_eq ?_; simp; done) | (refine ptr_eq ?_; omega) | fail) ?_)) ?_ ?_
  · exact Nat.zero_le _
  · rw [List.take_zero]
    exact Ent.refl _
  rintro i hi; (try dsimp only at hi); dsimp only [List.cons_append, List.nil_append]
  refine r_seq ?_
  refine r_region (id := 1) ?_
  refine o_give (g_bin (evv rfl) (evv rfl) (by rfl)) rfl rfl ?_
  refine o_nil ?_
  refine c_code ?_
  refine r_seq ?_
  refine r_cond rfl (fun hc => ?_) (fun hc => ?_) <;> (try simp only [decide_eq_true_eq, decide_eq_false_iff_not, Bool.and_eq_true, Bool.or_eq_true, Bool.not_eq_true', Bool.and_eq_false_iff, Bool.or_eq_false_iff, Bool.not_eq_false', Bool.not_eq_true, Bool.not_eq_false, Bool.true_eq_false, Bool.false_eq_true, Int.not_lt, Int.not_le, not_and, not_or, ne_eq] at hc)
  · have hil : i < xs.length := by omega
    refine r_skip ?_
    refine c_code ?_
    refine r_seq ?_
    refine r_block ?_
    refine r_seq ?_
    refine r_region (id := 2) ?_
    refine o_give (g_idxMN (evv rfl) (evv rfl) (by rfl) (by first | omega | (have := of_decide_eq_true hg; omega) | (simp at hg; omega) | (simp only [List.length_set, List.length_append, List.length_cons, List.length_nil, List.length_map, List.length_take, List.length_drop, List.length_replicate]; omega))) rfl rfl ?_
    refine o_give (g_loadM (evv rfl) (by rfl) (by first | omega | (have := of_decide_eq_true hg; omega) | (simp at hg; omega) | (simp only [List.length_set, List.length_append, List.length_cons, List.length_nil, List.length_map, List.length_take, List.length_drop, List.length_replicate]; omega))) rfl rfl ?_
    refine o_give (g_assign (evv rfl)) rfl rfl ?_
    refine o_nil ?_
    refine c_code ?_
    refine r_seq ?_
    refine r_region (id := 3) ?_
    refine o_give (g_move (evv rfl)) rfl rfl ?_
    refine o_give (g_move (evv rfl)) rfl rfl ?_
    simp only [i64v]
    refine o_yield rfl rfl rfl (objA l R0 :: B (xs.take i) :: blk b ⟨[v], 34⟩ :: F) (Lay.ent) (hY _ _ hil) rfl ?_
    rintro w L' ⟨rfl, rfl⟩
    refine o_give (g_not (evv rfl)) rfl rfl ?_
    refine o_nil ?_
    refine c_code ?_
    refine r_cond_false rfl ?_
    refine r_skip ?_
    refine c_blk ?_
    refine c_code ?_
    refine r_region (id := 4) ?_
    refine o_giveN (g_bin (evv rfl) (evv rfl) (by rfl)) (by simp only [inR]; omega) rfl ?_
    refine o_give (g_move (evv rfl)) rfl rfl ?_
    refine o_nil ?_
    refine c_loop (i + 1) ?_ ?_ (by repeat (first | exact trivial | refine ⟨rfl, ?_⟩ | refine envsub_v rfl (by first | rfl | (refine int_eq ?_; first | omega | (simp; omega) | (simp; done)) | (refine bool_eq ?_; first | (simp [*]; done) | (simp; done)) | (refine str_eq ?_; simp; done) | (refine ptr_eq ?_; omega) | fail) ?_)) ?_ <;> (try dsimp only)
    · omega
    · omega
    · exact Lay.ent
  · rw [List.take_of_length_le (by omega)]
    refine r_exit rfl ?_
    first | refine r_ret (rs := []) rfl rfl _ (Ent.refl _) ?_ | refine c_end (rs := []) rfl rfl _ (Ent.refl _) ?_
    rfl
def accX (b : Nat) (u : List Int) (w : Value) : List Atom := [blk b ⟨[w], 34⟩, sl w (mrow i64v 2 u)]
def accA (b : Nat) (u : List Int) : Atom := exA (accX b u)
theorem AppSeq_c (F : List Atom) (b : Nat) (v : Value) (xs : List Int) (hx : xs.length ≤ 1048576) [rd : Rd F v (mrow i64v 2 xs)] :
    Fn Try.prog 34 [.slice none 0 0, .func (.func 31) #[] #[.pointer (some ⟨b, 0, none⟩)]] (blk b ⟨[v], 34⟩ :: F)
      fun w L' => True ∧ L' = sl w (mrow i64v 2 xs) :: F := by
  refine fn_intro Try.func34 rfl Try.ntmps34 rfl (fun W0 => ?_)
  simp only [argE]
  refine r_seq ?_
  refine r_region (id := 0) ?_
  refine o_box1 (evv rfl) rfl (fun _ => ?_)
  refine o_give (g_assign (evv rfl)) rfl rfl ?_
  refine o_nil ?_
  refine c_code ?_
  refine r_seq ?_
  refine r_seq ?_
  refine r_region (id := 1) ?_
  refine o_give (g_move (evv rfl)) rfl rfl ?_
  refine o_nil ?_
  refine c_code ?_
  refine r_block ?_
  rename_i b2
  repeat (first | refine r_seq ?_ | refine c_code ?_ | refine r_block ?_)
  refine r_range (fun j L2 => j = none ∧ L2 = accA b2 xs :: F) rfl ?_ ?_ ?_
  · intro l x hps hasg hbody hE
    refine Fn.post (Fn.pre (vals1_c (l := l) (R0 := recO x .ready none) (B := accA b2) b v xs (objA x.d defO :: F) ?_) ?_) ?_
    · intro F i hi
      refine yields_one (n := 13) (fn0 := Try.f34) hps hE rfl (fun W0 => ?_)
      rw [hasg]
      refine r_region (id := 2) ?_
      refine o_give (g_assign (evv rfl)) rfl rfl ?_
      refine o_nil ?_
      refine c_begin ?_
      rw [hbody]
      refine r_ent (accA b2 (xs.take i) :: objA l (recO x .busy none) :: F) Ent.swap ?_
      refine r_exA fun w => ?_
      simp only [accX, List.cons_append, List.nil_append]
      refine r_block ?_
      refine r_region (id := 3) ?_
      refine o_give (g_load (evv rfl) (by rfl) (by rfl)) rfl rfl ?_
      refine o_give (g_move (evv rfl)) rfl rfl ?_
      refine o_litI rfl (by rfl) rfl (fun _ => ?_)
      refine o_appM (evv rfl) (evv rfl) (by rfl) (by rfl) (by rfl) (by (try simp only [bsOf, List.length_append, List.length_cons, List.length_nil, List.length_take, List.length_drop, List.length_map, List.length_range]); omega) rfl (fun _ => ?_)
      refine o_store1 (evv rfl) (evv rfl) (by rfl) (by rfl) (by rfl) ?_
      refine o_nil ?_
      refine c_blk ?_
      rename_i w1 w'
      have hs : xs.take (i + 1) = xs.take i ++ [xs.getD i default] := by
        rw [List.take_succ_eq_append_getElem hi]
        simp [List.getD_eq_getElem?_getD, hi]
      refine c_ent (objA l (recO x .busy none) :: accA b2 (xs.take (i + 1)) :: F) ?_ ?_
      · rw [hs]
        exact (Lay.ent (L' := objA l (recO x .busy none) :: blk b2 ⟨[w'], 34⟩ :: sl w' (mrow i64v 2 (xs.take i ++ [xs.getD i default])) :: F)).trans (Ent.cons (Ent.shut (X := accX b2 (xs.take i ++ [xs.getD i default])) w'))
      refine c_round ?_
      exact ⟨rfl, rfl⟩
    · refine (Ent.nilM i64v 2).trans ?_
      exact (Lay.ent (L := sl (.slice none 0 0) (mrow i64v 2 []) :: objA l (recO x .ready none) :: objA x.d defO :: blk b2 ⟨[.slice none 0 0], 34⟩ :: blk b ⟨[v], 34⟩ :: F) (L' := blk b ⟨[v], 34⟩ :: objA l (recO x .ready none) :: blk b2 ⟨[.slice none 0 0], 34⟩ :: sl (.slice none 0 0) (mrow i64v 2 []) :: objA x.d defO :: F)).trans (Ent.cons (Ent.cons (Ent.shut (X := accX b2 []) _)))
    · rintro w L' rfl
      exact ⟨_, Lay.ent (L' := objA l (recO x .ready none) :: objA x.d defO :: accA b2 xs :: F), _, _, _, by decide, rfl, rfl, rfl⟩
  · rintro d L2 ⟨-, rfl⟩
    refine c_ent (accA b2 xs :: objA d defO :: F) Ent.swap ?_
    refine c_exA fun w => ?_
    simp only [accX, List.cons_append, List.nil_append]
    refine c_blk ?_
    refine c_code ?_
    refine r_seq ?_
    refine r_region (id := 4) ?_
    refine o_give (g_load (evv rfl) (by rfl) (by rfl)) rfl rfl ?_
    refine o_give (g_assign (evv rfl)) rfl rfl ?_
    refine o_nil ?_
    refine c_code ?_
    first | refine r_retDC (rs := [.tmp 4]) rfl _ (ro_tmp rfl ro_nil) ((Lay.ent (L' := objA d defO :: sl w (mrow i64v 2 xs) :: F))) _ (Ent.refl _) ?_ | refine c_endDC (rs := [.tmp 4]) rfl _ (ro_tmp rfl ro_nil) ((Lay.ent (L' := objA d defO :: sl w (mrow i64v 2 xs) :: F))) _ (Ent.refl _) ?_
    exact ⟨trivial, rfl⟩
  · rintro d j L2 ⟨h, -⟩
    cases h
end VK
