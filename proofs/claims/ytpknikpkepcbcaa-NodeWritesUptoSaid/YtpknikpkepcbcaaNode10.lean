/- Nodes out of plain data. Conditions: none. -/
import Derived.Test.YtpknikpkepcbcaaNode9
namespace VK
open Go Go.Proofs
set_option linter.unusedSimpArgs false
set_option linter.unusedVariables false
set_option maxRecDepth 100000
set_option maxHeartbeats 40000000
structure RawS where
  kind : Int
  data : List UInt8
  size : Int
  parts : List (Value × List UInt8)
  names : List (List UInt8)
  kinds : List Int
  sums : List (Value × List UInt8)
abbrev rawV (r : RawS) (pv nv kv sv : Value) : List Value := [.int .i64 r.kind, str r.data, .int .i64 r.size, pv, nv, kv, sv]
abbrev foldG (b : List UInt8) : Dig := ⟨foldD b, foldD_len b⟩
def kindAt (r : RawS) (i : Nat) : Int := if i < r.kinds.length then r.kinds.getD i default else 0
def sumAt (r : RawS) (i : Nat) : Dig := if i < r.sums.length then foldG (r.sums.getD i default).2 else default
def itemAt (r : RawS) (i : Nat) : Itm := ⟨r.names.getD i default, kindAt r i, sumAt r i⟩
def rawN (r : RawS) : NodeS := ⟨r.kind, r.data, r.size, r.parts.map (fun p => foldG p.2), (List.range r.names.length).map (itemAt r)⟩
structure RawR (L : List Atom) (r : RawS) (pv nv kv sv : Value) : Prop where
  pv : Rd L pv (mrow pcV 22 r.parts)
  nv : Rd L nv (mrow str 9 r.names)
  kv : Rd L kv (mrow i64v 3 r.kinds)
  sv : Rd L sv (mrow pcV 22 r.sums)
  ps : ∀ p ∈ r.parts, Rd L p.1 (mrow by8 5 p.2)
  ss : ∀ p ∈ r.sums, Rd L p.1 (mrow by8 5 p.2)
  l1 : r.parts.length ≤ 1048576
  l2 : r.names.length ≤ 1048576
theorem RawR.tail {L : List Atom} {A : Atom} {r : RawS} {pv nv kv sv : Value} (h : RawR L r pv nv kv sv) : RawR (A :: L) r pv nv kv sv :=
  ⟨@Rd.tail _ _ _ _ h.pv, @Rd.tail _ _ _ _ h.nv, @Rd.tail _ _ _ _ h.kv, @Rd.tail _ _ _ _ h.sv, fun p hp => @Rd.tail _ _ _ _ (h.ps p hp), fun p hp => @Rd.tail _ _ _ _ (h.ss p hp), h.l1, h.l2⟩
theorem mkNode_c (L : List Atom) (r : RawS) (pv nv kv sv : Value) (h : RawR L r pv nv kv sv) : Fn Try.prog 13 [agg (rawV r pv nv kv sv)] L fun w L' => ∃ qv iv, w = agg (nodV (rawN r) qv iv) ∧ L' = sl qv (frow digC 32 52 (rawN r).parts) :: sl iv (frow itmC 34 54 (rawN r).items) :: L := by
  obtain ⟨h1, h2, h3, h4, h5, h6, h7, h8⟩ := h
  refine fn_lenM h3 fun hl3 => ?_
  refine fn_lenM h4 fun hl4 => ?_
  have hl3 : r.kinds.length ≤ 2 ^ 63 - 1 := hl3
  have hl4 : r.sums.length ≤ 2 ^ 63 - 1 := hl4
  refine fn_intro Try.func13 rfl Try.ntmps13 rfl (fun W0 => ?_)
  simp only [argE, rawV]
  refine r_seq ?_
  refine r_region (id := 0) ?_
  refine o_boxA (evv rfl) rfl (fun _ => ?_)
  refine o_alloc rfl rfl (fun _ => ?_)
  refine o_nil ?_
  refine c_code ?_
  refine r_seq ?_
  refine r_region (id := 1) ?_
  refine o_give (g_fld (evv rfl)) rfl rfl ?_
  refine o_give (g_load (evv rfl) (by rfl) (by rfl)) rfl rfl ?_
  refine o_give (g_fld (evv rfl)) rfl rfl ?_
  refine o_give (g_load (evv rfl) (by rfl) (by rfl)) rfl rfl ?_
  refine o_give (g_fld (evv rfl)) rfl rfl ?_
  refine o_give (g_load (evv rfl) (by rfl) (by rfl)) rfl rfl ?_
  refine o_give (g_buildC rfl (by rfl)) rfl rfl ?_
  refine o_alloc rfl rfl (fun _ => ?_)
  refine o_storeW (evv rfl) (evv rfl) (by first | rfl | assumption | exact LenC.h _ | (simp [bys, *]; done) | fail) (by first | (intro _ _ _; exact bys_one _) | exact AllOne.h | (intro _ _ _ u hu; simp at hu; rcases hu with rfl | rfl | rfl | rfl | rfl | rfl | rfl | rfl <;> rfl) | fail) (by first | rfl | exact (LenC.h _).trans rfl | (simp [bys, *]; done) | (simp only [bys, List.length_map, *]; rfl) | fail) ?_
  refine o_nil ?_
  refine c_code ?_
  refine r_seq ?_
  refine r_seq ?_
  refine r_region (id := 2) ?_
  refine o_give (g_assign (evv rfl)) rfl rfl ?_
  refine o_nil ?_
  refine c_code ?_
  refine r_block ?_
  rename_i q z p
  generalize hZ : cellsL _ = Z
  have hZl : Z.length = 5 := by rw [← hZ]; rfl
  refine r_loopE (σ := Nat × Value) (fun ⟨i, v⟩ => i ≤ r.parts.length) (fun ⟨i, v⟩ => r.parts.length - i) (fun ⟨i, v⟩ => [(4, .v (.int .i64 i))]) [1, 2, 3] (fun ⟨i, v⟩ => blk p ⟨[.int .i64 r.kind, str r.data, .int .i64 r.size, v, .slice none 0 0], 27⟩ :: sl v (frow digC 32 52 ((r.parts.take i).map (fun p => foldG p.2))) :: blk z ⟨Z, 27⟩ :: blk q ⟨[.int .i64 r.kind, str r.data, .int .i64 r.size, pv, nv, kv, sv], 39⟩ :: L) (0, .slice none 0 0) (by dsimp only [pickE, pick1, lk2, Nat.reduceBEq, Nat.reduceAdd, Nat.zero_add, cond_true, cond_false] <;> exact rfl) ?_ (by repeat (first | exact trivial | refine ⟨rfl, ?_⟩ | refine envsub_v rfl (by first | rfl | (refine int_eq ?_; first | omega | (simp; omega) | (simp; done)) | (refine bool_eq ?_; first | (simp [*]; done) | (simp; done)) | (refine str_eq ?_; simp; done) | (refine ptr_eq ?_; omega) | fail) ?_)) ?_ ?_
  · exact Nat.zero_le _
  · exact (Ent.nilsl 52 32).trans (by simp only [List.take_zero, List.map_nil, List.range_zero]; exact Lay.ent (L := sl (.slice none 0 0) (frow digC 32 52 ([])) :: blk p ⟨[.int .i64 r.kind, str r.data, .int .i64 r.size, .slice none 0 0, .slice none 0 0], 27⟩ :: blk z ⟨Z, 27⟩ :: blk q ⟨[.int .i64 r.kind, str r.data, .int .i64 r.size, pv, nv, kv, sv], 39⟩ :: L))
  rintro ⟨i, v⟩ hi; (try dsimp only at hi); dsimp only [List.cons_append, List.nil_append]
  refine r_seq ?_
  refine r_seq ?_
  refine r_region (id := 3) ?_
  refine o_give (g_move (evv rfl)) rfl rfl ?_
  refine o_give (g_fld (evv rfl)) rfl rfl ?_
  refine o_give (g_load (evv rfl) (by rfl) (by rfl)) rfl rfl ?_
  refine o_give (g_lenM (evv rfl)) rfl rfl ?_
  refine o_give (g_bin (evv rfl) (evv rfl) (by rfl)) rfl rfl ?_
  refine o_nil ?_
  refine c_code ?_
  refine r_cond rfl (fun hc => ?_) (fun hc => ?_) <;> (try simp only [decide_eq_true_eq, decide_eq_false_iff_not, Bool.and_eq_true, Bool.or_eq_true, Bool.not_eq_true', Bool.and_eq_false_iff, Bool.or_eq_false_iff, Bool.not_eq_false', Bool.not_eq_true, Bool.not_eq_false, Bool.true_eq_false, Bool.false_eq_true, Int.not_lt, Int.not_le, not_and, not_or, ne_eq] at hc)
  · have hil : i < r.parts.length := by omega
    haveI r5 := h5 (r.parts.getD i default) (by simp [hil])
    haveI : Rd L (pcV (r.parts.getD i default)) (mrow by8 5 (r.parts.getD i default).2) := r5
    have hs : (r.parts.take (i + 1)).map (fun p => foldG p.2) = (r.parts.take i).map (fun p => foldG p.2) ++ [foldG (r.parts.getD i default).2] := by
      rw [List.take_succ_eq_append_getElem hil, List.map_append]
      simp [List.getD_eq_getElem?_getD, hil]
    repeat (first | refine r_seq ?_ | refine c_code ?_ | refine c_blk ?_ | refine r_block ?_ | refine r_skip ?_)
    refine r_cutE (σ := Value) (fun v' => []) [1, 2, 3, 4, 14, 15, 16, 17, 18] (fun v' => blk p ⟨[.int .i64 r.kind, str r.data, .int .i64 r.size, v', .slice none 0 0], 27⟩ :: sl v' (frow digC 32 52 ((r.parts.take i).map (fun p => foldG p.2) ++ [foldG (r.parts.getD i default).2])) :: blk z ⟨Z, 27⟩ :: blk q ⟨[.int .i64 r.kind, str r.data, .int .i64 r.size, pv, nv, kv, sv], 39⟩ :: L) (by dsimp only [pickE, pick1, lk2, Nat.reduceBEq, Nat.reduceAdd, Nat.zero_add, cond_true, cond_false] <;> exact rfl) ?_ ?_
    · refine r_held (id := 5) (blk q ⟨[.int .i64 r.kind, str r.data, .int .i64 r.size, pv, nv, kv, sv], 39⟩ :: L) Mixed.h ?_
      (refine h_give (i := 0) (by kernel_rfl) rfl (g_fld (evv rfl)) rfl rfl ?_)
      (refine h_give (i := 2) (by kernel_rfl) rfl (g_fld (evv rfl)) rfl rfl ?_)
      (refine h_give (i := 3) (by kernel_rfl) rfl (g_load (evv rfl) (by rfl) (by rfl)) rfl rfl ?_)
      (refine h_give (i := 4) (by kernel_rfl) rfl (g_move (evv rfl)) rfl rfl ?_)
      (refine h_give (i := 5) (by kernel_rfl) rfl (g_idxMN (evv rfl) (evv rfl) (by rfl) (by first | omega | (have := of_decide_eq_true hg; omega) | (simp at hg; omega) | (simp only [List.length_set, List.length_append, List.length_cons, List.length_nil, List.length_map, List.length_take, List.length_drop, List.length_replicate]; omega))) rfl rfl ?_)
      (refine h_give (i := 6) (by kernel_rfl) rfl (g_loadM (evv rfl) (by rfl) (by first | omega | (have := of_decide_eq_true hg; omega) | (simp at hg; omega) | (simp only [List.length_set, List.length_append, List.length_cons, List.length_nil, List.length_map, List.length_take, List.length_drop, List.length_replicate]; omega))) rfl rfl ?_)
      refine h_two (i := 1) (j := 7) (by kernel_rfl) rfl rfl (Lay.ent) ?_ ?_
      · (refine o_give (g_load (evv rfl) (by rfl) (by rfl)) rfl rfl ?_); refine o_nil ?_
        refine h_one (i := 7) (by kernel_rfl) rfl (Lay.ent) ?_
        ((refine o_call rfl _ (Ent.refl _) (Fold_c _ _ _) rfl ?_; rintro _ _ ⟨rfl, hLz⟩; obtain rfl := hLz.symm; clear hLz)); refine o_nil ?_
        refine h_one (i := 8) (by kernel_rfl) rfl (Lay.ent) ?_
        (refine o_litS rfl (by rfl) inferInstance (by rfl) rfl (fun _ => ?_)); refine o_nil ?_
        refine h_one (i := 9) (by kernel_rfl) rfl (Lay.ent) ?_
        (refine o_appF (evv rfl) (evv rfl) (by rfl) (by rfl) (by rfl) (by (try simp only [bsOf, List.length_append, List.length_cons, List.length_nil, List.length_take, List.length_drop, List.length_map, List.length_range]); omega) rfl (fun _ => ?_)); refine o_nil ?_
        (refine h_give (i := 10) (by kernel_rfl) rfl (g_fld (evv rfl)) rfl rfl ?_)
        refine h_one (i := 11) (by kernel_rfl) rfl (Lay.ent) ?_
        (refine o_store1 (evv rfl) (evv rfl) (by rfl) (by rfl) (by rfl) ?_); refine o_nil ?_
        refine h_done (by kernel_rfl) (Lay.ent) ?_
        exact c_cut (by assumption) (by repeat (first | exact trivial | refine ⟨rfl, ?_⟩ | refine envsub_v rfl (by first | rfl | (refine int_eq ?_; first | omega | (simp; omega) | (simp; done)) | (refine bool_eq ?_; first | (simp [*]; done) | (simp; done)) | (refine str_eq ?_; simp; done) | (refine ptr_eq ?_; omega) | fail) ?_)) (Lay.ent)
      · ((refine o_call rfl _ (Ent.refl _) (Fold_c _ _ _) rfl ?_; rintro _ _ ⟨rfl, hLz⟩; obtain rfl := hLz.symm; clear hLz)); refine o_nil ?_
        refine h_two (i := 1) (j := 8) (by kernel_rfl) rfl rfl (Lay.ent) ?_ ?_
        · (refine o_give (g_load (evv rfl) (by rfl) (by rfl)) rfl rfl ?_); refine o_nil ?_
          refine h_one (i := 8) (by kernel_rfl) rfl (Lay.ent) ?_
          (refine o_litS rfl (by rfl) inferInstance (by rfl) rfl (fun _ => ?_)); refine o_nil ?_
          refine h_one (i := 9) (by kernel_rfl) rfl (Lay.ent) ?_
          (refine o_appF (evv rfl) (evv rfl) (by rfl) (by rfl) (by rfl) (by (try simp only [bsOf, List.length_append, List.length_cons, List.length_nil, List.length_take, List.length_drop, List.length_map, List.length_range]); omega) rfl (fun _ => ?_)); refine o_nil ?_
          (refine h_give (i := 10) (by kernel_rfl) rfl (g_fld (evv rfl)) rfl rfl ?_)
          refine h_one (i := 11) (by kernel_rfl) rfl (Lay.ent) ?_
          (refine o_store1 (evv rfl) (evv rfl) (by rfl) (by rfl) (by rfl) ?_); refine o_nil ?_
          refine h_done (by kernel_rfl) (Lay.ent) ?_
          exact c_cut (by assumption) (by repeat (first | exact trivial | refine ⟨rfl, ?_⟩ | refine envsub_v rfl (by first | rfl | (refine int_eq ?_; first | omega | (simp; omega) | (simp; done)) | (refine bool_eq ?_; first | (simp [*]; done) | (simp; done)) | (refine str_eq ?_; simp; done) | (refine ptr_eq ?_; omega) | fail) ?_)) (Lay.ent)
        · (refine o_litS rfl (by rfl) inferInstance (by rfl) rfl (fun _ => ?_)); refine o_nil ?_
          refine h_one (i := 1) (by kernel_rfl) rfl (Lay.ent) ?_
          (refine o_give (g_load (evv rfl) (by rfl) (by rfl)) rfl rfl ?_); refine o_nil ?_
          refine h_one (i := 9) (by kernel_rfl) rfl (Lay.ent) ?_
          (refine o_appF (evv rfl) (evv rfl) (by rfl) (by rfl) (by rfl) (by (try simp only [bsOf, List.length_append, List.length_cons, List.length_nil, List.length_take, List.length_drop, List.length_map, List.length_range]); omega) rfl (fun _ => ?_)); refine o_nil ?_
          (refine h_give (i := 10) (by kernel_rfl) rfl (g_fld (evv rfl)) rfl rfl ?_)
          refine h_one (i := 11) (by kernel_rfl) rfl (Lay.ent) ?_
          (refine o_store1 (evv rfl) (evv rfl) (by rfl) (by rfl) (by rfl) ?_); refine o_nil ?_
          refine h_done (by kernel_rfl) (Lay.ent) ?_
          exact c_cut (by assumption) (by repeat (first | exact trivial | refine ⟨rfl, ?_⟩ | refine envsub_v rfl (by first | rfl | (refine int_eq ?_; first | omega | (simp; omega) | (simp; done)) | (refine bool_eq ?_; first | (simp [*]; done) | (simp; done)) | (refine str_eq ?_; simp; done) | (refine ptr_eq ?_; omega) | fail) ?_)) (Lay.ent)
    intro v'
    dsimp only [List.cons_append, List.nil_append]
    rw [← hs]
    refine c_blk ?_
    refine c_code ?_
    refine r_region (id := 4) ?_
    refine o_give (g_move (evv rfl)) rfl rfl ?_
    refine o_giveN (g_bin (evv rfl) (evv rfl) (by rfl)) (by simp only [inR]; omega) rfl ?_
    refine o_give (g_assign (evv rfl)) rfl rfl ?_
    refine o_nil ?_
    refine c_loop (i + 1, v') ?_ ?_ (by repeat (first | exact trivial | refine ⟨rfl, ?_⟩ | refine envsub_v rfl (by first | rfl | (refine int_eq ?_; first | omega | (simp; omega) | (simp; done)) | (refine bool_eq ?_; first | (simp [*]; done) | (simp; done)) | (refine str_eq ?_; simp; done) | (refine ptr_eq ?_; omega) | fail) ?_)) ?_ <;> (try dsimp only)
    · omega
    · omega
    · exact Lay.ent
  · rw [List.take_of_length_le (by omega)]
    have hm : (rawN r).parts = r.parts.map (fun p => foldG p.2) := rfl
    rw [← hm]
    refine r_exit rfl ?_
    refine c_code ?_
    refine r_seq ?_
    refine r_seq ?_
    refine r_region (id := 6) ?_
    refine o_give (g_assign (evv rfl)) rfl rfl ?_
    refine o_nil ?_
    refine c_code ?_
    refine r_block ?_
    refine r_loopE (σ := Nat × Value) (fun ⟨i, w⟩ => i ≤ r.names.length) (fun ⟨i, w⟩ => r.names.length - i) (fun ⟨i, w⟩ => [(5, .v (.int .i64 i))]) [1, 2, 3] (fun ⟨i, w⟩ => blk p ⟨[.int .i64 r.kind, str r.data, .int .i64 r.size, v, w], 27⟩ :: sl w (frow itmC 34 54 ((List.range i).map (itemAt r))) :: sl v (frow digC 32 52 ((rawN r).parts)) :: blk z ⟨Z, 27⟩ :: blk q ⟨[.int .i64 r.kind, str r.data, .int .i64 r.size, pv, nv, kv, sv], 39⟩ :: L) (0, .slice none 0 0) (by dsimp only [pickE, pick1, lk2, Nat.reduceBEq, Nat.reduceAdd, Nat.zero_add, cond_true, cond_false] <;> exact rfl) ?_ (by repeat (first | exact trivial | refine ⟨rfl, ?_⟩ | refine envsub_v rfl (by first | rfl | (refine int_eq ?_; first | omega | (simp; omega) | (simp; done)) | (refine bool_eq ?_; first | (simp [*]; done) | (simp; done)) | (refine str_eq ?_; simp; done) | (refine ptr_eq ?_; omega) | fail) ?_)) ?_ ?_
    · exact Nat.zero_le _
    · exact (Ent.nilsl 54 34).trans (by simp only [List.take_zero, List.map_nil, List.range_zero]; exact Lay.ent (L := sl (.slice none 0 0) (frow itmC 34 54 ([])) :: blk p ⟨[.int .i64 r.kind, str r.data, .int .i64 r.size, v, .slice none 0 0], 27⟩ :: sl v (frow digC 32 52 ((rawN r).parts)) :: blk z ⟨Z, 27⟩ :: blk q ⟨[.int .i64 r.kind, str r.data, .int .i64 r.size, pv, nv, kv, sv], 39⟩ :: L))
    rintro ⟨i, w⟩ hi2; (try dsimp only at hi2); dsimp only [List.cons_append, List.nil_append]
    refine r_seq ?_
    refine r_seq ?_
    refine r_region (id := 7) ?_
    refine o_give (g_move (evv rfl)) rfl rfl ?_
    refine o_give (g_fld (evv rfl)) rfl rfl ?_
    refine o_give (g_load (evv rfl) (by rfl) (by rfl)) rfl rfl ?_
    refine o_give (g_lenM (evv rfl)) rfl rfl ?_
    refine o_give (g_bin (evv rfl) (evv rfl) (by rfl)) rfl rfl ?_
    refine o_nil ?_
    refine c_code ?_
    refine r_cond rfl (fun hc2 => ?_) (fun hc2 => ?_) <;> (try simp only [decide_eq_true_eq, decide_eq_false_iff_not, Bool.and_eq_true, Bool.or_eq_true, Bool.not_eq_true', Bool.and_eq_false_iff, Bool.or_eq_false_iff, Bool.not_eq_false', Bool.not_eq_true, Bool.not_eq_false, Bool.true_eq_false, Bool.false_eq_true, Int.not_lt, Int.not_le, not_and, not_or, ne_eq] at hc2)
    · have hil : i < r.names.length := by omega
      refine r_skip ?_
      refine c_code ?_
      refine r_seq ?_
      refine r_block ?_
      refine r_seq ?_
      refine r_region (id := 9) ?_
      refine o_give (g_fld (evv rfl)) rfl rfl ?_
      refine o_give (g_load (evv rfl) (by rfl) (by rfl)) rfl rfl ?_
      refine o_give (g_move (evv rfl)) rfl rfl ?_
      refine o_give (g_idxMN (evv rfl) (evv rfl) (by rfl) (by first | omega | (have := of_decide_eq_true hg; omega) | (simp at hg; omega) | (simp only [List.length_set, List.length_append, List.length_cons, List.length_nil, List.length_map, List.length_take, List.length_drop, List.length_replicate]; omega))) rfl rfl ?_
      refine o_give (g_loadM (evv rfl) (by rfl) (by first | omega | (have := of_decide_eq_true hg; omega) | (simp at hg; omega) | (simp only [List.length_set, List.length_append, List.length_cons, List.length_nil, List.length_map, List.length_take, List.length_drop, List.length_replicate]; omega))) rfl rfl ?_
      refine o_give (g_buildX (is := [0]) rfl rfl (show cellsL _ = ((Go.Value.string { data := #[] }) :: (Go.Value.int Go.IntKind.i64 0) :: bys (List.replicate 32 0)) from rfl)) rfl rfl ?_
      refine o_alloc (cs := ((Go.Value.string { data := #[] }) :: (Go.Value.int Go.IntKind.i64 0) :: bys (List.replicate 32 0))) rfl rfl (fun _ => ?_)
      refine o_storeW (evv rfl) (evv rfl) (by first | rfl | assumption | exact LenC.h _ | (simp [bys, *]; done) | fail) (by first | (intro _ _ _; exact bys_one _) | exact AllOne.h | (intro _ _ _ u hu; simp at hu; rcases hu with rfl | rfl | rfl | rfl | rfl | rfl | rfl | rfl <;> rfl) | fail) (by first | rfl | exact (LenC.h _).trans rfl | (simp [bys, *]; done) | (simp only [bys, List.length_map, *]; rfl) | fail) ?_
      refine o_nil ?_
      refine c_code ?_
      refine r_seq ?_
      refine r_seq ?_
      refine r_region (id := 10) ?_
      refine o_give (g_move (evv rfl)) rfl rfl ?_
      refine o_give (g_fld (evv rfl)) rfl rfl ?_
      refine o_give (g_load (evv rfl) (by rfl) (by rfl)) rfl rfl ?_
      refine o_give (g_lenM (evv rfl)) rfl rfl ?_
      refine o_give (g_bin (evv rfl) (evv rfl) (by rfl)) rfl rfl ?_
      refine o_nil ?_
      refine c_code ?_
      rename_i x
      repeat (first | refine r_seq ?_ | refine c_code ?_ | refine c_blk ?_ | refine r_skip ?_)
      refine r_cutE (σ := Unit) (fun u => []) [1,2,3,5,6] (fun u => blk x ⟨str (r.names.getD i default) :: .int .i64 (kindAt r i) :: bys (List.replicate 32 0), 54⟩ :: blk p ⟨[.int .i64 r.kind, str r.data, .int .i64 r.size, v, w], 27⟩ :: sl w (frow itmC 34 54 ((List.range i).map (itemAt r))) :: sl v (frow digC 32 52 ((rawN r).parts)) :: blk z ⟨Z, 27⟩ :: blk q ⟨[.int .i64 r.kind, str r.data, .int .i64 r.size, pv, nv, kv, sv], 39⟩ :: L) (by dsimp only [pickE, pick1, lk2, Nat.reduceBEq, Nat.reduceAdd, Nat.zero_add, cond_true, cond_false] <;> exact rfl) ?_ ?_
      · by_cases hk : i < r.kinds.length
        · rw [decide_eq_true (show (i : Int) < r.kinds.length by omega)]
          refine r_cond_true rfl ?_
          refine r_region (id := 11) ?_
          refine o_give (g_fld (evv rfl)) rfl rfl ?_
          refine o_give (g_load (evv rfl) (by rfl) (by rfl)) rfl rfl ?_
          refine o_give (g_move (evv rfl)) rfl rfl ?_
          refine o_give (g_idxMN (evv rfl) (evv rfl) (by rfl) (by first | omega | (have := of_decide_eq_true hg; omega) | (simp at hg; omega) | (simp only [List.length_set, List.length_append, List.length_cons, List.length_nil, List.length_map, List.length_take, List.length_drop, List.length_replicate]; omega))) rfl rfl ?_
          refine o_give (g_loadM (evv rfl) (by rfl) (by first | omega | (have := of_decide_eq_true hg; omega) | (simp at hg; omega) | (simp only [List.length_set, List.length_append, List.length_cons, List.length_nil, List.length_map, List.length_take, List.length_drop, List.length_replicate]; omega))) rfl rfl ?_
          refine o_give (g_fld (evv rfl)) rfl rfl ?_
          refine o_store1 (evv rfl) (evv rfl) (by rfl) (by rfl) (by rfl) ?_
          refine o_nil ?_
          rw [show kindAt r i = r.kinds.getD i default from if_pos hk]
          skip
          exact c_cut () (by repeat (first | exact trivial | refine ⟨rfl, ?_⟩ | refine envsub_v rfl (by first | rfl | (refine int_eq ?_; first | omega | (simp; omega) | (simp; done)) | (refine bool_eq ?_; first | (simp [*]; done) | (simp; done)) | (refine str_eq ?_; simp; done) | (refine ptr_eq ?_; omega) | fail) ?_)) ((by simp only [i64v]; exact Lay.ent))
        · rw [decide_eq_false (show ¬ (i : Int) < r.kinds.length by omega)]
          rw [show kindAt r i = 0 from if_neg hk]
          refine r_cond_false rfl ?_
          refine r_skip ?_
          exact c_cut () (by repeat (first | exact trivial | refine ⟨rfl, ?_⟩ | refine envsub_v rfl (by first | rfl | (refine int_eq ?_; first | omega | (simp; omega) | (simp; done)) | (refine bool_eq ?_; first | (simp [*]; done) | (simp; done)) | (refine str_eq ?_; simp; done) | (refine ptr_eq ?_; omega) | fail) ?_)) (Lay.ent)
      rintro ⟨⟩
      dsimp only [List.cons_append, List.nil_append]
      refine c_code ?_
      refine r_seq ?_
      refine r_seq ?_
      refine r_region (id := 12) ?_
      refine o_give (g_move (evv rfl)) rfl rfl ?_
      refine o_give (g_fld (evv rfl)) rfl rfl ?_
      refine o_give (g_load (evv rfl) (by rfl) (by rfl)) rfl rfl ?_
      refine o_give (g_lenM (evv rfl)) rfl rfl ?_
      refine o_give (g_bin (evv rfl) (evv rfl) (by rfl)) rfl rfl ?_
      refine o_nil ?_
      refine c_code ?_
      repeat (first | refine r_seq ?_ | refine c_code ?_ | refine c_blk ?_ | refine r_skip ?_)
      refine r_cutE (σ := Unit) (fun u => []) [1,2,3,5,6] (fun u => blk x ⟨itmC (itemAt r i), 54⟩ :: blk p ⟨[.int .i64 r.kind, str r.data, .int .i64 r.size, v, w], 27⟩ :: sl w (frow itmC 34 54 ((List.range i).map (itemAt r))) :: sl v (frow digC 32 52 ((rawN r).parts)) :: blk z ⟨Z, 27⟩ :: blk q ⟨[.int .i64 r.kind, str r.data, .int .i64 r.size, pv, nv, kv, sv], 39⟩ :: L) (by dsimp only [pickE, pick1, lk2, Nat.reduceBEq, Nat.reduceAdd, Nat.zero_add, cond_true, cond_false] <;> exact rfl) ?_ ?_
      · by_cases hk : i < r.sums.length
        · rw [decide_eq_true (show (i : Int) < r.sums.length by omega)]
          haveI r6 := h6 (r.sums.getD i default) (by simp [hk])
          haveI : Rd L (pcV (r.sums.getD i default)) (mrow by8 5 (r.sums.getD i default).2) := r6
          refine r_cond_true rfl ?_
          refine r_region (id := 13) ?_
          refine o_give (g_fld (evv rfl)) rfl rfl ?_
          refine o_give (g_load (evv rfl) (by rfl) (by rfl)) rfl rfl ?_
          refine o_give (g_move (evv rfl)) rfl rfl ?_
          refine o_give (g_idxMN (evv rfl) (evv rfl) (by rfl) (by first | omega | (have := of_decide_eq_true hg; omega) | (simp at hg; omega) | (simp only [List.length_set, List.length_append, List.length_cons, List.length_nil, List.length_map, List.length_take, List.length_drop, List.length_replicate]; omega))) rfl rfl ?_
          refine o_give (g_loadM (evv rfl) (by rfl) (by first | omega | (have := of_decide_eq_true hg; omega) | (simp at hg; omega) | (simp only [List.length_set, List.length_append, List.length_cons, List.length_nil, List.length_map, List.length_take, List.length_drop, List.length_replicate]; omega))) rfl rfl ?_
          (refine o_call rfl _ (Ent.refl _) (Fold_c _ _ _) rfl ?_; rintro _ _ ⟨rfl, hLz⟩; obtain rfl := hLz.symm; clear hLz)
          refine o_give (g_fld (evv rfl)) rfl rfl ?_
          refine o_storePt (evv rfl) (evv rfl) (by first | exact AllOne.h | (intro _ _ _; exact bys_one _) | fail) ?_
          refine o_nil ?_
          skip
          exact c_cut () (by repeat (first | exact trivial | refine ⟨rfl, ?_⟩ | refine envsub_v rfl (by first | rfl | (refine int_eq ?_; first | omega | (simp; omega) | (simp; done)) | (refine bool_eq ?_; first | (simp [*]; done) | (simp; done)) | (refine str_eq ?_; simp; done) | (refine ptr_eq ?_; omega) | fail) ?_)) ((by rw [show itemAt r i = ⟨r.names.getD i default, kindAt r i, foldG (r.sums.getD i default).2⟩ by rw [itemAt, show sumAt r i = foldG (r.sums.getD i default).2 from if_pos hk]]; exact (Lay.ent (L' := blk x ⟨str (r.names.getD i default) :: .int .i64 (kindAt r i) :: bys (foldD (r.sums.getD i default).2), 54⟩ :: blk p ⟨[.int .i64 r.kind, str r.data, .int .i64 r.size, v, w], 27⟩ :: sl w (frow itmC 34 54 ((List.range i).map (itemAt r))) :: sl v (frow digC 32 52 ((rawN r).parts)) :: blk z ⟨Z, 27⟩ :: blk q ⟨[.int .i64 r.kind, str r.data, .int .i64 r.size, pv, nv, kv, sv], 39⟩ :: L))))
        · rw [decide_eq_false (show ¬ (i : Int) < r.sums.length by omega)]
          refine r_cond_false rfl ?_
          refine r_skip ?_
          exact c_cut () (by repeat (first | exact trivial | refine ⟨rfl, ?_⟩ | refine envsub_v rfl (by first | rfl | (refine int_eq ?_; first | omega | (simp; omega) | (simp; done)) | (refine bool_eq ?_; first | (simp [*]; done) | (simp; done)) | (refine str_eq ?_; simp; done) | (refine ptr_eq ?_; omega) | fail) ?_)) ((by rw [show itemAt r i = ⟨r.names.getD i default, kindAt r i, default⟩ by rw [itemAt, show sumAt r i = default from if_neg hk]]; exact (Lay.ent (L' := blk x ⟨str (r.names.getD i default) :: .int .i64 (kindAt r i) :: bys (List.replicate 32 0), 54⟩ :: blk p ⟨[.int .i64 r.kind, str r.data, .int .i64 r.size, v, w], 27⟩ :: sl w (frow itmC 34 54 ((List.range i).map (itemAt r))) :: sl v (frow digC 32 52 ((rawN r).parts)) :: blk z ⟨Z, 27⟩ :: blk q ⟨[.int .i64 r.kind, str r.data, .int .i64 r.size, pv, nv, kv, sv], 39⟩ :: L))))
      rintro ⟨⟩
      dsimp only [List.cons_append, List.nil_append]
      have hs : (List.range (i + 1)).map (itemAt r) = (List.range i).map (itemAt r) ++ [itemAt r i] := by rw [List.range_succ, List.map_append]; rfl
      refine c_code ?_
      refine r_region (id := 14) ?_
      refine o_give (g_fld (evv rfl)) rfl rfl ?_
      refine o_give (g_load (evv rfl) (by rfl) (by rfl)) rfl rfl ?_
      refine o_give (g_loadW (evv rfl) (by rfl) (LenC.h _)) rfl rfl ?_
      refine o_litS rfl (by rfl) inferInstance (by rfl) rfl (fun _ => ?_)
      refine o_appF (evv rfl) (evv rfl) (by rfl) (by rfl) (by rfl) (by (try simp only [bsOf, List.length_append, List.length_cons, List.length_nil, List.length_take, List.length_drop, List.length_map, List.length_range]); omega) rfl (fun _ => ?_)
      refine o_give (g_fld (evv rfl)) rfl rfl ?_
      refine o_store1 (evv rfl) (evv rfl) (by rfl) (by rfl) (by rfl) ?_
      refine o_nil ?_
      refine c_blk ?_
      refine c_code ?_
      refine r_region (id := 8) ?_
      refine o_give (g_move (evv rfl)) rfl rfl ?_
      refine o_giveN (g_bin (evv rfl) (evv rfl) (by rfl)) (by simp only [inR]; omega) rfl ?_
      refine o_give (g_assign (evv rfl)) rfl rfl ?_
      refine o_nil ?_
      rename_i w1 w'
      refine c_loop (i + 1, w') ?_ ?_ (by repeat (first | exact trivial | refine ⟨rfl, ?_⟩ | refine envsub_v rfl (by first | rfl | (refine int_eq ?_; first | omega | (simp; omega) | (simp; done)) | (refine bool_eq ?_; first | (simp [*]; done) | (simp; done)) | (refine str_eq ?_; simp; done) | (refine ptr_eq ?_; omega) | fail) ?_)) ?_ <;> (try dsimp only)
      · omega
      · omega
      · rw [hs]
        exact Lay.ent
    · obtain rfl : i = r.names.length := by omega
      have hm2 : (rawN r).items = (List.range r.names.length).map (itemAt r) := rfl
      rw [← hm2]
      refine r_exit rfl ?_
      refine c_code ?_
      refine r_seq ?_
      refine r_region (id := 15) ?_
      refine o_give (g_loadF (evv rfl) (by rfl) (by rfl)) rfl rfl ?_
      refine o_storeW (evv rfl) (evv rfl) (by first | rfl | assumption | exact LenC.h _ | (simp [bys, *]; done) | fail) (by first | (intro _ _ _; exact bys_one _) | exact AllOne.h | (intro _ _ _ u hu; simp at hu; rcases hu with rfl | rfl | rfl | rfl | rfl | rfl | rfl | rfl <;> rfl) | fail) (by first | rfl | exact (LenC.h _).trans rfl | (simp [bys, *]; done) | (simp only [bys, List.length_map, *]; rfl) | fail) ?_
      refine o_nil ?_
      refine c_code ?_
      first | refine r_retC (rs := [.cell 2 27]) rfl (by first | exact ro_agg rfl rfl (by first | rfl | exact LenC.h _ | (simp [bys, *]; done)) ro_nil | exact ro_cell rfl rfl rfl ro_nil) _ ((Lay.ent (L' := sl v (frow digC 32 52 ((rawN r).parts)) :: sl w (frow itmC 34 54 ((rawN r).items)) :: L))) ?_ | refine c_endC (rs := [.cell 2 27]) rfl (by first | exact ro_agg rfl rfl (by first | rfl | exact LenC.h _ | (simp [bys, *]; done)) ro_nil | exact ro_cell rfl rfl rfl ro_nil) _ ((Lay.ent (L' := sl v (frow digC 32 52 ((rawN r).parts)) :: sl w (frow itmC 34 54 ((rawN r).items)) :: L))) ?_
      exact ⟨v, w, rfl, rfl⟩
end VK
