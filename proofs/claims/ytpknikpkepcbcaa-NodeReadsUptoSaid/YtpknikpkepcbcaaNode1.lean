/- Right nodes: the code's and the reference's answers. Conditions: texts of a machine's size. -/
import Derived.Test.YtpknikpkepcbcaaNodeL
import Derived.Test.YtpknikpkepcbcaaV2
import Derived.Test.YtpknikpkepcbcaaVDig
namespace VK
open Go Go.Proofs
set_option linter.unusedSimpArgs false
set_option linter.unusedVariables false
set_option maxRecDepth 100000
set_option maxHeartbeats 40000000
instance : LenC digC 32 := ⟨fun d => by simp [digC, bys, d.2]⟩
instance : LenC itmC 34 := ⟨fun a => by simp [itmC, bys, a.sum.2]⟩
instance (L : List Atom) (d : Dig) : AllOne L (digC d) := ⟨fun _ _ _ u hu => by
  simp only [digC, bys, List.mem_map] at hu
  obtain ⟨b, _, rfl⟩ := hu
  rfl⟩
instance (L : List Atom) (a : Itm) : AllOne L (itmC a) := ⟨fun _ _ _ u hu => by
  simp only [itmC, bys, List.mem_cons, List.mem_map] at hu
  rcases hu with rfl | rfl | ⟨b, _, rfl⟩ <;> rfl⟩
instance : TyC Try.prog 52 digC := ⟨trivial⟩
instance : TyC Try.prog 54 itmC := ⟨trivial⟩
instance (d : Dig) : LenIs d.1 32 := ⟨d.2, by decide⟩
instance (a : Itm) (o n : Nat) (vs : List Value) [h : PartC (str a.name :: .int .i64 a.kind :: bys a.sum.1) o n vs] : PartC (itmC a) o n vs := h
instance (a : Itm) (o : Nat) (v : Value) [h : GetC (str a.name :: .int .i64 a.kind :: bys a.sum.1) o v] : GetC (itmC a) o v := h
instance (a : Itm) (o : Nat) (vs vs' : List Value) [h : PutC (str a.name :: .int .i64 a.kind :: bys a.sum.1) o vs vs'] : PutC (itmC a) o vs vs' := h
instance (d : Dig) : LenIs d.1 32 := ⟨d.2, by decide⟩
instance (v : Value) (l : List UInt8) (k : Int) (d : List UInt8) [h : AsStr v l] [hd : LenIs d 32] : OfC itmC (v :: .int .i64 k :: bys d) ⟨l, k, ⟨d, hd.h.1⟩⟩ := ⟨by rw [h.h]; rfl⟩
instance (d : List UInt8) [hd : LenIs d 32] : OfC digC (bys d) ⟨d, hd.h.1⟩ := ⟨rfl⟩
instance (d : Dig) (L : List Atom) : CellsV L (agg (digC d)) (digC d) := ⟨fun _ _ _ => rfl⟩
instance (d : Dig) : LenL (digC d) 32 := ⟨LenC.h d⟩
instance (d : Dig) (z z' : List Value) (o : Nat) [h : PutC z o (bys d.1) z'] : PutC z o (digC d) z' := h
abbrev nodV (n : NodeS) (pv iv : Value) : List Value := [.int .i64 n.kind, str n.data, .int .i64 n.size, pv, iv]
theorem nparts_c (L : List Atom) (z : Int) (hz : 0 ≤ z ∧ z ≤ 4000000000000000000) : Fn Try.prog 42 [.int .i64 z] L fun w L' => w = .int .i64 (cnt z : Int) ∧ L' = L := by
  refine fn_intro Try.func42 rfl Try.ntmps42 rfl (fun W0 => ?_)
  simp only [argE]
  refine r_seq ?_
  refine r_region (id := 0) ?_
  refine o_give (g_assign (evv rfl)) rfl rfl ?_
  refine o_nil ?_
  refine c_code ?_
  refine r_seq ?_
  refine r_region (id := 1) ?_
  refine o_give (g_move (evv rfl)) rfl rfl ?_
  refine o_giveN (g_bin (evv rfl) (evv rfl) (by rfl)) (by simp only [inR]; omega) rfl ?_
  refine o_giveN (g_bin (evv rfl) (evv rfl) (by rfl)) (by simp only [inR]; omega) rfl ?_
  refine o_giveN (g_quoP (evv rfl) (evv rfl) (by omega) (by omega)) (by simp only [inR]; omega) rfl ?_
  refine o_give (g_assign (evv rfl)) rfl rfl ?_
  refine o_nil ?_
  refine c_code ?_
  first | refine r_ret (rs := [.tmp 2]) rfl rfl _ (Ent.refl _) ?_ | refine c_end (rs := [.tmp 2]) rfl rfl _ (Ent.refl _) ?_
  refine ⟨int_eq ?_, rfl⟩
  unfold cnt
  omega
theorem rising_c (L : List Atom) (v : Value) (l : List Itm) (hl : ∀ x ∈ l, x.name.length ≤ 9223372036854775807) [rd : Rd L v (frow itmC 34 54 l)] : Fn Try.prog 44 [v] L fun w L' => w = .bool (decide (rises l ∧ l.length ≤ 64)) ∧ L' = L := by
  refine fn_lenF rd fun hlen => ?_
  have hlen : l.length ≤ 2 ^ 63 - 1 := hlen
  refine fn_intro Try.func44 rfl Try.ntmps44 rfl (fun W0 => ?_)
  simp only [argE]
  refine r_seq ?_
  refine r_region (id := 0) ?_
  refine o_give (g_assign (evv rfl)) rfl rfl ?_
  refine o_nil ?_
  refine c_code ?_
  refine r_seq ?_
  refine r_region (id := 1) ?_
  refine o_give (g_assign (evv rfl)) rfl rfl ?_
  refine o_nil ?_
  refine c_code ?_
  refine r_seq ?_
  refine r_seq ?_
  refine r_region (id := 2) ?_
  refine o_give (g_move (evv rfl)) rfl rfl ?_
  refine o_give (g_lenF (evv rfl)) rfl rfl ?_
  refine o_give (g_move (evv rfl)) rfl rfl ?_
  refine o_nil ?_
  refine c_code ?_
  refine r_block ?_
  refine r_loopE (σ := Nat) (fun i => i ≤ l.length ∧ ∀ j < i, itOk l j) (fun i => l.length - i) (fun i => [(3, .v (str (lastOf l i))), (8, .v (.int .i64 i))]) [0, 6, 7] (fun i => L) 0 (by dsimp only [pickE, pick1, lk2, Nat.reduceBEq, Nat.reduceAdd, Nat.zero_add, cond_true, cond_false] <;> exact rfl) ?_ (by repeat (first | exact trivial | refine ⟨rfl, ?_⟩ | refine envsub_v rfl (by first | rfl | (refine int_eq ?_; first | omega | (simp; omega) | (simp; done)) | (refine bool_eq ?_; first | (simp [*]; done) | (simp; done)) | (refine str_eq ?_; simp; done) | (refine ptr_eq ?_; omega) | fail) ?_)) ?_ ?_
  · exact ⟨Nat.zero_le _, by omega⟩
  · exact Ent.refl _
  rintro i ⟨hi, ha⟩; dsimp only [List.cons_append, List.nil_append]
  refine r_seq ?_
  refine r_region (id := 3) ?_
  refine o_give (g_bin (evv rfl) (evv rfl) (by rfl)) rfl rfl ?_
  refine o_nil ?_
  refine c_code ?_
  refine r_seq ?_
  refine r_cond rfl (fun hc => ?_) (fun hc => ?_) <;> (try simp only [decide_eq_true_eq, decide_eq_false_iff_not, Bool.and_eq_true, Bool.or_eq_true, Bool.not_eq_true', Bool.and_eq_false_iff, Bool.or_eq_false_iff, Bool.not_eq_false', Bool.not_eq_true, Bool.not_eq_false, Bool.true_eq_false, Bool.false_eq_true, Int.not_lt, Int.not_le, not_and, not_or, ne_eq] at hc)
  · have hil : i < l.length := by omega
    have hnl := hl (l.getD i default) (by simp [hil])
    refine r_skip ?_
    refine c_code ?_
    refine r_seq ?_
    refine r_block ?_
    refine r_seq ?_
    refine r_region (id := 4) ?_
    refine o_give (g_idxFN (evv rfl) (evv rfl) (by rfl) (by rfl) (by first | omega | (have := of_decide_eq_true hg; omega) | (simp at hg; omega) | (simp only [List.length_set, List.length_append, List.length_cons, List.length_nil, List.length_map, List.length_take, List.length_drop, List.length_replicate]; omega))) rfl rfl ?_
    refine o_give (g_loadFr (evv rfl) (by rfl) (by first | (intro; rfl) | exact LenC.h) (by rfl) (by rfl) (by first | omega | (have := of_decide_eq_true hg; omega) | (simp at hg; omega) | (simp only [List.length_set, List.length_append, List.length_cons, List.length_nil, List.length_map, List.length_take, List.length_drop, List.length_replicate]; omega))) rfl rfl ?_
    refine o_alloc (cs := ((Go.Value.string { data := #[] }) :: (Go.Value.int Go.IntKind.i64 0) :: bys (List.replicate 32 0))) rfl rfl (fun _ => ?_)
    refine o_storeW (evv rfl) (evv rfl) (by first | rfl | assumption | exact LenC.h _ | (simp [bys, *]; done) | fail) (by first | (intro _ _ _; exact bys_one _) | exact AllOne.h | (intro _ _ _ u hu; simp at hu; rcases hu with rfl | rfl | rfl | rfl | rfl | rfl | rfl | rfl <;> rfl) | fail) (by first | rfl | exact (LenC.h _).trans rfl | (simp [bys, *]; done) | (simp only [bys, List.length_map, *]; rfl) | fail) ?_
    refine o_nil ?_
    refine c_code ?_
    refine r_seq ?_
    refine r_seq ?_
    refine r_region (id := 5) ?_
    refine o_give (g_fld (evv rfl)) rfl rfl ?_
    refine o_give (g_load (evv rfl) (by rfl) (by rfl)) rfl rfl ?_
    refine o_give (g_move (evv rfl)) rfl rfl ?_
    refine o_give (g_binS (evv rfl) (evv rfl) (by rfl)) rfl rfl ?_
    refine o_give (g_move (evv rfl)) rfl rfl ?_
    refine o_lazy rfl (fun hg => g_fld (evv rfl)) rfl rfl ?_
    refine o_lazy rfl (fun hg => g_load (evg rfl hg) (by rfl) (by rfl)) rfl rfl ?_
    refine o_split (t := 16) rfl (fun hs => ?_) (fun hs => ?_)
    · have hn : ¬ itOk l i := fun h => by
        have := bl_total (lastOf l i) (l.getD i default).name
        rw [h.1, hs] at this
        cases this
      rw [decide_eq_false (show ¬ (rises l ∧ l.length ≤ 64) from fun h => hn (h.1 ⟨i, hil⟩))]
      refine o_lazy (v0 := undef) rfl (fun hg => absurd hg (by first | (simp; done) | fail)) rfl rfl ?_
      refine o_lazy (v0 := undef) rfl (fun hg => absurd hg (by first | (simp; done) | fail)) rfl rfl ?_
      refine o_lazy (v0 := undef) rfl (fun hg => absurd hg (by first | (simp; done) | fail)) rfl rfl ?_
      refine o_give (g_pick (b := true) (evv rfl) (fun _ => (evv rfl)) (fun h => by cases h)) rfl rfl ?_
      refine o_nil ?_
      refine c_code ?_
      refine r_cond_true rfl ?_
      refine r_seq ?_
      refine r_region (id := 6) ?_
      refine o_give (g_assign (evv rfl)) rfl rfl ?_
      refine o_nil ?_
      refine c_code ?_
      first | refine r_ret (rs := [.tmp 2]) rfl rfl _ ((Ent.drop)) ?_ | refine c_end (rs := [.tmp 2]) rfl rfl _ ((Ent.drop)) ?_
      exact ⟨rfl, rfl⟩
    · have hlt : Op.bytesLess (lastOf l i) (l.getD i default).name = true := by
        have := bl_total (lastOf l i) (l.getD i default).name
        rw [hs] at this
        simpa using this
      refine o_sure (t := 18) rfl (by rw [hs]; rfl) ?_
      refine o_gyes rfl ?_
      refine o_litT rfl (by rfl) rfl (fun _ => ?_)
      refine o_gyes rfl ?_
      (refine o_call rfl _ (Ent.refl _) (Check_n _ _ _ (by first | assumption | (simp only [List.mem_singleton, forall_eq]; first | assumption | omega))) rfl ?_; rintro _ _ ⟨rfl, hLz⟩; obtain rfl := hLz.symm; clear hLz)
      refine o_gyes rfl ?_
      refine o_give (g_bin (evv rfl) (evv rfl) (by rfl)) rfl rfl ?_
      refine o_give (g_pick (b := false) (evv rfl) (fun h => by cases h) (fun _ => (evv rfl))) rfl rfl ?_
      refine o_nil ?_
      refine c_code ?_
      have hck : checkN [(l.getD i default).name] = if nameP (l.getD i default).name then 0 else 41 := by simp [checkN]
      rw [hck]
      by_cases hnm : nameP (l.getD i default).name
      · rw [if_pos hnm]
        refine r_cond_false rfl ?_
        refine r_skip ?_
        refine c_code ?_
        refine r_seq ?_
        refine r_region (id := 7) ?_
        refine o_give (g_fld (evv rfl)) rfl rfl ?_
        refine o_give (g_load (evv rfl) (by rfl) (by rfl)) rfl rfl ?_
        refine o_nil ?_
        refine c_code ?_
        refine r_block ?_
        refine r_seq ?_
        refine r_block ?_
        refine r_seq ?_
        refine r_block ?_
        refine r_block ?_
        refine r_seq ?_
        refine r_seq ?_
        refine r_seq ?_
        by_cases hk2 : (l.getD i default).kind = 2
        · rw [hk2]
          refine r_region (id := 8) ?_
          refine o_give (g_bin (evv rfl) (evv rfl) (by rfl)) rfl rfl ?_
          refine o_give (g_assign (evv rfl)) rfl rfl ?_
          refine o_nil ?_
          refine c_code ?_
          refine r_cond_true rfl ?_
          refine r_exit rfl ?_
          refine c_blk ?_
          refine c_code ?_
          refine r_seq ?_
          refine r_region (id := 10) ?_
          refine o_give (g_fld (evv rfl)) rfl rfl ?_
          refine o_give (g_load (evv rfl) (by rfl) (by rfl)) rfl rfl ?_
          refine o_give (g_assign (evv rfl)) rfl rfl ?_
          refine o_nil ?_
          refine c_code ?_
          refine r_exit rfl ?_
          refine c_blk ?_
          refine c_code ?_
          refine r_region (id := 12) ?_
          refine o_giveN (g_bin (evv rfl) (evv rfl) (by rfl)) (by simp only [inR]; omega) rfl ?_
          refine o_give (g_move (evv rfl)) rfl rfl ?_
          refine o_nil ?_
          refine c_loop (i + 1) ?_ ?_ (by repeat (first | exact trivial | refine ⟨rfl, ?_⟩ | refine envsub_v rfl (by first | rfl | (refine int_eq ?_; first | omega | (simp; omega) | (simp; done)) | (refine bool_eq ?_; first | (simp [*]; done) | (simp; done)) | (refine str_eq ?_; simp; done) | (refine ptr_eq ?_; omega) | fail) ?_)) ?_ <;> (try dsimp only)
          · refine ⟨by omega, fun j hj => ?_⟩
            by_cases hji : j = i
            · subst hji; exact ⟨hlt, hnm, .inl hk2⟩
            · exact ha j (by omega)
          · omega
          · exact Lay.ent
        · by_cases hk3 : (l.getD i default).kind = 3
          · rw [hk3]
            refine r_region (id := 8) ?_
            refine o_give (g_bin (evv rfl) (evv rfl) (by rfl)) rfl rfl ?_
            refine o_give (g_assign (evv rfl)) rfl rfl ?_
            refine o_nil ?_
            refine c_code ?_
            refine r_cond_false rfl ?_
            refine r_skip ?_
            refine c_code ?_
            refine r_seq ?_
            refine r_region (id := 9) ?_
            refine o_give (g_bin (evv rfl) (evv rfl) (by rfl)) rfl rfl ?_
            refine o_give (g_assign (evv rfl)) rfl rfl ?_
            refine o_nil ?_
            refine c_code ?_
            refine r_cond_true rfl ?_
            refine r_exit rfl ?_
            refine c_code ?_
            refine r_seq ?_
            refine r_region (id := 10) ?_
            refine o_give (g_fld (evv rfl)) rfl rfl ?_
            refine o_give (g_load (evv rfl) (by rfl) (by rfl)) rfl rfl ?_
            refine o_give (g_assign (evv rfl)) rfl rfl ?_
            refine o_nil ?_
            refine c_code ?_
            refine r_exit rfl ?_
            refine c_blk ?_
            refine c_code ?_
            refine r_region (id := 12) ?_
            refine o_giveN (g_bin (evv rfl) (evv rfl) (by rfl)) (by simp only [inR]; omega) rfl ?_
            refine o_give (g_move (evv rfl)) rfl rfl ?_
            refine o_nil ?_
            refine c_loop (i + 1) ?_ ?_ (by repeat (first | exact trivial | refine ⟨rfl, ?_⟩ | refine envsub_v rfl (by first | rfl | (refine int_eq ?_; first | omega | (simp; omega) | (simp; done)) | (refine bool_eq ?_; first | (simp [*]; done) | (simp; done)) | (refine str_eq ?_; simp; done) | (refine ptr_eq ?_; omega) | fail) ?_)) ?_ <;> (try dsimp only)
            · refine ⟨by omega, fun j hj => ?_⟩
              by_cases hji : j = i
              · subst hji; exact ⟨hlt, hnm, .inr hk3⟩
              · exact ha j (by omega)
            · omega
            · exact Lay.ent
          · rw [decide_eq_false (show ¬ (rises l ∧ l.length ≤ 64) from fun h => by have h' := (h.1 ⟨i, hil⟩).2.2; exact h'.elim hk2 hk3)]
            refine r_region (id := 8) ?_
            refine o_give (g_bin (evv rfl) (evv rfl) (by rfl)) rfl rfl ?_
            refine o_give (g_assign (evv rfl)) rfl rfl ?_
            refine o_nil ?_
            refine c_code ?_
            rw [decide_eq_false hk2]
            refine r_cond_false rfl ?_
            refine r_skip ?_
            refine c_code ?_
            refine r_seq ?_
            refine r_region (id := 9) ?_
            refine o_give (g_bin (evv rfl) (evv rfl) (by rfl)) rfl rfl ?_
            refine o_give (g_assign (evv rfl)) rfl rfl ?_
            refine o_nil ?_
            refine c_code ?_
            rw [decide_eq_false hk3]
            refine r_cond_false rfl ?_
            refine r_skip ?_
            refine c_code ?_
            refine r_exit rfl ?_
            refine c_code ?_
            refine r_seq ?_
            refine r_seq ?_
            refine r_region (id := 11) ?_
            refine o_give (g_assign (evv rfl)) rfl rfl ?_
            refine o_nil ?_
            refine c_code ?_
            first | refine r_ret (rs := [.tmp 2]) rfl rfl _ ((Lay.ent (L' := L))) ?_ | refine c_end (rs := [.tmp 2]) rfl rfl _ ((Lay.ent (L' := L))) ?_
            exact ⟨rfl, rfl⟩
      · rw [if_neg hnm, decide_eq_false (show ¬ (rises l ∧ l.length ≤ 64) from fun h => hnm (h.1 ⟨i, hil⟩).2.1)]
        refine r_cond_true rfl ?_
        refine r_seq ?_
        refine r_region (id := 6) ?_
        refine o_give (g_assign (evv rfl)) rfl rfl ?_
        refine o_nil ?_
        refine c_code ?_
        first | refine r_ret (rs := [.tmp 2]) rfl rfl _ ((Lay.ent (L' := L))) ?_ | refine c_end (rs := [.tmp 2]) rfl rfl _ ((Lay.ent (L' := L))) ?_
        exact ⟨rfl, rfl⟩
  · have hr : rises l := fun j => ha j.1 (by have := j.2; omega)
    refine r_exit rfl ?_
    refine c_code ?_
    refine r_seq ?_
    refine r_region (id := 13) ?_
    refine o_give (g_move (evv rfl)) rfl rfl ?_
    refine o_give (g_lenF (evv rfl)) rfl rfl ?_
    refine o_give (g_bin (evv rfl) (evv rfl) (by rfl)) rfl rfl ?_
    refine o_give (g_assign (evv rfl)) rfl rfl ?_
    refine o_nil ?_
    refine c_code ?_
    first | refine r_ret (rs := [.tmp 2]) rfl rfl _ (Ent.refl _) ?_ | refine c_end (rs := [.tmp 2]) rfl rfl _ (Ent.refl _) ?_
    refine ⟨bool_eq ?_, rfl⟩
    exact decide_eq_decide.2 ⟨fun h => ⟨hr, by omega⟩, fun h => by have := h.2; omega⟩
theorem rightN_c (L : List Atom) (n : NodeS) (pv iv : Value) (ho : n.ok) [r1 : Rd L pv (frow digC 32 52 n.parts)] [r2 : Rd L iv (frow itmC 34 54 n.items)] : Fn Try.prog 25 [agg (nodV n pv iv)] L fun w L' => w = .bool (decide (nodeOk n)) ∧ L' = L := by
  refine fn_lenF r1 fun hlp => ?_
  refine fn_lenF r2 fun hli => ?_
  have hlp : n.parts.length ≤ 2 ^ 63 - 1 := hlp
  have hli : n.items.length ≤ 2 ^ 63 - 1 := hli
  obtain ⟨o1, o2, o3, o4⟩ := ho
  have o4n : ∀ x ∈ n.items, x.name.length ≤ 9223372036854775807 := fun x hx => (o4 x hx).1
  obtain ⟨kind, data, size, parts, items⟩ := n
  dsimp only at *
  refine fn_intro Try.func25 rfl Try.ntmps25 rfl (fun W0 => ?_)
  simp only [argE]
  by_cases hk1 : kind = 1
  · subst hk1
    refine r_seq ?_
    refine r_region (id := 0) ?_
    refine o_boxA (evv rfl) rfl (fun _ => ?_)
    refine o_give (g_assign (evv rfl)) rfl rfl ?_
    refine o_nil ?_
    refine c_code ?_
    refine r_seq ?_
    refine r_seq ?_
    refine r_region (id := 1) ?_
    refine o_give (g_fld (evv rfl)) rfl rfl ?_
    refine o_give (g_load (evv rfl) (by rfl) (by rfl)) rfl rfl ?_
    refine o_nil ?_
    refine c_code ?_
    refine r_block ?_
    refine r_seq ?_
    refine r_region (id := 2) ?_
    refine o_give (g_bin (evv rfl) (evv rfl) (by rfl)) rfl rfl ?_
    refine o_give (g_assign (evv rfl)) rfl rfl ?_
    refine o_nil ?_
    refine c_code ?_
    refine r_cond_true rfl ?_
    refine r_seq ?_
    refine r_region (id := 3) ?_
    refine o_give (g_fld (evv rfl)) rfl rfl ?_
    refine o_give (g_load (evv rfl) (by rfl) (by rfl)) rfl rfl ?_
    refine o_give (g_lenS TyU.h (evv rfl)) rfl rfl ?_
    refine o_give (g_bin (evv rfl) (evv rfl) (by rfl)) rfl rfl ?_
    refine o_give (g_move (evv rfl)) rfl rfl ?_
    refine o_lazy rfl (fun hg => g_fld (evv rfl)) rfl rfl ?_
    refine o_lazy rfl (fun hg => g_load (evg rfl hg) (by rfl) (by rfl)) rfl rfl ?_
    refine o_lazy rfl (fun hg => g_lenS TyU.h (by first | exact evv rfl | exact evg rfl (by rw [hp]; rfl) | exact evg rfl hp | exact evg rfl hg | exact evg rfl (by first | (simp_all; done) | (simp [*]; done) | fail) | fail)) rfl rfl ?_
    refine o_lazy rfl (fun hg => g_bin (by first | exact evv rfl | exact evg rfl (by rw [hp]; rfl) | exact evg rfl hp | exact evg rfl hg | exact evg rfl (by first | (simp_all; done) | (simp [*]; done) | fail) | fail) (by first | exact evv rfl | exact evg rfl (by rw [hp]; rfl) | exact evg rfl hp | exact evg rfl hg | exact evg rfl (by first | (simp_all; done) | (simp [*]; done) | fail) | fail) (by rfl)) rfl rfl ?_
    refine o_give (g_pick_and (evv rfl) (evv rfl) (fun hp => (by first | exact evv rfl | exact evg rfl (by rw [hp]; rfl) | exact evg rfl hp | exact evg rfl hg | exact evg rfl (by first | (simp_all; done) | (simp [*]; done) | fail) | fail))) rfl rfl ?_
    refine o_give (g_move (evv rfl)) rfl rfl ?_
    refine o_lazy rfl (fun hg => g_fld (evv rfl)) rfl rfl ?_
    refine o_lazy rfl (fun hg => g_load (evg rfl hg) (by rfl) (by rfl)) rfl rfl ?_
    refine o_lazy rfl (fun hg => g_bin (by first | exact evv rfl | exact evg rfl (by rw [hp]; rfl) | exact evg rfl hp | exact evg rfl hg | exact evg rfl (by first | (simp_all; done) | (simp [*]; done) | fail) | fail) (by first | exact evv rfl | exact evg rfl (by rw [hp]; rfl) | exact evg rfl hp | exact evg rfl hg | exact evg rfl (by first | (simp_all; done) | (simp [*]; done) | fail) | fail) (by rfl)) rfl rfl ?_
    refine o_give (g_pick_and (evv rfl) (evv rfl) (fun hp => (by first | exact evv rfl | exact evg rfl (by rw [hp]; rfl) | exact evg rfl hp | exact evg rfl hg | exact evg rfl (by first | (simp_all; done) | (simp [*]; done) | fail) | fail))) rfl rfl ?_
    refine o_give (g_move (evv rfl)) rfl rfl ?_
    refine o_lazy rfl (fun hg => g_fld (evv rfl)) rfl rfl ?_
    refine o_lazy rfl (fun hg => g_load (evg rfl hg) (by rfl) (by rfl)) rfl rfl ?_
    refine o_lazy rfl (fun hg => g_lenF (by first | exact evv rfl | exact evg rfl (by rw [hp]; rfl) | exact evg rfl hp | exact evg rfl hg | exact evg rfl (by first | (simp_all; done) | (simp [*]; done) | fail) | fail)) rfl rfl ?_
    refine o_lazy rfl (fun hg => g_bin (by first | exact evv rfl | exact evg rfl (by rw [hp]; rfl) | exact evg rfl hp | exact evg rfl hg | exact evg rfl (by first | (simp_all; done) | (simp [*]; done) | fail) | fail) (by first | exact evv rfl | exact evg rfl (by rw [hp]; rfl) | exact evg rfl hp | exact evg rfl hg | exact evg rfl (by first | (simp_all; done) | (simp [*]; done) | fail) | fail) (by rfl)) rfl rfl ?_
    refine o_give (g_pick_and (evv rfl) (evv rfl) (fun hp => (by first | exact evv rfl | exact evg rfl (by rw [hp]; rfl) | exact evg rfl hp | exact evg rfl hg | exact evg rfl (by first | (simp_all; done) | (simp [*]; done) | fail) | fail))) rfl rfl ?_
    refine o_give (g_move (evv rfl)) rfl rfl ?_
    refine o_lazy rfl (fun hg => g_fld (evv rfl)) rfl rfl ?_
    refine o_lazy rfl (fun hg => g_load (evg rfl hg) (by rfl) (by rfl)) rfl rfl ?_
    refine o_lazy rfl (fun hg => g_lenF (by first | exact evv rfl | exact evg rfl (by rw [hp]; rfl) | exact evg rfl hp | exact evg rfl hg | exact evg rfl (by first | (simp_all; done) | (simp [*]; done) | fail) | fail)) rfl rfl ?_
    refine o_lazy rfl (fun hg => g_bin (by first | exact evv rfl | exact evg rfl (by rw [hp]; rfl) | exact evg rfl hp | exact evg rfl hg | exact evg rfl (by first | (simp_all; done) | (simp [*]; done) | fail) | fail) (by first | exact evv rfl | exact evg rfl (by rw [hp]; rfl) | exact evg rfl hp | exact evg rfl hg | exact evg rfl (by first | (simp_all; done) | (simp [*]; done) | fail) | fail) (by rfl)) rfl rfl ?_
    refine o_give (g_pick_and (evv rfl) (evv rfl) (fun hp => (by first | exact evv rfl | exact evg rfl (by rw [hp]; rfl) | exact evg rfl hp | exact evg rfl hg | exact evg rfl (by first | (simp_all; done) | (simp [*]; done) | fail) | fail))) rfl rfl ?_
    refine o_give (g_assign (evv rfl)) rfl rfl ?_
    refine o_nil ?_
    refine c_code ?_
    first | refine r_ret (rs := [.tmp 2]) rfl rfl _ (Ent.drop) ?_ | refine c_end (rs := [.tmp 2]) rfl rfl _ (Ent.drop) ?_
    refine ⟨bool_eq ?_, rfl⟩
    rw [Bool.eq_iff_iff]
    simp only [Bool.and_eq_true, decide_eq_true_eq, nodeOk]
    have hp0 : (parts.length : Int) = 0 ↔ parts = [] := by cases parts <;> simp; omega
    have hi0 : (items.length : Int) = 0 ↔ items = [] := by cases items <;> simp; omega
    rw [hp0, hi0]
    constructor
    · rintro ⟨⟨⟨⟨h1, h2⟩, h3⟩, h4⟩, h5⟩
      exact .inl ⟨trivial, by omega, by omega, h3, h4, h5⟩
    · rintro (⟨_, h1, h2, h3, h4, h5⟩ | h | h)
      · exact ⟨⟨⟨⟨by omega, by omega⟩, h3⟩, h4⟩, h5⟩
      · exact absurd h.1 (by decide)
      · exact absurd h.1 (by decide)
  · by_cases hk2 : kind = 2
    · subst hk2
      refine r_seq ?_
      refine r_region (id := 0) ?_
      refine o_boxA (evv rfl) rfl (fun _ => ?_)
      refine o_give (g_assign (evv rfl)) rfl rfl ?_
      refine o_nil ?_
      refine c_code ?_
      refine r_seq ?_
      refine r_seq ?_
      refine r_region (id := 1) ?_
      refine o_give (g_fld (evv rfl)) rfl rfl ?_
      refine o_give (g_load (evv rfl) (by rfl) (by rfl)) rfl rfl ?_
      refine o_nil ?_
      refine c_code ?_
      refine r_block ?_
      refine r_seq ?_
      refine r_region (id := 2) ?_
      refine o_give (g_bin (evv rfl) (evv rfl) (by rfl)) rfl rfl ?_
      refine o_give (g_assign (evv rfl)) rfl rfl ?_
      refine o_nil ?_
      refine c_code ?_
      refine r_cond_false rfl ?_
      refine r_seq ?_
      refine r_region (id := 4) ?_
      refine o_give (g_bin (evv rfl) (evv rfl) (by rfl)) rfl rfl ?_
      refine o_give (g_assign (evv rfl)) rfl rfl ?_
      refine o_nil ?_
      refine c_code ?_
      refine r_cond_true rfl ?_
      refine r_seq ?_
      rename_i q
      dsimp only [nodV]
      have hi0 : (items.length : Int) = 0 ↔ items = [] := by cases items <;> simp; omega
      by_cases hcc : data = [] ∧ 0 ≤ size ∧ size ≤ 1024
      · obtain ⟨h1, h2, h3⟩ := hcc
        have hb : (decide (data = []) && decide (0 ≤ size) && decide (size ≤ 1024)) = true := by simp [h1, h2, h3]
        repeat (first | refine r_seq ?_ | refine c_code ?_ | refine c_blk ?_ | refine r_block ?_ | refine r_skip ?_)
        refine r_held (id := 5) (blk q ⟨[.int .i64 2, str data, .int .i64 size, pv, iv], 27⟩ :: L) Mixed.h ?_
        refine h_give (i := 0) (by kernel_rfl) rfl (g_fld (evv rfl)) rfl rfl ?_
        refine h_give (i := 1) (by kernel_rfl) rfl (g_load (evv rfl) (by rfl) (by rfl)) rfl rfl ?_
        refine h_give (i := 2) (by kernel_rfl) rfl (g_binS (evv rfl) (evv rfl) (by rfl)) rfl rfl ?_
        refine h_give (i := 3) (by kernel_rfl) rfl (g_move (evv rfl)) rfl rfl ?_
        refine h_lazy (i := 4) (by kernel_rfl) rfl rfl (fun hg => g_fld (evv rfl)) rfl rfl ?_
        refine h_lazy (i := 5) (by kernel_rfl) rfl rfl (fun hg => g_load (evg rfl hg) (by rfl) (by rfl)) rfl rfl ?_
        refine h_lazy (i := 6) (by kernel_rfl) rfl rfl (fun hg => g_bin (by first | exact evv rfl | exact evg rfl (by rw [hp]; rfl) | exact evg rfl hp | exact evg rfl hg | exact evg rfl (by first | (simp_all; done) | (simp [*]; done) | fail) | fail) (by first | exact evv rfl | exact evg rfl (by rw [hp]; rfl) | exact evg rfl hp | exact evg rfl hg | exact evg rfl (by first | (simp_all; done) | (simp [*]; done) | fail) | fail) (by rfl)) rfl rfl ?_
        refine h_give (i := 7) (by kernel_rfl) rfl (g_pick_and (evv rfl) (evv rfl) (fun hp => (by first | exact evv rfl | exact evg rfl (by rw [hp]; rfl) | exact evg rfl hp | exact evg rfl hg | exact evg rfl (by first | (simp_all; done) | (simp [*]; done) | fail) | fail))) rfl rfl ?_
        refine h_give (i := 8) (by kernel_rfl) rfl (g_move (evv rfl)) rfl rfl ?_
        refine h_lazy (i := 9) (by kernel_rfl) rfl rfl (fun hg => g_fld (evv rfl)) rfl rfl ?_
        refine h_lazy (i := 10) (by kernel_rfl) rfl rfl (fun hg => g_load (evg rfl hg) (by rfl) (by rfl)) rfl rfl ?_
        refine h_lazy (i := 11) (by kernel_rfl) rfl rfl (fun hg => g_bin (by first | exact evv rfl | exact evg rfl (by rw [hp]; rfl) | exact evg rfl hp | exact evg rfl hg | exact evg rfl (by first | (simp_all; done) | (simp [*]; done) | fail) | fail) (by first | exact evv rfl | exact evg rfl (by rw [hp]; rfl) | exact evg rfl hp | exact evg rfl hg | exact evg rfl (by first | (simp_all; done) | (simp [*]; done) | fail) | fail) (by rfl)) rfl rfl ?_
        refine h_give (i := 12) (by kernel_rfl) rfl (g_pick_and (evv rfl) (evv rfl) (fun hp => (by first | exact evv rfl | exact evg rfl (by rw [hp]; rfl) | exact evg rfl hp | exact evg rfl hg | exact evg rfl (by first | (simp_all; done) | (simp [*]; done) | fail) | fail))) rfl rfl ?_
        simp only [hb]
        refine h_give (i := 13) (by kernel_rfl) rfl (g_move (evv rfl)) rfl rfl ?_
        refine h_sure (i := 14) (by kernel_rfl) rfl rfl (g_fld (evv rfl)) rfl rfl ?_
        refine h_sure (i := 15) (by kernel_rfl) rfl rfl (g_load (evv rfl) (by rfl) (by rfl)) rfl rfl ?_
        refine h_sure (i := 16) (by kernel_rfl) rfl rfl (g_lenF (evv rfl)) rfl rfl ?_
        refine h_sure (i := 17) (by kernel_rfl) rfl rfl (g_fld (evv rfl)) rfl rfl ?_
        refine h_sure (i := 18) (by kernel_rfl) rfl rfl (g_load (evv rfl) (by rfl) (by rfl)) rfl rfl ?_
        refine h_one (i := 19) (by kernel_rfl) rfl (Lay.ent) ?_
        refine o_gyes rfl ?_
        (refine o_call rfl _ (Ent.refl _) (nparts_c _ _ (by omega)) rfl ?_; rintro _ _ ⟨rfl, hLz⟩; obtain rfl := hLz.symm; clear hLz)
        refine o_nil ?_
        refine h_sure (i := 20) (by kernel_rfl) rfl rfl (g_bin (evv rfl) (evv rfl) (by rfl)) rfl rfl ?_
        refine h_give (i := 21) (by kernel_rfl) rfl (g_pick (b := true) (evv rfl) (fun _ => (evv rfl)) (fun h => by cases h)) rfl rfl ?_
        refine h_give (i := 22) (by kernel_rfl) rfl (g_move (evv rfl)) rfl rfl ?_
        refine h_lazy (i := 23) (by kernel_rfl) rfl rfl (fun hg => g_fld (evv rfl)) rfl rfl ?_
        refine h_lazy (i := 24) (by kernel_rfl) rfl rfl (fun hg => g_load (evg rfl hg) (by rfl) (by rfl)) rfl rfl ?_
        refine h_lazy (i := 25) (by kernel_rfl) rfl rfl (fun hg => g_lenF (by first | exact evv rfl | exact evg rfl (by rw [hp]; rfl) | exact evg rfl hp | exact evg rfl hg | exact evg rfl (by first | (simp_all; done) | (simp [*]; done) | fail) | fail)) rfl rfl ?_
        refine h_lazy (i := 26) (by kernel_rfl) rfl rfl (fun hg => g_bin (by first | exact evv rfl | exact evg rfl (by rw [hp]; rfl) | exact evg rfl hp | exact evg rfl hg | exact evg rfl (by first | (simp_all; done) | (simp [*]; done) | fail) | fail) (by first | exact evv rfl | exact evg rfl (by rw [hp]; rfl) | exact evg rfl hp | exact evg rfl hg | exact evg rfl (by first | (simp_all; done) | (simp [*]; done) | fail) | fail) (by rfl)) rfl rfl ?_
        refine h_give (i := 27) (by kernel_rfl) rfl (g_pick_and (evv rfl) (evv rfl) (fun hp => (by first | exact evv rfl | exact evg rfl (by rw [hp]; rfl) | exact evg rfl hp | exact evg rfl hg | exact evg rfl (by first | (simp_all; done) | (simp [*]; done) | fail) | fail))) rfl rfl ?_
        refine h_give (i := 28) (by kernel_rfl) rfl (g_assign (evv rfl)) rfl rfl ?_
        refine h_done (by kernel_rfl) (Lay.ent) ?_
        refine c_code ?_
        first | refine r_ret (rs := [.tmp 2]) rfl rfl _ (Ent.drop) ?_ | refine c_end (rs := [.tmp 2]) rfl rfl _ (Ent.drop) ?_
        refine ⟨bool_eq ?_, rfl⟩
        rw [Bool.eq_iff_iff]
        simp only [Bool.and_eq_true, decide_eq_true_eq, nodeOk, hi0]
        constructor
        · rintro ⟨h4, h5⟩
          exact .inr (.inl ⟨trivial, h1, h2, h3, by omega, h5⟩)
        · rintro (h | ⟨_, _, _, _, h4, h5⟩ | h)
          · exact absurd h.1 (by decide)
          · exact ⟨by omega, h5⟩
          · exact absurd h.1 (by decide)
      · have hb : (decide (data = []) && decide (0 ≤ size) && decide (size ≤ 1024)) = false := by
          by_cases h1 : data = []
          · by_cases h2 : 0 ≤ size
            · have : ¬ size ≤ 1024 := fun h => hcc ⟨h1, h2, h⟩
              simp [this]
            · simp [h2]
          · simp [h1]
        repeat (first | refine r_seq ?_ | refine c_code ?_ | refine c_blk ?_ | refine r_block ?_ | refine r_skip ?_)
        refine r_held (id := 5) (blk q ⟨[.int .i64 2, str data, .int .i64 size, pv, iv], 27⟩ :: L) Mixed.h ?_
        refine h_give (i := 0) (by kernel_rfl) rfl (g_fld (evv rfl)) rfl rfl ?_
        refine h_give (i := 1) (by kernel_rfl) rfl (g_load (evv rfl) (by rfl) (by rfl)) rfl rfl ?_
        refine h_give (i := 2) (by kernel_rfl) rfl (g_binS (evv rfl) (evv rfl) (by rfl)) rfl rfl ?_
        refine h_give (i := 3) (by kernel_rfl) rfl (g_move (evv rfl)) rfl rfl ?_
        refine h_lazy (i := 4) (by kernel_rfl) rfl rfl (fun hg => g_fld (evv rfl)) rfl rfl ?_
        refine h_lazy (i := 5) (by kernel_rfl) rfl rfl (fun hg => g_load (evg rfl hg) (by rfl) (by rfl)) rfl rfl ?_
        refine h_lazy (i := 6) (by kernel_rfl) rfl rfl (fun hg => g_bin (by first | exact evv rfl | exact evg rfl (by rw [hp]; rfl) | exact evg rfl hp | exact evg rfl hg | exact evg rfl (by first | (simp_all; done) | (simp [*]; done) | fail) | fail) (by first | exact evv rfl | exact evg rfl (by rw [hp]; rfl) | exact evg rfl hp | exact evg rfl hg | exact evg rfl (by first | (simp_all; done) | (simp [*]; done) | fail) | fail) (by rfl)) rfl rfl ?_
        refine h_give (i := 7) (by kernel_rfl) rfl (g_pick_and (evv rfl) (evv rfl) (fun hp => (by first | exact evv rfl | exact evg rfl (by rw [hp]; rfl) | exact evg rfl hp | exact evg rfl hg | exact evg rfl (by first | (simp_all; done) | (simp [*]; done) | fail) | fail))) rfl rfl ?_
        refine h_give (i := 8) (by kernel_rfl) rfl (g_move (evv rfl)) rfl rfl ?_
        refine h_lazy (i := 9) (by kernel_rfl) rfl rfl (fun hg => g_fld (evv rfl)) rfl rfl ?_
        refine h_lazy (i := 10) (by kernel_rfl) rfl rfl (fun hg => g_load (evg rfl hg) (by rfl) (by rfl)) rfl rfl ?_
        refine h_lazy (i := 11) (by kernel_rfl) rfl rfl (fun hg => g_bin (by first | exact evv rfl | exact evg rfl (by rw [hp]; rfl) | exact evg rfl hp | exact evg rfl hg | exact evg rfl (by first | (simp_all; done) | (simp [*]; done) | fail) | fail) (by first | exact evv rfl | exact evg rfl (by rw [hp]; rfl) | exact evg rfl hp | exact evg rfl hg | exact evg rfl (by first | (simp_all; done) | (simp [*]; done) | fail) | fail) (by rfl)) rfl rfl ?_
        refine h_give (i := 12) (by kernel_rfl) rfl (g_pick_and (evv rfl) (evv rfl) (fun hp => (by first | exact evv rfl | exact evg rfl (by rw [hp]; rfl) | exact evg rfl hp | exact evg rfl hg | exact evg rfl (by first | (simp_all; done) | (simp [*]; done) | fail) | fail))) rfl rfl ?_
        simp only [hb]
        refine h_give (i := 13) (by kernel_rfl) rfl (g_move (evv rfl)) rfl rfl ?_
        refine h_lazy (i := 14) (by kernel_rfl) rfl rfl (fun hg => g_fld (evv rfl)) rfl rfl ?_
        refine h_lazy (i := 15) (by kernel_rfl) rfl rfl (fun hg => g_load (evg rfl hg) (by rfl) (by rfl)) rfl rfl ?_
        refine h_lazy (i := 16) (by kernel_rfl) rfl rfl (fun hg => g_lenF (by first | exact evv rfl | exact evg rfl (by rw [hp]; rfl) | exact evg rfl hp | exact evg rfl hg | exact evg rfl (by first | (simp_all; done) | (simp [*]; done) | fail) | fail)) rfl rfl ?_
        refine h_lazy (i := 17) (by kernel_rfl) rfl rfl (fun hg => g_fld (evv rfl)) rfl rfl ?_
        refine h_lazy (i := 18) (by kernel_rfl) rfl rfl (fun hg => g_load (evg rfl hg) (by rfl) (by rfl)) rfl rfl ?_
        refine h_one (i := 19) (by kernel_rfl) rfl (Lay.ent) ?_
        refine o_lazy (v0 := undef) rfl (fun hg => absurd hg (by first | (simp; done) | fail)) rfl rfl ?_
        refine o_nil ?_
        refine h_lazy (i := 20) (by kernel_rfl) rfl (v0 := undef) rfl (fun hg => absurd hg (by first | (simp; done) | fail)) rfl rfl ?_
        refine h_give (i := 21) (by kernel_rfl) rfl (g_pick (b := false) (evv rfl) (fun h => by cases h) (fun _ => (evv rfl))) rfl rfl ?_
        refine h_give (i := 22) (by kernel_rfl) rfl (g_move (evv rfl)) rfl rfl ?_
        refine h_lazy (i := 23) (by kernel_rfl) rfl rfl (fun hg => g_fld (evv rfl)) rfl rfl ?_
        refine h_lazy (i := 24) (by kernel_rfl) rfl rfl (fun hg => g_load (evg rfl hg) (by rfl) (by rfl)) rfl rfl ?_
        refine h_lazy (i := 25) (by kernel_rfl) rfl rfl (fun hg => g_lenF (by first | exact evv rfl | exact evg rfl (by rw [hp]; rfl) | exact evg rfl hp | exact evg rfl hg | exact evg rfl (by first | (simp_all; done) | (simp [*]; done) | fail) | fail)) rfl rfl ?_
        refine h_lazy (i := 26) (by kernel_rfl) rfl rfl (fun hg => g_bin (by first | exact evv rfl | exact evg rfl (by rw [hp]; rfl) | exact evg rfl hp | exact evg rfl hg | exact evg rfl (by first | (simp_all; done) | (simp [*]; done) | fail) | fail) (by first | exact evv rfl | exact evg rfl (by rw [hp]; rfl) | exact evg rfl hp | exact evg rfl hg | exact evg rfl (by first | (simp_all; done) | (simp [*]; done) | fail) | fail) (by rfl)) rfl rfl ?_
        refine h_give (i := 27) (by kernel_rfl) rfl (g_pick (b := false) (evv rfl) (fun h => by cases h) (fun _ => (evv rfl))) rfl rfl ?_
        refine h_give (i := 28) (by kernel_rfl) rfl (g_assign (evv rfl)) rfl rfl ?_
        refine h_done (by kernel_rfl) (Lay.ent) ?_
        refine c_code ?_
        first | refine r_ret (rs := [.tmp 2]) rfl rfl _ (Ent.drop) ?_ | refine c_end (rs := [.tmp 2]) rfl rfl _ (Ent.drop) ?_
        refine ⟨bool_eq (decide_eq_false ?_).symm, rfl⟩
        rintro (h | ⟨_, h1, h2, h3, _⟩ | h)
        · exact absurd h.1 (show ¬ (2 : Int) = 1 by decide)
        · exact hcc ⟨h1, h2, h3⟩
        · exact absurd h.1 (show ¬ (2 : Int) = 3 by decide)
    · by_cases hk3 : kind = 3
      · subst hk3
        refine r_seq ?_
        refine r_region (id := 0) ?_
        refine o_boxA (evv rfl) rfl (fun _ => ?_)
        refine o_give (g_assign (evv rfl)) rfl rfl ?_
        refine o_nil ?_
        refine c_code ?_
        refine r_seq ?_
        refine r_seq ?_
        refine r_region (id := 1) ?_
        refine o_give (g_fld (evv rfl)) rfl rfl ?_
        refine o_give (g_load (evv rfl) (by rfl) (by rfl)) rfl rfl ?_
        refine o_nil ?_
        refine c_code ?_
        refine r_block ?_
        refine r_seq ?_
        refine r_region (id := 2) ?_
        refine o_give (g_bin (evv rfl) (evv rfl) (by rfl)) rfl rfl ?_
        refine o_give (g_assign (evv rfl)) rfl rfl ?_
        refine o_nil ?_
        refine c_code ?_
        refine r_cond_false rfl ?_
        refine r_seq ?_
        refine r_region (id := 4) ?_
        refine o_give (g_bin (evv rfl) (evv rfl) (by rfl)) rfl rfl ?_
        refine o_give (g_assign (evv rfl)) rfl rfl ?_
        refine o_nil ?_
        refine c_code ?_
        refine r_cond_false rfl ?_
        refine r_seq ?_
        refine r_region (id := 6) ?_
        refine o_give (g_bin (evv rfl) (evv rfl) (by rfl)) rfl rfl ?_
        refine o_give (g_assign (evv rfl)) rfl rfl ?_
        refine o_nil ?_
        refine c_code ?_
        refine r_cond_true rfl ?_
        refine r_seq ?_
        refine r_region (id := 7) ?_
        refine o_give (g_fld (evv rfl)) rfl rfl ?_
        refine o_give (g_load (evv rfl) (by rfl) (by rfl)) rfl rfl ?_
        refine o_give (g_binS (evv rfl) (evv rfl) (by rfl)) rfl rfl ?_
        refine o_give (g_move (evv rfl)) rfl rfl ?_
        refine o_lazy rfl (fun hg => g_fld (evv rfl)) rfl rfl ?_
        refine o_lazy rfl (fun hg => g_load (evg rfl hg) (by rfl) (by rfl)) rfl rfl ?_
        refine o_lazy rfl (fun hg => g_bin (by first | exact evv rfl | exact evg rfl (by rw [hp]; rfl) | exact evg rfl hp | exact evg rfl hg | exact evg rfl (by first | (simp_all; done) | (simp [*]; done) | fail) | fail) (by first | exact evv rfl | exact evg rfl (by rw [hp]; rfl) | exact evg rfl hp | exact evg rfl hg | exact evg rfl (by first | (simp_all; done) | (simp [*]; done) | fail) | fail) (by rfl)) rfl rfl ?_
        refine o_give (g_pick_and (evv rfl) (evv rfl) (fun hp => (by first | exact evv rfl | exact evg rfl (by rw [hp]; rfl) | exact evg rfl hp | exact evg rfl hg | exact evg rfl (by first | (simp_all; done) | (simp [*]; done) | fail) | fail))) rfl rfl ?_
        refine o_give (g_move (evv rfl)) rfl rfl ?_
        refine o_lazy rfl (fun hg => g_fld (evv rfl)) rfl rfl ?_
        refine o_lazy rfl (fun hg => g_load (evg rfl hg) (by rfl) (by rfl)) rfl rfl ?_
        refine o_lazy rfl (fun hg => g_lenF (by first | exact evv rfl | exact evg rfl (by rw [hp]; rfl) | exact evg rfl hp | exact evg rfl hg | exact evg rfl (by first | (simp_all; done) | (simp [*]; done) | fail) | fail)) rfl rfl ?_
        refine o_lazy rfl (fun hg => g_bin (by first | exact evv rfl | exact evg rfl (by rw [hp]; rfl) | exact evg rfl hp | exact evg rfl hg | exact evg rfl (by first | (simp_all; done) | (simp [*]; done) | fail) | fail) (by first | exact evv rfl | exact evg rfl (by rw [hp]; rfl) | exact evg rfl hp | exact evg rfl hg | exact evg rfl (by first | (simp_all; done) | (simp [*]; done) | fail) | fail) (by rfl)) rfl rfl ?_
        refine o_give (g_pick_and (evv rfl) (evv rfl) (fun hp => (by first | exact evv rfl | exact evg rfl (by rw [hp]; rfl) | exact evg rfl hp | exact evg rfl hg | exact evg rfl (by first | (simp_all; done) | (simp [*]; done) | fail) | fail))) rfl rfl ?_
        refine o_give (g_move (evv rfl)) rfl rfl ?_
        refine o_lazy rfl (fun hg => g_fld (evv rfl)) rfl rfl ?_
        refine o_lazy rfl (fun hg => g_load (evg rfl hg) (by rfl) (by rfl)) rfl rfl ?_
        rename_i q
        refine o_split (t := 80) rfl (fun hs => ?_) (fun hs => ?_)
        · refine o_sure (t := 82) rfl hs ?_
          refine o_gyes rfl ?_
          (refine o_call rfl _ (Ent.refl _) (rising_c _ _ _ (by assumption)) rfl ?_; rintro _ _ ⟨rfl, hLz⟩; obtain rfl := hLz.symm; clear hLz)
          refine o_give (g_pick (b := true) (evv rfl) (fun _ => (evv rfl)) (fun h => by cases h)) rfl rfl ?_
          refine o_give (g_assign (evv rfl)) rfl rfl ?_
          refine o_nil ?_
          refine c_code ?_
          first | refine r_ret (rs := [.tmp 2]) rfl rfl _ (Ent.drop) ?_ | refine c_end (rs := [.tmp 2]) rfl rfl _ (Ent.drop) ?_
          refine ⟨bool_eq ?_, rfl⟩
          dsimp only at hs ⊢
          simp only [Bool.and_eq_true, decide_eq_true_eq] at hs
          have hp0 : (parts.length : Int) = 0 ↔ parts = [] := by cases parts <;> simp; omega
          rw [hp0] at hs
          obtain ⟨⟨h1, h2⟩, h3⟩ := hs
          rw [Bool.eq_iff_iff]
          simp only [decide_eq_true_eq, nodeOk]
          constructor
          · rintro ⟨h4, h5⟩
            exact .inr (.inr ⟨trivial, h1, h2, h3, h5, h4⟩)
          · rintro (h | h | ⟨_, _, _, _, h4, h5⟩)
            · exact absurd h.1 (by decide)
            · exact absurd h.1 (by decide)
            · exact ⟨h5, h4⟩
        · refine o_lazy (v0 := undef) rfl (fun hg => absurd hg (by first | (simp; done) | fail)) rfl rfl ?_
          refine o_give (g_pick (b := false) (evv rfl) (fun h => by cases h) (fun _ => (evv rfl))) rfl rfl ?_
          refine o_give (g_assign (evv rfl)) rfl rfl ?_
          refine o_nil ?_
          refine c_code ?_
          first | refine r_ret (rs := [.tmp 2]) rfl rfl _ (Ent.drop) ?_ | refine c_end (rs := [.tmp 2]) rfl rfl _ (Ent.drop) ?_
          refine ⟨bool_eq (decide_eq_false ?_).symm, rfl⟩
          rintro (h | h | ⟨_, h1, h2, h3, _⟩)
          · exact absurd h.1 (show ¬ (3 : Int) = 1 by decide)
          · exact absurd h.1 (show ¬ (3 : Int) = 2 by decide)
          · dsimp only at hs h1 h2 h3
            rw [h1, h2, h3] at hs
            simp at hs
      · refine r_seq ?_
        refine r_region (id := 0) ?_
        refine o_boxA (evv rfl) rfl (fun _ => ?_)
        refine o_give (g_assign (evv rfl)) rfl rfl ?_
        refine o_nil ?_
        refine c_code ?_
        refine r_seq ?_
        refine r_seq ?_
        refine r_region (id := 1) ?_
        refine o_give (g_fld (evv rfl)) rfl rfl ?_
        refine o_give (g_load (evv rfl) (by rfl) (by rfl)) rfl rfl ?_
        refine o_nil ?_
        refine c_code ?_
        refine r_block ?_
        refine r_seq ?_
        refine r_region (id := 2) ?_
        refine o_give (g_bin (evv rfl) (evv rfl) (by rfl)) rfl rfl ?_
        refine o_give (g_assign (evv rfl)) rfl rfl ?_
        refine o_nil ?_
        refine c_code ?_
        rw [decide_eq_false hk1]
        refine r_cond_false rfl ?_
        refine r_seq ?_
        refine r_region (id := 4) ?_
        refine o_give (g_bin (evv rfl) (evv rfl) (by rfl)) rfl rfl ?_
        refine o_give (g_assign (evv rfl)) rfl rfl ?_
        refine o_nil ?_
        refine c_code ?_
        rw [decide_eq_false hk2]
        refine r_cond_false rfl ?_
        refine r_seq ?_
        refine r_region (id := 6) ?_
        refine o_give (g_bin (evv rfl) (evv rfl) (by rfl)) rfl rfl ?_
        refine o_give (g_assign (evv rfl)) rfl rfl ?_
        refine o_nil ?_
        refine c_code ?_
        rw [decide_eq_false hk3]
        refine r_cond_false rfl ?_
        refine r_skip ?_
        refine c_blk ?_
        refine c_code ?_
        refine r_seq ?_
        refine r_region (id := 8) ?_
        refine o_give (g_assign (evv rfl)) rfl rfl ?_
        refine o_nil ?_
        refine c_code ?_
        first | refine r_ret (rs := [.tmp 2]) rfl rfl _ (Ent.drop) ?_ | refine c_end (rs := [.tmp 2]) rfl rfl _ (Ent.drop) ?_
        refine ⟨bool_eq ?_, rfl⟩
        exact (decide_eq_false (fun h => by rcases h with h | h | h <;> first | exact hk1 h.1 | exact hk2 h.1 | exact hk3 h.1)).symm
end VK
