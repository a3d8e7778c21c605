/- Nodes and items compared, by the reference. Conditions: none. -/
import Derived.Test.YtpknikpkepcbcaaNode6
namespace VK
open Go Go.Proofs
set_option linter.unusedSimpArgs false
set_option linter.unusedVariables false
set_option maxRecDepth 100000
set_option maxHeartbeats 40000000
theorem eq_bys {P : Program} {t e : TypeId} {n : Nat} {i : TI} [tu : TyU P t (.array n e)] [te : TyU P e (.int .u8)] [ti : TyI P e i] (hsz : i.size = 1) (d : Nat) (a b : List UInt8) (ha : a.length = n) (hb : b.length = n) (w : World) :
    (Op.equalIn (d + 2) t (agg (bys a)) (agg (bys b))).run P w = .ok (decide (a = b)) w := by
  obtain ⟨info, hi, hi1, _, _⟩ := ti.h
  have hc : P.cellsOf e = 1 := by simp [Program.cellsOf, hi, hi1, hsz]
  have h1 := run_equalIn_array (P := P) w (d + 1) (bys a).toArray (bys b).toArray tu.h hi
  have h2 := run_eqBytes te d a b (by omega) w n 0 (by omega)
  rw [hc, List.range_eq_range', h2] at h1
  simp only [List.drop_zero] at h1
  exact h1
theorem itmC_ext (a b : Itm) : (a.name = b.name ∧ a.kind = b.kind ∧ a.sum.1 = b.sum.1 ∧ True) ↔ a = b := by
  obtain ⟨n, k, s⟩ := a
  obtain ⟨m, l, t⟩ := b
  simp [Subtype.ext_iff]
instance : EqS Try.prog 54 itmC := ⟨fun d a b w => by
  have h := run_equalIn_struct (P := Try.prog) w (d + 7) 54 (itmC a).toArray (itmC b).toArray (by kernel_rfl) (by kernel_rfl)
  rw [show (agg (itmC a)) = .agg (itmC a).toArray from rfl, show (agg (itmC b)) = .agg (itmC b).toArray from rfl, h, show (Try.prog.fieldsOf 54).toList = [{ name := "Name", type := 9, offset := 0, embedded := false, tag := "", pkgPath := "", byteOffset := 0 }, { name := "Kind", type := 3, offset := 1, embedded := false, tag := "", pkgPath := "", byteOffset := 16 }, { name := "Sum", type := 52, offset := 2, embedded := false, tag := "", pkgPath := "", byteOffset := 24 }] from by kernel_rfl]
  refine Eq.trans (b := .ok (decide (a.name = b.name ∧ a.kind = b.kind ∧ a.sum.1 = b.sum.1 ∧ True)) w) ?_ (by congr 1; exact decide_eq_decide.2 (itmC_ext a b))
  refine eqF_cons (by decide) (part_one rfl rfl) (part_one rfl rfl) (eq_str _ _ _ w) ?_
  refine eqF_cons (by decide) (part_one rfl rfl) (part_one rfl rfl) (eq_int _ _ _ w) ?_
  refine eqF_cons (by decide) (part_agg rfl (PartC.h (n := 32) (cs := itmC a) (vs := bys a.sum.1)).1) (part_agg rfl (PartC.h (n := 32) (cs := itmC b) (vs := bys b.sum.1)).1) (eq_bys rfl _ _ _ a.sum.2 b.sum.2 w) ?_
  exact eqF_nil'⟩
theorem take_more {α : Type} [Inhabited α] {l m : List α} {i : Nat} (h1 : i < l.length) (h2 : i < m.length) (h : l.take i = m.take i) (h3 : l.getD i default = m.getD i default) : l.take (i + 1) = m.take (i + 1) := by
  rw [List.take_succ_eq_append_getElem h1, List.take_succ_eq_append_getElem h2, h]
  simp only [List.getD_eq_getElem?_getD, List.getElem?_eq_getElem h1, List.getElem?_eq_getElem h2, Option.getD_some] at h3
  rw [h3]
theorem Items_c (L : List Atom) (v1 v2 : Value) (l1 l2 : List Itm) [r1 : Rd L v1 (frow itmC 34 54 l1)] [r2 : Rd L v2 (frow itmC 34 54 l2)] : Fn Try.prog 19 [v1, v2] L fun w L' => w = .bool (decide (l1 = l2)) ∧ L' = L := by
  refine fn_lenF r1 fun hl1 => ?_
  refine fn_lenF r2 fun hl2 => ?_
  have hl1 : l1.length ≤ 2 ^ 63 - 1 := hl1
  have hl2 : l2.length ≤ 2 ^ 63 - 1 := hl2
  refine fn_intro Try.func19 rfl Try.ntmps19 rfl (fun W0 => ?_)
  simp only [argE]
  refine r_seq ?_
  refine r_region (id := 0) ?_
  refine o_give (g_assign (evv rfl)) rfl rfl ?_
  refine o_nil ?_
  refine c_code ?_
  refine r_seq ?_
  refine r_seq ?_
  refine r_region (id := 1) ?_
  refine o_give (g_move (evv rfl)) rfl rfl ?_
  refine o_give (g_lenF (evv rfl)) rfl rfl ?_
  refine o_give (g_move (evv rfl)) rfl rfl ?_
  refine o_give (g_lenF (evv rfl)) rfl rfl ?_
  refine o_give (g_bin (evv rfl) (evv rfl) (by rfl)) rfl rfl ?_
  refine o_nil ?_
  refine c_code ?_
  refine r_cond rfl (fun hc => ?_) (fun hc => ?_) <;> (try simp only [decide_eq_true_eq, decide_eq_false_iff_not, Bool.and_eq_true, Bool.or_eq_true, Bool.not_eq_true', Bool.and_eq_false_iff, Bool.or_eq_false_iff, Bool.not_eq_false', Bool.not_eq_true, Bool.not_eq_false, Bool.true_eq_false, Bool.false_eq_true, Int.not_lt, Int.not_le, not_and, not_or, ne_eq] at hc)
  · rw [decide_eq_false (show ¬ l1 = l2 from fun h => by first | exact hc (by rw [h]) | (rw [h] at hc; omega))]
    refine r_seq ?_
    refine r_region (id := 2) ?_
    refine o_give (g_assign (evv rfl)) rfl rfl ?_
    refine o_nil ?_
    refine c_code ?_
    first | refine r_ret (rs := [.tmp 4]) rfl rfl _ (Ent.refl _) ?_ | refine c_end (rs := [.tmp 4]) rfl rfl _ (Ent.refl _) ?_
    exact ⟨rfl, rfl⟩
  · have hll : l1.length = l2.length := by omega
    refine r_skip ?_
    refine c_code ?_
    refine r_seq ?_
    refine r_seq ?_
    refine r_region (id := 3) ?_
    refine o_give (g_assign (evv rfl)) rfl rfl ?_
    refine o_nil ?_
    refine c_code ?_
    refine r_block ?_
    refine r_loopE (σ := Nat) (fun i => i ≤ l1.length ∧ l1.take i = l2.take i) (fun i => l1.length - i) (fun i => [(5, .v (.int .i64 i))]) [0, 1] (fun i => L) 0 (by dsimp only [pickE, pick1, lk2, Nat.reduceBEq, Nat.reduceAdd, Nat.zero_add, cond_true, cond_false] <;> exact rfl) ?_ (by repeat (first | exact trivial | refine ⟨rfl, ?_⟩ | refine envsub_v rfl (by first | rfl | (refine int_eq ?_; first | omega | (simp; omega) | (simp; done)) | (refine bool_eq ?_; first | (simp [*]; done) | (simp; done)) | (refine str_eq ?_; simp; done) | (refine ptr_eq ?_; omega) | fail) ?_)) ?_ ?_
    · exact ⟨Nat.zero_le _, rfl⟩
    · exact Ent.refl _
    rintro i ⟨hi, ht⟩; dsimp only [List.cons_append, List.nil_append]
    refine r_seq ?_
    refine r_seq ?_
    refine r_region (id := 4) ?_
    refine o_give (g_move (evv rfl)) rfl rfl ?_
    refine o_give (g_move (evv rfl)) rfl rfl ?_
    refine o_give (g_lenF (evv rfl)) rfl rfl ?_
    refine o_give (g_bin (evv rfl) (evv rfl) (by rfl)) rfl rfl ?_
    refine o_nil ?_
    refine c_code ?_
    refine r_cond rfl (fun hc2 => ?_) (fun hc2 => ?_) <;> (try simp only [decide_eq_true_eq, decide_eq_false_iff_not, Bool.and_eq_true, Bool.or_eq_true, Bool.not_eq_true', Bool.and_eq_false_iff, Bool.or_eq_false_iff, Bool.not_eq_false', Bool.not_eq_true, Bool.not_eq_false, Bool.true_eq_false, Bool.false_eq_true, Int.not_lt, Int.not_le, not_and, not_or, ne_eq] at hc2)
    · have hil : i < l1.length := by omega
      have hil2 : i < l2.length := by omega
      refine r_skip ?_
      refine c_code ?_
      refine r_seq ?_
      refine r_block ?_
      refine r_seq ?_
      refine r_quiet (id := 6) Mixed.h (by kernel_rfl) ?_
      refine q_give (g_move (evv rfl)) rfl rfl ?_
      refine q_give (g_move (evv rfl)) rfl rfl ?_
      refine q_give (g_idxFN (evv rfl) (evv rfl) (by rfl) (by rfl) (by first | omega | (have := of_decide_eq_true hg; omega) | (simp at hg; omega) | (simp only [List.length_set, List.length_append, List.length_cons, List.length_nil, List.length_map, List.length_take, List.length_drop, List.length_replicate]; omega))) rfl rfl ?_
      refine q_give (g_loadFr (evv rfl) (by rfl) (by first | (intro; rfl) | exact LenC.h) (by rfl) (by rfl) (by first | omega | (have := of_decide_eq_true hg; omega) | (simp at hg; omega) | (simp only [List.length_set, List.length_append, List.length_cons, List.length_nil, List.length_map, List.length_take, List.length_drop, List.length_replicate]; omega))) rfl rfl ?_
      refine q_give (g_move (evv rfl)) rfl rfl ?_
      refine q_give (g_move (evv rfl)) rfl rfl ?_
      refine q_give (g_idxFN (evv rfl) (evv rfl) (by rfl) (by rfl) (by first | omega | (have := of_decide_eq_true hg; omega) | (simp at hg; omega) | (simp only [List.length_set, List.length_append, List.length_cons, List.length_nil, List.length_map, List.length_take, List.length_drop, List.length_replicate]; omega))) rfl rfl ?_
      refine q_give (g_loadFr (evv rfl) (by rfl) (by first | (intro; rfl) | exact LenC.h) (by rfl) (by rfl) (by first | omega | (have := of_decide_eq_true hg; omega) | (simp at hg; omega) | (simp only [List.length_set, List.length_append, List.length_cons, List.length_nil, List.length_map, List.length_take, List.length_drop, List.length_replicate]; omega))) rfl rfl ?_
      refine q_give (g_eqS (by kernel_rfl) (evv rfl) (evv rfl) (by rfl)) rfl rfl ?_
      refine q_nil ?_
      refine c_code ?_
      refine r_cond rfl (fun hd => ?_) (fun hd => ?_) <;> (try simp only [decide_eq_true_eq, decide_eq_false_iff_not, Bool.and_eq_true, Bool.or_eq_true, Bool.not_eq_true', Bool.and_eq_false_iff, Bool.or_eq_false_iff, Bool.not_eq_false', Bool.not_eq_true, Bool.not_eq_false, Bool.true_eq_false, Bool.false_eq_true, Int.not_lt, Int.not_le, not_and, not_or, ne_eq] at hd)
      · rw [decide_eq_false (show ¬ l1 = l2 from fun h => hd (by rw [h]))]
        refine r_seq ?_
        refine r_region (id := 7) ?_
        refine o_give (g_assign (evv rfl)) rfl rfl ?_
        refine o_nil ?_
        refine c_code ?_
        first | refine r_ret (rs := [.tmp 4]) rfl rfl _ (Ent.refl _) ?_ | refine c_end (rs := [.tmp 4]) rfl rfl _ (Ent.refl _) ?_
        exact ⟨rfl, rfl⟩
      · have ht2 := take_more hil hil2 ht hd
        refine r_skip ?_
        refine c_blk ?_
        refine c_code ?_
        refine r_region (id := 5) ?_
        refine o_give (g_move (evv rfl)) rfl rfl ?_
        refine o_giveN (g_bin (evv rfl) (evv rfl) (by rfl)) (by simp only [inR]; omega) rfl ?_
        refine o_give (g_assign (evv rfl)) rfl rfl ?_
        refine o_nil ?_
        refine c_loop (i + 1) ?_ ?_ (by repeat (first | exact trivial | refine ⟨rfl, ?_⟩ | refine envsub_v rfl (by first | rfl | (refine int_eq ?_; first | omega | (simp; omega) | (simp; done)) | (refine bool_eq ?_; first | (simp [*]; done) | (simp; done)) | (refine str_eq ?_; simp; done) | (refine ptr_eq ?_; omega) | fail) ?_)) ?_ <;> (try dsimp only)
        · exact ⟨by omega, ht2⟩
        · omega
        · exact Ent.refl _
    · rw [List.take_of_length_le (by omega), List.take_of_length_le (by omega)] at ht
      rw [decide_eq_true ht]
      refine r_exit rfl ?_
      refine c_code ?_
      refine r_seq ?_
      refine r_region (id := 8) ?_
      refine o_give (g_assign (evv rfl)) rfl rfl ?_
      refine o_nil ?_
      refine c_code ?_
      first | refine r_ret (rs := [.tmp 4]) rfl rfl _ (Ent.refl _) ?_ | refine c_end (rs := [.tmp 4]) rfl rfl _ (Ent.refl _) ?_
      exact ⟨rfl, rfl⟩
theorem SameN_c (L : List Atom) (m n : NodeS) (v1 w1 v2 w2 : Value) [r1 : Rd L v1 (frow digC 32 52 m.parts)] [r2 : Rd L w1 (frow itmC 34 54 m.items)] [r3 : Rd L v2 (frow digC 32 52 n.parts)] [r4 : Rd L w2 (frow itmC 34 54 n.items)] :
    Fn Try.prog 12 [agg (nodV m v1 w1), agg (nodV n v2 w2)] L fun w L' => w = .bool (decide (m = n)) ∧ L' = L := by
  refine fn_lenF r1 fun hl1 => ?_
  refine fn_lenF r3 fun hl2 => ?_
  have hl1 : m.parts.length ≤ 2 ^ 63 - 1 := hl1
  have hl2 : n.parts.length ≤ 2 ^ 63 - 1 := hl2
  obtain ⟨k1, d1, s1, p1, i1⟩ := m
  obtain ⟨k2, d2, s2, p2, i2⟩ := n
  dsimp only at r1 r2 r3 r4 hl1 hl2
  refine fn_intro Try.func12 rfl Try.ntmps12 rfl (fun W0 => ?_)
  simp only [argE, nodV]
  refine r_seq ?_
  refine r_region (id := 0) ?_
  refine o_boxA (evv rfl) rfl (fun _ => ?_)
  refine o_boxA (evv rfl) rfl (fun _ => ?_)
  refine o_give (g_assign (evv rfl)) rfl rfl ?_
  refine o_nil ?_
  refine c_code ?_
  refine r_seq ?_
  refine r_seq ?_
  refine r_region (id := 1) ?_
  refine o_give (g_fld (evv rfl)) rfl rfl ?_
  refine o_give (g_load (evv rfl) (by rfl) (by rfl)) rfl rfl ?_
  refine o_give (g_fld (evv rfl)) rfl rfl ?_
  refine o_give (g_load (evv rfl) (by rfl) (by rfl)) rfl rfl ?_
  refine o_give (g_bin (evv rfl) (evv rfl) (by rfl)) rfl rfl ?_
  refine o_give (g_move (evv rfl)) rfl rfl ?_
  refine o_lazy rfl (fun hg => g_fld (evv rfl)) rfl rfl ?_
  refine o_lazy rfl (fun hg => g_load (evg rfl hg) (by rfl) (by rfl)) rfl rfl ?_
  refine o_lazy rfl (fun hg => g_fld (evv rfl)) rfl rfl ?_
  refine o_lazy rfl (fun hg => g_load (evg rfl hg) (by rfl) (by rfl)) rfl rfl ?_
  refine o_lazy rfl (fun hg => g_binS (by first | exact evv rfl | exact evg rfl (by rw [hp]; rfl) | exact evg rfl hp | exact evg rfl hg | exact evg rfl (by first | (simp_all; done) | (simp [*]; done) | fail) | fail) (by first | exact evv rfl | exact evg rfl (by rw [hp]; rfl) | exact evg rfl hp | exact evg rfl hg | exact evg rfl (by first | (simp_all; done) | (simp [*]; done) | fail) | fail) (by rfl)) rfl rfl ?_
  refine o_give (g_pick_or (evv rfl) (evv rfl) (fun hp => (by first | exact evv rfl | exact evg rfl (by rw [hp]; rfl) | exact evg rfl hp | exact evg rfl hg | exact evg rfl (by first | (simp_all; done) | (simp [*]; done) | fail) | fail))) rfl rfl ?_
  refine o_give (g_move (evv rfl)) rfl rfl ?_
  refine o_lazy rfl (fun hg => g_fld (evv rfl)) rfl rfl ?_
  refine o_lazy rfl (fun hg => g_load (evg rfl hg) (by rfl) (by rfl)) rfl rfl ?_
  refine o_lazy rfl (fun hg => g_fld (evv rfl)) rfl rfl ?_
  refine o_lazy rfl (fun hg => g_load (evg rfl hg) (by rfl) (by rfl)) rfl rfl ?_
  refine o_lazy rfl (fun hg => g_bin (by first | exact evv rfl | exact evg rfl (by rw [hp]; rfl) | exact evg rfl hp | exact evg rfl hg | exact evg rfl (by first | (simp_all; done) | (simp [*]; done) | fail) | fail) (by first | exact evv rfl | exact evg rfl (by rw [hp]; rfl) | exact evg rfl hp | exact evg rfl hg | exact evg rfl (by first | (simp_all; done) | (simp [*]; done) | fail) | fail) (by rfl)) rfl rfl ?_
  refine o_give (g_pick_or (evv rfl) (evv rfl) (fun hp => (by first | exact evv rfl | exact evg rfl (by rw [hp]; rfl) | exact evg rfl hp | exact evg rfl hg | exact evg rfl (by first | (simp_all; done) | (simp [*]; done) | fail) | fail))) rfl rfl ?_
  refine o_give (g_move (evv rfl)) rfl rfl ?_
  refine o_lazy rfl (fun hg => g_fld (evv rfl)) rfl rfl ?_
  refine o_lazy rfl (fun hg => g_load (evg rfl hg) (by rfl) (by rfl)) rfl rfl ?_
  refine o_lazy rfl (fun hg => g_lenF (by first | exact evv rfl | exact evg rfl (by rw [hp]; rfl) | exact evg rfl hp | exact evg rfl hg | exact evg rfl (by first | (simp_all; done) | (simp [*]; done) | fail) | fail)) rfl rfl ?_
  refine o_lazy rfl (fun hg => g_fld (evv rfl)) rfl rfl ?_
  refine o_lazy rfl (fun hg => g_load (evg rfl hg) (by rfl) (by rfl)) rfl rfl ?_
  refine o_lazy rfl (fun hg => g_lenF (by first | exact evv rfl | exact evg rfl (by rw [hp]; rfl) | exact evg rfl hp | exact evg rfl hg | exact evg rfl (by first | (simp_all; done) | (simp [*]; done) | fail) | fail)) rfl rfl ?_
  refine o_lazy rfl (fun hg => g_bin (by first | exact evv rfl | exact evg rfl (by rw [hp]; rfl) | exact evg rfl hp | exact evg rfl hg | exact evg rfl (by first | (simp_all; done) | (simp [*]; done) | fail) | fail) (by first | exact evv rfl | exact evg rfl (by rw [hp]; rfl) | exact evg rfl hp | exact evg rfl hg | exact evg rfl (by first | (simp_all; done) | (simp [*]; done) | fail) | fail) (by rfl)) rfl rfl ?_
  refine o_give (g_pick_or (evv rfl) (evv rfl) (fun hp => (by first | exact evv rfl | exact evg rfl (by rw [hp]; rfl) | exact evg rfl hp | exact evg rfl hg | exact evg rfl (by first | (simp_all; done) | (simp [*]; done) | fail) | fail))) rfl rfl ?_
  refine o_nil ?_
  refine c_code ?_
  rename_i b1 b2
  refine r_cond rfl (fun hc => ?_) (fun hc => ?_) <;> (try simp only [decide_eq_true_eq, decide_eq_false_iff_not, Bool.and_eq_true, Bool.or_eq_true, Bool.not_eq_true', Bool.and_eq_false_iff, Bool.or_eq_false_iff, Bool.not_eq_false', Bool.not_eq_true, Bool.not_eq_false, Bool.true_eq_false, Bool.false_eq_true, Int.not_lt, Int.not_le, not_and, not_or, ne_eq] at hc)
  · rw [decide_eq_false (show ¬ (⟨k1, d1, s1, p1, i1⟩ : NodeS) = ⟨k2, d2, s2, p2, i2⟩ from fun h => by
      simp only [NodeS.mk.injEq] at h
      obtain ⟨rfl, rfl, rfl, rfl, rfl⟩ := h
      simp at hc)]
    refine r_seq ?_
    refine r_region (id := 2) ?_
    refine o_give (g_assign (evv rfl)) rfl rfl ?_
    refine o_nil ?_
    refine c_code ?_
    first | refine r_ret (rs := [.tmp 4]) rfl rfl _ ((Lay.ent (L' := L))) ?_ | refine c_end (rs := [.tmp 4]) rfl rfl _ ((Lay.ent (L' := L))) ?_
    exact ⟨rfl, rfl⟩
  · obtain ⟨⟨⟨rfl, rfl⟩, rfl⟩, hll⟩ := hc
    have hll : p1.length = p2.length := by omega
    refine r_skip ?_
    refine c_code ?_
    refine r_seq ?_
    refine r_seq ?_
    refine r_region (id := 3) ?_
    refine o_give (g_assign (evv rfl)) rfl rfl ?_
    refine o_nil ?_
    refine c_code ?_
    refine r_block ?_
    refine r_loopE (σ := Nat) (fun i => i ≤ p1.length ∧ p1.take i = p2.take i) (fun i => p1.length - i) (fun i => [(5, .v (.int .i64 i))]) [2, 3] (fun i => blk b2 ⟨[.int .i64 k1, str d1, .int .i64 s1, v2, w2], 27⟩ :: blk b1 ⟨[.int .i64 k1, str d1, .int .i64 s1, v1, w1], 27⟩ :: L) 0 (by dsimp only [pickE, pick1, lk2, Nat.reduceBEq, Nat.reduceAdd, Nat.zero_add, cond_true, cond_false] <;> exact rfl) ?_ (by repeat (first | exact trivial | refine ⟨rfl, ?_⟩ | refine envsub_v rfl (by first | rfl | (refine int_eq ?_; first | omega | (simp; omega) | (simp; done)) | (refine bool_eq ?_; first | (simp [*]; done) | (simp; done)) | (refine str_eq ?_; simp; done) | (refine ptr_eq ?_; omega) | fail) ?_)) ?_ ?_
    · exact ⟨Nat.zero_le _, rfl⟩
    · exact Lay.ent
    rintro i ⟨hi, ht⟩; dsimp only [List.cons_append, List.nil_append]
    refine r_seq ?_
    refine r_seq ?_
    refine r_region (id := 4) ?_
    refine o_give (g_move (evv rfl)) rfl rfl ?_
    refine o_give (g_fld (evv rfl)) rfl rfl ?_
    refine o_give (g_load (evv rfl) (by rfl) (by rfl)) rfl rfl ?_
    refine o_give (g_lenF (evv rfl)) rfl rfl ?_
    refine o_give (g_bin (evv rfl) (evv rfl) (by rfl)) rfl rfl ?_
    refine o_nil ?_
    refine c_code ?_
    refine r_cond rfl (fun hc2 => ?_) (fun hc2 => ?_) <;> (try simp only [decide_eq_true_eq, decide_eq_false_iff_not, Bool.and_eq_true, Bool.or_eq_true, Bool.not_eq_true', Bool.and_eq_false_iff, Bool.or_eq_false_iff, Bool.not_eq_false', Bool.not_eq_true, Bool.not_eq_false, Bool.true_eq_false, Bool.false_eq_true, Int.not_lt, Int.not_le, not_and, not_or, ne_eq] at hc2)
    · have hil : i < p1.length := by omega
      have hil2 : i < p2.length := by omega
      refine r_skip ?_
      refine c_code ?_
      refine r_seq ?_
      refine r_block ?_
      refine r_seq ?_
      refine r_quiet (id := 6) Mixed.h (by kernel_rfl) ?_
      refine q_give (g_fld (evv rfl)) rfl rfl ?_
      refine q_give (g_load (evv rfl) (by rfl) (by rfl)) rfl rfl ?_
      refine q_give (g_move (evv rfl)) rfl rfl ?_
      refine q_give (g_idxFN (evv rfl) (evv rfl) (by rfl) (by rfl) (by first | omega | (have := of_decide_eq_true hg; omega) | (simp at hg; omega) | (simp only [List.length_set, List.length_append, List.length_cons, List.length_nil, List.length_map, List.length_take, List.length_drop, List.length_replicate]; omega))) rfl rfl ?_
      refine q_give (g_loadFr (evv rfl) (by rfl) (by first | (intro; rfl) | exact LenC.h) (by rfl) (by rfl) (by first | omega | (have := of_decide_eq_true hg; omega) | (simp at hg; omega) | (simp only [List.length_set, List.length_append, List.length_cons, List.length_nil, List.length_map, List.length_take, List.length_drop, List.length_replicate]; omega))) rfl rfl ?_
      refine q_give (g_fld (evv rfl)) rfl rfl ?_
      refine q_give (g_load (evv rfl) (by rfl) (by rfl)) rfl rfl ?_
      refine q_give (g_move (evv rfl)) rfl rfl ?_
      refine q_give (g_idxFN (evv rfl) (evv rfl) (by rfl) (by rfl) (by first | omega | (have := of_decide_eq_true hg; omega) | (simp at hg; omega) | (simp only [List.length_set, List.length_append, List.length_cons, List.length_nil, List.length_map, List.length_take, List.length_drop, List.length_replicate]; omega))) rfl rfl ?_
      refine q_give (g_loadFr (evv rfl) (by rfl) (by first | (intro; rfl) | exact LenC.h) (by rfl) (by rfl) (by first | omega | (have := of_decide_eq_true hg; omega) | (simp at hg; omega) | (simp only [List.length_set, List.length_append, List.length_cons, List.length_nil, List.length_map, List.length_take, List.length_drop, List.length_replicate]; omega))) rfl rfl ?_
      refine q_give (g_eqB (by kernel_rfl) (evv rfl) (evv rfl) (by rfl) (by rfl)) rfl rfl ?_
      refine q_nil ?_
      refine c_code ?_
      refine r_cond rfl (fun hd => ?_) (fun hd => ?_) <;> (try simp only [decide_eq_true_eq, decide_eq_false_iff_not, Bool.and_eq_true, Bool.or_eq_true, Bool.not_eq_true', Bool.and_eq_false_iff, Bool.or_eq_false_iff, Bool.not_eq_false', Bool.not_eq_true, Bool.not_eq_false, Bool.true_eq_false, Bool.false_eq_true, Int.not_lt, Int.not_le, not_and, not_or, ne_eq] at hd)
      · rw [decide_eq_false (show ¬ (⟨k1, d1, s1, p1, i1⟩ : NodeS) = ⟨k1, d1, s1, p2, i2⟩ from fun h => by
          simp only [NodeS.mk.injEq] at h
          exact hd (by rw [h.2.2.2.1]))]
        refine r_seq ?_
        refine r_region (id := 7) ?_
        refine o_give (g_assign (evv rfl)) rfl rfl ?_
        refine o_nil ?_
        refine c_code ?_
        first | refine r_ret (rs := [.tmp 4]) rfl rfl _ ((Lay.ent (L' := L))) ?_ | refine c_end (rs := [.tmp 4]) rfl rfl _ ((Lay.ent (L' := L))) ?_
        exact ⟨rfl, rfl⟩
      · have ht2 := take_more hil hil2 ht (Subtype.ext hd)
        refine r_skip ?_
        refine c_blk ?_
        refine c_code ?_
        refine r_region (id := 5) ?_
        refine o_give (g_move (evv rfl)) rfl rfl ?_
        refine o_giveN (g_bin (evv rfl) (evv rfl) (by rfl)) (by simp only [inR]; omega) rfl ?_
        refine o_give (g_assign (evv rfl)) rfl rfl ?_
        refine o_nil ?_
        refine c_loop (i + 1) ?_ ?_ (by repeat (first | exact trivial | refine ⟨rfl, ?_⟩ | refine envsub_v rfl (by first | rfl | (refine int_eq ?_; first | omega | (simp; omega) | (simp; done)) | (refine bool_eq ?_; first | (simp [*]; done) | (simp; done)) | (refine str_eq ?_; simp; done) | (refine ptr_eq ?_; omega) | fail) ?_)) ?_ <;> (try dsimp only)
        · exact ⟨by omega, ht2⟩
        · omega
        · exact Ent.refl _
    · rw [List.take_of_length_le (by omega), List.take_of_length_le (by omega)] at ht
      subst ht
      refine r_exit rfl ?_
      refine c_code ?_
      refine r_seq ?_
      refine r_region (id := 8) ?_
      refine o_give (g_fld (evv rfl)) rfl rfl ?_
      refine o_give (g_load (evv rfl) (by rfl) (by rfl)) rfl rfl ?_
      refine o_give (g_fld (evv rfl)) rfl rfl ?_
      refine o_give (g_load (evv rfl) (by rfl) (by rfl)) rfl rfl ?_
      (refine o_call rfl _ (Ent.refl _) (Items_c _ _ _ _ _) rfl ?_; rintro _ _ ⟨rfl, hLz⟩; obtain rfl := hLz.symm; clear hLz)
      refine o_give (g_assign (evv rfl)) rfl rfl ?_
      refine o_nil ?_
      refine c_code ?_
      first | refine r_ret (rs := [.tmp 4]) rfl rfl _ ((Lay.ent (L' := L))) ?_ | refine c_end (rs := [.tmp 4]) rfl rfl _ ((Lay.ent (L' := L))) ?_
      exact ⟨bool_eq (decide_eq_decide.2 (by simp)), rfl⟩
end VK
