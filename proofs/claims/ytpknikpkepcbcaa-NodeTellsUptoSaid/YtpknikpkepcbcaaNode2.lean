/- Right nodes: the reference's answer. Conditions: texts of a machine's size. -/
import Derived.Test.YtpknikpkepcbcaaNode1
namespace VK
open Go Go.Proofs
set_option linter.unusedSimpArgs false
set_option linter.unusedVariables false
set_option maxRecDepth 100000
set_option maxHeartbeats 40000000
theorem RCheckN_c (L : List Atom) (n : NodeS) (pv iv : Value) (ho : n.ok) [r1 : Rd L pv (frow digC 32 52 n.parts)] [r2 : Rd L iv (frow itmC 34 54 n.items)] : Fn Try.prog 15 [agg (nodV n pv iv)] L fun w L' => w = .bool (decide (nodeOk n)) ∧ L' = L := by
  refine fn_lenF r1 fun hlp => ?_
  refine fn_lenF r2 fun hli => ?_
  have hlp : n.parts.length ≤ 2 ^ 63 - 1 := hlp
  have hli : n.items.length ≤ 2 ^ 63 - 1 := hli
  obtain ⟨o1, o2, o3, o4⟩ := ho
  have o4n : ∀ x ∈ n.items, x.name.length ≤ 9223372036854775807 := fun x hx => (o4 x hx).1
  obtain ⟨kind, data, size, parts, items⟩ := n
  dsimp only at *
  have hp0 : (parts.length : Int) = 0 ↔ parts = [] := by cases parts <;> simp; omega
  have hi0 : (items.length : Int) = 0 ↔ items = [] := by cases items <;> simp; omega
  refine fn_intro Try.func15 rfl Try.ntmps15 rfl (fun W0 => ?_)
  simp only [argE, nodV]
  refine r_seq ?_
  refine r_region (id := 0) ?_
  refine o_boxA (evv rfl) rfl (fun _ => ?_)
  refine o_give (g_assign (evv rfl)) rfl rfl ?_
  refine o_nil ?_
  refine c_code ?_
  refine r_seq ?_
  refine r_seq ?_
  refine r_region (id := 1) ?_
  refine o_give (g_fld (evv rfl)) rfl rfl ?_
  refine o_give (g_load (evv rfl) (by rfl) (by rfl)) rfl rfl ?_
  refine o_give (g_bin (evv rfl) (evv rfl) (by rfl)) rfl rfl ?_
  refine o_nil ?_
  refine c_code ?_
  rename_i q
  refine r_cond rfl (fun hk1 => ?_) (fun hk1 => ?_) <;> (try simp only [decide_eq_true_eq, decide_eq_false_iff_not, Bool.and_eq_true, Bool.or_eq_true, Bool.not_eq_true', Bool.and_eq_false_iff, Bool.or_eq_false_iff, Bool.not_eq_false', Bool.not_eq_true, Bool.not_eq_false, Bool.true_eq_false, Bool.false_eq_true, Int.not_lt, Int.not_le, not_and, not_or, ne_eq] at hk1)
  · subst hk1
    refine r_seq ?_
    refine r_region (id := 2) ?_
    refine o_give (g_fld (evv rfl)) rfl rfl ?_
    refine o_give (g_load (evv rfl) (by rfl) (by rfl)) rfl rfl ?_
    refine o_give (g_lenS TyU.h (evv rfl)) rfl rfl ?_
    refine o_give (g_bin (evv rfl) (evv rfl) (by rfl)) rfl rfl ?_
    refine o_give (g_move (evv rfl)) rfl rfl ?_
    refine o_lazy rfl (fun hg => g_fld (evv rfl)) rfl rfl ?_
    refine o_lazy rfl (fun hg => g_load (evg rfl hg) (by rfl) (by rfl)) rfl rfl ?_
    refine o_lazy rfl (fun hg => g_lenS TyU.h (by first | exact evv rfl | exact evg rfl (by rw [hp]; rfl) | exact evg rfl hp | exact evg rfl hg | exact evg rfl (by first | (simp_all; done) | (simp [*]; done) | fail) | fail)) rfl rfl ?_
    refine o_lazy rfl (fun hg => g_bin (by first | exact evv rfl | exact evg rfl (by rw [hp]; rfl) | exact evg rfl hp | exact evg rfl hg | exact evg rfl (by first | (simp_all; done) | (simp [*]; done) | fail) | fail) (by first | exact evv rfl | exact evg rfl (by rw [hp]; rfl) | exact evg rfl hp | exact evg rfl hg | exact evg rfl (by first | (simp_all; done) | (simp [*]; done) | fail) | fail) (by rfl)) rfl rfl ?_
    refine o_give (g_pick_and (evv rfl) (evv rfl) (fun hp => (by first | exact evv rfl | exact evg rfl (by rw [hp]; rfl) | exact evg rfl hp | exact evg rfl hg | exact evg rfl (by first | (simp_all; done) | (simp [*]; done) | fail) | fail))) rfl rfl ?_
    refine o_give (g_move (evv rfl)) rfl rfl ?_
    refine o_lazy rfl (fun hg => g_fld (evv rfl)) rfl rfl ?_
    refine o_lazy rfl (fun hg => g_load (evg rfl hg) (by rfl) (by rfl)) rfl rfl ?_
    refine o_lazy rfl (fun hg => g_bin (by first | exact evv rfl | exact evg rfl (by rw [hp]; rfl) | exact evg rfl hp | exact evg rfl hg | exact evg rfl (by first | (simp_all; done) | (simp [*]; done) | fail) | fail) (by first | exact evv rfl | exact evg rfl (by rw [hp]; rfl) | exact evg rfl hp | exact evg rfl hg | exact evg rfl (by first | (simp_all; done) | (simp [*]; done) | fail) | fail) (by rfl)) rfl rfl ?_
    refine o_give (g_pick_and (evv rfl) (evv rfl) (fun hp => (by first | exact evv rfl | exact evg rfl (by rw [hp]; rfl) | exact evg rfl hp | exact evg rfl hg | exact evg rfl (by first | (simp_all; done) | (simp [*]; done) | fail) | fail))) rfl rfl ?_
    refine o_give (g_move (evv rfl)) rfl rfl ?_
    refine o_lazy rfl (fun hg => g_fld (evv rfl)) rfl rfl ?_
    refine o_lazy rfl (fun hg => g_load (evg rfl hg) (by rfl) (by rfl)) rfl rfl ?_
    refine o_lazy rfl (fun hg => g_lenF (by first | exact evv rfl | exact evg rfl (by rw [hp]; rfl) | exact evg rfl hp | exact evg rfl hg | exact evg rfl (by first | (simp_all; done) | (simp [*]; done) | fail) | fail)) rfl rfl ?_
    refine o_lazy rfl (fun hg => g_bin (by first | exact evv rfl | exact evg rfl (by rw [hp]; rfl) | exact evg rfl hp | exact evg rfl hg | exact evg rfl (by first | (simp_all; done) | (simp [*]; done) | fail) | fail) (by first | exact evv rfl | exact evg rfl (by rw [hp]; rfl) | exact evg rfl hp | exact evg rfl hg | exact evg rfl (by first | (simp_all; done) | (simp [*]; done) | fail) | fail) (by rfl)) rfl rfl ?_
    refine o_give (g_pick_and (evv rfl) (evv rfl) (fun hp => (by first | exact evv rfl | exact evg rfl (by rw [hp]; rfl) | exact evg rfl hp | exact evg rfl hg | exact evg rfl (by first | (simp_all; done) | (simp [*]; done) | fail) | fail))) rfl rfl ?_
    refine o_give (g_move (evv rfl)) rfl rfl ?_
    refine o_lazy rfl (fun hg => g_fld (evv rfl)) rfl rfl ?_
    refine o_lazy rfl (fun hg => g_load (evg rfl hg) (by rfl) (by rfl)) rfl rfl ?_
    refine o_lazy rfl (fun hg => g_lenF (by first | exact evv rfl | exact evg rfl (by rw [hp]; rfl) | exact evg rfl hp | exact evg rfl hg | exact evg rfl (by first | (simp_all; done) | (simp [*]; done) | fail) | fail)) rfl rfl ?_
    refine o_lazy rfl (fun hg => g_bin (by first | exact evv rfl | exact evg rfl (by rw [hp]; rfl) | exact evg rfl hp | exact evg rfl hg | exact evg rfl (by first | (simp_all; done) | (simp [*]; done) | fail) | fail) (by first | exact evv rfl | exact evg rfl (by rw [hp]; rfl) | exact evg rfl hp | exact evg rfl hg | exact evg rfl (by first | (simp_all; done) | (simp [*]; done) | fail) | fail) (by rfl)) rfl rfl ?_
    refine o_give (g_pick_and (evv rfl) (evv rfl) (fun hp => (by first | exact evv rfl | exact evg rfl (by rw [hp]; rfl) | exact evg rfl hp | exact evg rfl hg | exact evg rfl (by first | (simp_all; done) | (simp [*]; done) | fail) | fail))) rfl rfl ?_
    refine o_give (g_assign (evv rfl)) rfl rfl ?_
    refine o_nil ?_
    refine c_code ?_
    first | refine r_ret (rs := [.tmp 2]) rfl rfl _ (Ent.drop) ?_ | refine c_end (rs := [.tmp 2]) rfl rfl _ (Ent.drop) ?_
    refine ⟨bool_eq ?_, rfl⟩
    rw [Bool.eq_iff_iff]
    simp only [Bool.and_eq_true, decide_eq_true_eq, nodeOk]
    rw [hp0, hi0]
    constructor
    · rintro ⟨⟨⟨⟨h1, h2⟩, h3⟩, h4⟩, h5⟩
      exact .inl ⟨trivial, by omega, by omega, h3, h4, h5⟩
    · rintro (⟨_, h1, h2, h3, h4, h5⟩ | h | h)
      · exact ⟨⟨⟨⟨by omega, by omega⟩, h3⟩, h4⟩, h5⟩
      · exact absurd h.1 (show ¬ (1 : Int) = 2 by decide)
      · exact absurd h.1 (show ¬ (1 : Int) = 3 by decide)
  · refine r_skip ?_
    refine c_code ?_
    refine r_seq ?_
    refine r_seq ?_
    refine r_region (id := 3) ?_
    refine o_give (g_fld (evv rfl)) rfl rfl ?_
    refine o_give (g_load (evv rfl) (by rfl) (by rfl)) rfl rfl ?_
    refine o_give (g_binS (evv rfl) (evv rfl) (by rfl)) rfl rfl ?_
    refine o_nil ?_
    refine c_code ?_
    refine r_cond rfl (fun hd0 => ?_) (fun hd0 => ?_) <;> (try simp only [decide_eq_true_eq, decide_eq_false_iff_not, Bool.and_eq_true, Bool.or_eq_true, Bool.not_eq_true', Bool.and_eq_false_iff, Bool.or_eq_false_iff, Bool.not_eq_false', Bool.not_eq_true, Bool.not_eq_false, Bool.true_eq_false, Bool.false_eq_true, Int.not_lt, Int.not_le, not_and, not_or, ne_eq] at hd0)
    · rw [decide_eq_false (show ¬ nodeOk _ from fun h => by rcases h with h | h | h <;> first | exact hk1 h.1 | exact hd0 h.2.1)]
      refine r_seq ?_
      refine r_region (id := 4) ?_
      refine o_give (g_assign (evv rfl)) rfl rfl ?_
      refine o_nil ?_
      refine c_code ?_
      first | refine r_ret (rs := [.tmp 2]) rfl rfl _ (Ent.drop) ?_ | refine c_end (rs := [.tmp 2]) rfl rfl _ (Ent.drop) ?_
      exact ⟨rfl, rfl⟩
    · subst hd0
      refine r_skip ?_
      refine c_code ?_
      refine r_seq ?_
      refine r_seq ?_
      refine r_region (id := 5) ?_
      refine o_give (g_fld (evv rfl)) rfl rfl ?_
      refine o_give (g_load (evv rfl) (by rfl) (by rfl)) rfl rfl ?_
      refine o_give (g_bin (evv rfl) (evv rfl) (by rfl)) rfl rfl ?_
      refine o_nil ?_
      refine c_code ?_
      refine r_cond rfl (fun hk2 => ?_) (fun hk2 => ?_) <;> (try simp only [decide_eq_true_eq, decide_eq_false_iff_not, Bool.and_eq_true, Bool.or_eq_true, Bool.not_eq_true', Bool.and_eq_false_iff, Bool.or_eq_false_iff, Bool.not_eq_false', Bool.not_eq_true, Bool.not_eq_false, Bool.true_eq_false, Bool.false_eq_true, Int.not_lt, Int.not_le, not_and, not_or, ne_eq] at hk2)
      · subst hk2
        refine r_seq ?_
        refine r_seq ?_
        refine r_region (id := 6) ?_
        refine o_give (g_fld (evv rfl)) rfl rfl ?_
        refine o_give (g_load (evv rfl) (by rfl) (by rfl)) rfl rfl ?_
        refine o_give (g_bin (evv rfl) (evv rfl) (by rfl)) rfl rfl ?_
        refine o_give (g_move (evv rfl)) rfl rfl ?_
        refine o_lazy rfl (fun hg => g_fld (evv rfl)) rfl rfl ?_
        refine o_lazy rfl (fun hg => g_load (evg rfl hg) (by rfl) (by rfl)) rfl rfl ?_
        refine o_lazy rfl (fun hg => g_bin (by first | exact evv rfl | exact evg rfl (by rw [hp]; rfl) | exact evg rfl hp | exact evg rfl hg | exact evg rfl (by first | (simp_all; done) | (simp [*]; done) | fail) | fail) (by first | exact evv rfl | exact evg rfl (by rw [hp]; rfl) | exact evg rfl hp | exact evg rfl hg | exact evg rfl (by first | (simp_all; done) | (simp [*]; done) | fail) | fail) (by rfl)) rfl rfl ?_
        refine o_give (g_pick_or (evv rfl) (evv rfl) (fun hp => (by first | exact evv rfl | exact evg rfl (by rw [hp]; rfl) | exact evg rfl hp | exact evg rfl hg | exact evg rfl (by first | (simp_all; done) | (simp [*]; done) | fail) | fail))) rfl rfl ?_
        refine o_give (g_move (evv rfl)) rfl rfl ?_
        refine o_lazy rfl (fun hg => g_fld (evv rfl)) rfl rfl ?_
        refine o_lazy rfl (fun hg => g_load (evg rfl hg) (by rfl) (by rfl)) rfl rfl ?_
        refine o_lazy rfl (fun hg => g_lenF (by first | exact evv rfl | exact evg rfl (by rw [hp]; rfl) | exact evg rfl hp | exact evg rfl hg | exact evg rfl (by first | (simp_all; done) | (simp [*]; done) | fail) | fail)) rfl rfl ?_
        refine o_lazy rfl (fun hg => g_bin (by first | exact evv rfl | exact evg rfl (by rw [hp]; rfl) | exact evg rfl hp | exact evg rfl hg | exact evg rfl (by first | (simp_all; done) | (simp [*]; done) | fail) | fail) (by first | exact evv rfl | exact evg rfl (by rw [hp]; rfl) | exact evg rfl hp | exact evg rfl hg | exact evg rfl (by first | (simp_all; done) | (simp [*]; done) | fail) | fail) (by rfl)) rfl rfl ?_
        refine o_give (g_pick_or (evv rfl) (evv rfl) (fun hp => (by first | exact evv rfl | exact evg rfl (by rw [hp]; rfl) | exact evg rfl hp | exact evg rfl hg | exact evg rfl (by first | (simp_all; done) | (simp [*]; done) | fail) | fail))) rfl rfl ?_
        refine o_nil ?_
        refine c_code ?_
        refine r_cond rfl (fun hb => ?_) (fun hb => ?_) <;> (try simp only [decide_eq_true_eq, decide_eq_false_iff_not, Bool.and_eq_true, Bool.or_eq_true, Bool.not_eq_true', Bool.and_eq_false_iff, Bool.or_eq_false_iff, Bool.not_eq_false', Bool.not_eq_true, Bool.not_eq_false, Bool.true_eq_false, Bool.false_eq_true, Int.not_lt, Int.not_le, not_and, not_or, ne_eq] at hb)
        · rw [decide_eq_false (show ¬ nodeOk _ from fun h => by
            rcases h with h | ⟨_, _, h1, h2, _, h3⟩ | h
            · exact hk1 h.1
            · dsimp only at h1 h2 h3; rw [h3] at hb; simp at hb; omega
            · exact absurd h.1 (show ¬ (2 : Int) = 3 by decide))]
          refine r_seq ?_
          refine r_region (id := 7) ?_
          refine o_give (g_assign (evv rfl)) rfl rfl ?_
          refine o_nil ?_
          refine c_code ?_
          first | refine r_ret (rs := [.tmp 2]) rfl rfl _ (Ent.drop) ?_ | refine c_end (rs := [.tmp 2]) rfl rfl _ (Ent.drop) ?_
          exact ⟨rfl, rfl⟩
        · have hit : items = [] := by
            apply hi0.1
            omega
          have hs1 : 0 ≤ size := by omega
          have hs2 : size ≤ 1024 := by omega
          refine r_skip ?_
          refine c_code ?_
          refine r_seq ?_
          refine r_region (id := 8) ?_
          refine o_give (g_assign (evv rfl)) rfl rfl ?_
          refine o_nil ?_
          refine c_code ?_
          refine r_seq ?_
          refine r_seq ?_
          refine r_region (id := 9) ?_
          refine o_give (g_fld (evv rfl)) rfl rfl ?_
          refine o_give (g_load (evv rfl) (by rfl) (by rfl)) rfl rfl ?_
          refine o_give (g_assign (evv rfl)) rfl rfl ?_
          refine o_nil ?_
          refine c_code ?_
          refine r_block ?_
          refine r_loopE (σ := Nat) (fun k => (k = 0 ∨ 64 * ((k : Int) - 1) < size)) (fun k => (size + 64).toNat - 64 * k) (fun k => [(3, .v (.int .i64 k)), (4, .v (.int .i64 (size - 64 * (k : Int))))]) [1] (fun k => blk q ⟨[.int .i64 2, str [], .int .i64 size, pv, iv], 27⟩ :: L) 0 (by dsimp only [pickE, pick1, lk2, Nat.reduceBEq, Nat.reduceAdd, Nat.zero_add, cond_true, cond_false] <;> exact rfl) ?_ (by repeat (first | exact trivial | refine ⟨rfl, ?_⟩ | refine envsub_v rfl (by first | rfl | (refine int_eq ?_; first | omega | (simp; omega) | (simp; done)) | (refine bool_eq ?_; first | (simp [*]; done) | (simp; done)) | (refine str_eq ?_; simp; done) | (refine ptr_eq ?_; omega) | fail) ?_)) ?_ ?_
          · exact .inl rfl
          · exact Ent.refl _
          rintro k hk; (try dsimp only at hk); dsimp only [List.cons_append, List.nil_append]
          refine r_seq ?_
          refine r_seq ?_
          refine r_region (id := 10) ?_
          refine o_give (g_move (evv rfl)) rfl rfl ?_
          refine o_give (g_bin (evv rfl) (evv rfl) (by rfl)) rfl rfl ?_
          refine o_nil ?_
          refine c_code ?_
          refine r_cond rfl (fun hc => ?_) (fun hc => ?_) <;> (try simp only [decide_eq_true_eq, decide_eq_false_iff_not, Bool.and_eq_true, Bool.or_eq_true, Bool.not_eq_true', Bool.and_eq_false_iff, Bool.or_eq_false_iff, Bool.not_eq_false', Bool.not_eq_true, Bool.not_eq_false, Bool.true_eq_false, Bool.false_eq_true, Int.not_lt, Int.not_le, not_and, not_or, ne_eq] at hc)
          · refine r_skip ?_
            refine c_code ?_
            refine r_seq ?_
            refine r_block ?_
            refine r_region (id := 12) ?_
            refine o_give (g_move (evv rfl)) rfl rfl ?_
            refine o_giveN (g_bin (evv rfl) (evv rfl) (by rfl)) (by simp only [inR]; omega) rfl ?_
            refine o_give (g_assign (evv rfl)) rfl rfl ?_
            refine o_nil ?_
            refine c_blk ?_
            refine c_code ?_
            refine r_region (id := 11) ?_
            refine o_give (g_move (evv rfl)) rfl rfl ?_
            refine o_giveN (g_bin (evv rfl) (evv rfl) (by rfl)) (by simp only [inR]; omega) rfl ?_
            refine o_give (g_assign (evv rfl)) rfl rfl ?_
            refine o_nil ?_
            refine c_loop (k + 1) ?_ ?_ (by repeat (first | exact trivial | refine ⟨rfl, ?_⟩ | refine envsub_v rfl (by first | rfl | (refine int_eq ?_; first | omega | (simp; omega) | (simp; done)) | (refine bool_eq ?_; first | (simp [*]; done) | (simp; done)) | (refine str_eq ?_; simp; done) | (refine ptr_eq ?_; omega) | fail) ?_)) ?_ <;> (try dsimp only)
            · right; omega
            · omega
            · exact Ent.refl _
          · refine r_exit rfl ?_
            refine c_code ?_
            refine r_seq ?_
            refine r_region (id := 13) ?_
            refine o_give (g_fld (evv rfl)) rfl rfl ?_
            refine o_give (g_load (evv rfl) (by rfl) (by rfl)) rfl rfl ?_
            refine o_give (g_lenF (evv rfl)) rfl rfl ?_
            refine o_give (g_move (evv rfl)) rfl rfl ?_
            refine o_give (g_bin (evv rfl) (evv rfl) (by rfl)) rfl rfl ?_
            refine o_give (g_assign (evv rfl)) rfl rfl ?_
            refine o_nil ?_
            refine c_code ?_
            first | refine r_ret (rs := [.tmp 2]) rfl rfl _ (Ent.drop) ?_ | refine c_end (rs := [.tmp 2]) rfl rfl _ (Ent.drop) ?_
            have hcn : (cnt size : Int) = k := by unfold cnt; omega
            refine ⟨bool_eq ?_, rfl⟩
            rw [Bool.eq_iff_iff]
            simp only [decide_eq_true_eq, nodeOk]
            constructor
            · intro h
              exact .inr (.inl ⟨trivial, trivial, hs1, hs2, by omega, hit⟩)
            · rintro (h | h | h)
              · exact absurd h.1 (show ¬ (2 : Int) = 1 by decide)
              · omega
              · exact absurd h.1 (show ¬ (2 : Int) = 3 by decide)
      · refine r_skip ?_
        refine c_code ?_
        refine r_seq ?_
        refine r_seq ?_
        refine r_region (id := 14) ?_
        refine o_give (g_fld (evv rfl)) rfl rfl ?_
        refine o_give (g_load (evv rfl) (by rfl) (by rfl)) rfl rfl ?_
        refine o_give (g_bin (evv rfl) (evv rfl) (by rfl)) rfl rfl ?_
        refine o_give (g_move (evv rfl)) rfl rfl ?_
        refine o_lazy rfl (fun hg => g_fld (evv rfl)) rfl rfl ?_
        refine o_lazy rfl (fun hg => g_load (evg rfl hg) (by rfl) (by rfl)) rfl rfl ?_
        refine o_lazy rfl (fun hg => g_bin (by first | exact evv rfl | exact evg rfl (by rw [hp]; rfl) | exact evg rfl hp | exact evg rfl hg | exact evg rfl (by first | (simp_all; done) | (simp [*]; done) | fail) | fail) (by first | exact evv rfl | exact evg rfl (by rw [hp]; rfl) | exact evg rfl hp | exact evg rfl hg | exact evg rfl (by first | (simp_all; done) | (simp [*]; done) | fail) | fail) (by rfl)) rfl rfl ?_
        refine o_give (g_pick_or (evv rfl) (evv rfl) (fun hp => (by first | exact evv rfl | exact evg rfl (by rw [hp]; rfl) | exact evg rfl hp | exact evg rfl hg | exact evg rfl (by first | (simp_all; done) | (simp [*]; done) | fail) | fail))) rfl rfl ?_
        refine o_give (g_move (evv rfl)) rfl rfl ?_
        refine o_lazy rfl (fun hg => g_fld (evv rfl)) rfl rfl ?_
        refine o_lazy rfl (fun hg => g_load (evg rfl hg) (by rfl) (by rfl)) rfl rfl ?_
        refine o_lazy rfl (fun hg => g_lenF (by first | exact evv rfl | exact evg rfl (by rw [hp]; rfl) | exact evg rfl hp | exact evg rfl hg | exact evg rfl (by first | (simp_all; done) | (simp [*]; done) | fail) | fail)) rfl rfl ?_
        refine o_lazy rfl (fun hg => g_bin (by first | exact evv rfl | exact evg rfl (by rw [hp]; rfl) | exact evg rfl hp | exact evg rfl hg | exact evg rfl (by first | (simp_all; done) | (simp [*]; done) | fail) | fail) (by first | exact evv rfl | exact evg rfl (by rw [hp]; rfl) | exact evg rfl hp | exact evg rfl hg | exact evg rfl (by first | (simp_all; done) | (simp [*]; done) | fail) | fail) (by rfl)) rfl rfl ?_
        refine o_give (g_pick_or (evv rfl) (evv rfl) (fun hp => (by first | exact evv rfl | exact evg rfl (by rw [hp]; rfl) | exact evg rfl hp | exact evg rfl hg | exact evg rfl (by first | (simp_all; done) | (simp [*]; done) | fail) | fail))) rfl rfl ?_
        refine o_give (g_move (evv rfl)) rfl rfl ?_
        refine o_lazy rfl (fun hg => g_fld (evv rfl)) rfl rfl ?_
        refine o_lazy rfl (fun hg => g_load (evg rfl hg) (by rfl) (by rfl)) rfl rfl ?_
        refine o_lazy rfl (fun hg => g_lenF (by first | exact evv rfl | exact evg rfl (by rw [hp]; rfl) | exact evg rfl hp | exact evg rfl hg | exact evg rfl (by first | (simp_all; done) | (simp [*]; done) | fail) | fail)) rfl rfl ?_
        refine o_lazy rfl (fun hg => g_bin (by first | exact evv rfl | exact evg rfl (by rw [hp]; rfl) | exact evg rfl hp | exact evg rfl hg | exact evg rfl (by first | (simp_all; done) | (simp [*]; done) | fail) | fail) (by first | exact evv rfl | exact evg rfl (by rw [hp]; rfl) | exact evg rfl hp | exact evg rfl hg | exact evg rfl (by first | (simp_all; done) | (simp [*]; done) | fail) | fail) (by rfl)) rfl rfl ?_
        refine o_give (g_pick_or (evv rfl) (evv rfl) (fun hp => (by first | exact evv rfl | exact evg rfl (by rw [hp]; rfl) | exact evg rfl hp | exact evg rfl hg | exact evg rfl (by first | (simp_all; done) | (simp [*]; done) | fail) | fail))) rfl rfl ?_
        refine o_nil ?_
        refine c_code ?_
        refine r_cond rfl (fun hb => ?_) (fun hb => ?_) <;> (try simp only [decide_eq_true_eq, decide_eq_false_iff_not, Bool.and_eq_true, Bool.or_eq_true, Bool.not_eq_true', Bool.and_eq_false_iff, Bool.or_eq_false_iff, Bool.not_eq_false', Bool.not_eq_true, Bool.not_eq_false, Bool.true_eq_false, Bool.false_eq_true, Int.not_lt, Int.not_le, not_and, not_or, ne_eq] at hb)
        · rw [decide_eq_false (show ¬ nodeOk _ from fun h => by
            rcases h with h | h | ⟨h0, _, h1, h2, h3, _⟩
            · exact hk1 h.1
            · exact hk2 h.1
            · dsimp only at h0 h1 h2 h3; rw [h0, h1, h2] at hb; simp at hb; omega)]
          refine r_seq ?_
          refine r_region (id := 15) ?_
          refine o_give (g_assign (evv rfl)) rfl rfl ?_
          refine o_nil ?_
          refine c_code ?_
          first | refine r_ret (rs := [.tmp 2]) rfl rfl _ (Ent.drop) ?_ | refine c_end (rs := [.tmp 2]) rfl rfl _ (Ent.drop) ?_
          exact ⟨rfl, rfl⟩
        · have hk3 : kind = 3 := by omega
          have hs0 : size = 0 := by omega
          have hpp : parts = [] := hp0.1 (by omega)
          have hil64 : items.length ≤ 64 := by omega
          have hiff : nodeOk ⟨kind, [], size, parts, items⟩ ↔ rises items := by
            constructor
            · rintro (h | h | h)
              · exact absurd h.1 hk1
              · exact absurd h.1 hk2
              · exact h.2.2.2.2.2
            · intro h; exact .inr (.inr ⟨hk3, rfl, hs0, hpp, hil64, h⟩)
          rw [decide_eq_decide.2 hiff]
          refine r_skip ?_
          refine c_code ?_
          refine r_seq ?_
          refine r_seq ?_
          refine r_region (id := 16) ?_
          refine o_give (g_assign (evv rfl)) rfl rfl ?_
          refine o_nil ?_
          refine c_code ?_
          refine r_block ?_
          refine r_loopE (σ := Nat) (fun i => i ≤ items.length ∧ ∀ j < i, itOk items j) (fun i => items.length - i) (fun i => [(5, .v (.int .i64 i))]) [1] (fun i => blk q ⟨[.int .i64 kind, str [], .int .i64 size, pv, iv], 27⟩ :: L) 0 (by dsimp only [pickE, pick1, lk2, Nat.reduceBEq, Nat.reduceAdd, Nat.zero_add, cond_true, cond_false] <;> exact rfl) ?_ (by repeat (first | exact trivial | refine ⟨rfl, ?_⟩ | refine envsub_v rfl (by first | rfl | (refine int_eq ?_; first | omega | (simp; omega) | (simp; done)) | (refine bool_eq ?_; first | (simp [*]; done) | (simp; done)) | (refine str_eq ?_; simp; done) | (refine ptr_eq ?_; omega) | fail) ?_)) ?_ ?_
          · exact ⟨Nat.zero_le _, by omega⟩
          · exact Ent.refl _
          rintro i ⟨hi, ha⟩; dsimp only [List.cons_append, List.nil_append]
          refine r_seq ?_
          refine r_seq ?_
          refine r_region (id := 17) ?_
          refine o_give (g_move (evv rfl)) rfl rfl ?_
          refine o_give (g_fld (evv rfl)) rfl rfl ?_
          refine o_give (g_load (evv rfl) (by rfl) (by rfl)) rfl rfl ?_
          refine o_give (g_lenF (evv rfl)) rfl rfl ?_
          refine o_give (g_bin (evv rfl) (evv rfl) (by rfl)) rfl rfl ?_
          refine o_nil ?_
          refine c_code ?_
          refine r_cond rfl (fun hc => ?_) (fun hc => ?_) <;> (try simp only [decide_eq_true_eq, decide_eq_false_iff_not, Bool.and_eq_true, Bool.or_eq_true, Bool.not_eq_true', Bool.and_eq_false_iff, Bool.or_eq_false_iff, Bool.not_eq_false', Bool.not_eq_true, Bool.not_eq_false, Bool.true_eq_false, Bool.false_eq_true, Int.not_lt, Int.not_le, not_and, not_or, ne_eq] at hc)
          · have hil : i < items.length := by omega
            have hnl := o4n (items.getD i default) (by simp [hil])
            refine r_skip ?_
            refine c_code ?_
            refine r_seq ?_
            refine r_block ?_
            refine r_seq ?_
            refine r_region (id := 19) ?_
            refine o_give (g_fld (evv rfl)) rfl rfl ?_
            refine o_give (g_load (evv rfl) (by rfl) (by rfl)) rfl rfl ?_
            refine o_give (g_move (evv rfl)) rfl rfl ?_
            refine o_give (g_idxFN (evv rfl) (evv rfl) (by rfl) (by rfl) (by first | omega | (have := of_decide_eq_true hg; omega) | (simp at hg; omega) | (simp only [List.length_set, List.length_append, List.length_cons, List.length_nil, List.length_map, List.length_take, List.length_drop, List.length_replicate]; omega))) rfl rfl ?_
            refine o_give (g_loadFr (evv rfl) (by rfl) (by first | (intro; rfl) | exact LenC.h) (by rfl) (by rfl) (by first | omega | (have := of_decide_eq_true hg; omega) | (simp at hg; omega) | (simp only [List.length_set, List.length_append, List.length_cons, List.length_nil, List.length_map, List.length_take, List.length_drop, List.length_replicate]; omega))) rfl rfl ?_
            refine o_alloc (cs := ((Go.Value.string { data := #[] }) :: (Go.Value.int Go.IntKind.i64 0) :: bys (List.replicate 32 0))) rfl rfl (fun _ => ?_)
            refine o_storeW (evv rfl) (evv rfl) (by first | rfl | assumption | exact LenC.h _ | (simp [bys, *]; done) | fail) (by first | (intro _ _ _; exact bys_one _) | exact AllOne.h | (intro _ _ _ u hu; simp at hu; rcases hu with rfl | rfl | rfl | rfl | rfl | rfl | rfl | rfl <;> rfl) | fail) (by first | rfl | exact (LenC.h _).trans rfl | exact (LenC.h _).trans (LenC.h _).symm | (simp [bys, *]; done) | (simp only [bys, List.length_map, *]; rfl) | fail) ?_
            refine o_nil ?_
            refine c_code ?_
            refine r_seq ?_
            rename_i p
            have hno : ∀ {b : Bool}, ¬ itOk items i → b = false → Value.bool b = Value.bool (decide (rises items)) := fun h e => bool_eq (e.trans (decide_eq_false (fun h' => h (h' ⟨i, hil⟩))).symm)
            by_cases hnm : nameP (items.getD i default).name
            · have e1 := decide_eq_true hnm
              by_cases hk : (items.getD i default).kind = 2 ∨ (items.getD i default).kind = 3
              · have e2 : (!decide ((items.getD i default).kind = 2) && !decide ((items.getD i default).kind = 3)) = false := by rcases hk with h | h <;> rw [h] <;> rfl
                by_cases hi0 : i = 0
                · have e3 : decide ((0 : Int) < i) = false := decide_eq_false (by omega)
                  repeat (first | refine r_seq ?_ | refine c_code ?_ | refine c_blk ?_ | refine r_block ?_ | refine r_skip ?_)
                  refine r_held (id := 20) (blk p ⟨itmC (items.getD i default), 54⟩ :: blk q ⟨[.int .i64 kind, str [], .int .i64 size, pv, iv], 27⟩ :: L) Mixed.h ?_
                  refine h_give (i := 0) (by kernel_rfl) rfl (g_fld (evv rfl)) rfl rfl ?_
                  refine h_give (i := 1) (by kernel_rfl) rfl (g_load (evv rfl) (by rfl) (by rfl)) rfl rfl ?_
                  refine h_one (i := 2) (by kernel_rfl) rfl (Lay.ent) ?_
                  (refine o_call rfl _ (Ent.refl _) (Name_c _ _ (by first | assumption | omega)) rfl ?_; rintro _ _ ⟨rfl, hLz⟩; obtain rfl := hLz.symm; clear hLz)
                  refine o_nil ?_
                  simp only [e1, Bool.not_true]
                  refine h_give (i := 3) (by kernel_rfl) rfl (g_not (evv rfl)) rfl rfl ?_
                  refine h_give (i := 4) (by kernel_rfl) rfl (g_move (evv rfl)) rfl rfl ?_
                  refine h_sure (i := 5) (by kernel_rfl) rfl rfl (g_fld (evv rfl)) rfl rfl ?_
                  refine h_sure (i := 6) (by kernel_rfl) rfl rfl (g_load (evv rfl) (by rfl) (by rfl)) rfl rfl ?_
                  refine h_sure (i := 7) (by kernel_rfl) rfl rfl (g_bin (evv rfl) (evv rfl) (by rfl)) rfl rfl ?_
                  refine h_sure (i := 8) (by kernel_rfl) rfl rfl (g_move (evv rfl)) rfl rfl ?_
                  refine h_lazy (i := 9) (by kernel_rfl) rfl rfl (fun hg => g_fld (evv rfl)) rfl rfl ?_
                  refine h_lazy (i := 10) (by kernel_rfl) rfl rfl (fun hg => g_load (evg rfl hg) (by rfl) (by rfl)) rfl rfl ?_
                  refine h_lazy (i := 11) (by kernel_rfl) rfl rfl (fun hg => g_bin (by first | exact evv rfl | exact evg rfl (by rw [hp]; rfl) | exact evg rfl hp | exact evg rfl hg | exact evg rfl (by first | (simp_all; done) | (simp [*]; done) | fail) | fail) (by first | exact evv rfl | exact evg rfl (by rw [hp]; rfl) | exact evg rfl hp | exact evg rfl hg | exact evg rfl (by first | (simp_all; done) | (simp [*]; done) | fail) | fail) (by rfl)) rfl rfl ?_
                  refine h_sure (i := 12) (by kernel_rfl) rfl rfl (g_pick_and (evv rfl) (evv rfl) (fun hp => (by first | exact evv rfl | exact evg rfl (by rw [hp]; rfl) | exact evg rfl hp | exact evg rfl hg | exact evg rfl (by first | (simp_all; done) | (simp [*]; done) | fail) | fail))) rfl rfl ?_
                  simp only [e2]
                  refine h_give (i := 13) (by kernel_rfl) rfl (g_pick (b := false) (evv rfl) (fun h => by cases h) (fun _ => (evv rfl))) rfl rfl ?_
                  refine h_give (i := 14) (by kernel_rfl) rfl (g_move (evv rfl)) rfl rfl ?_
                  refine h_sure (i := 15) (by kernel_rfl) rfl rfl (g_move (evv rfl)) rfl rfl ?_
                  refine h_sure (i := 16) (by kernel_rfl) rfl rfl (g_bin (evv rfl) (evv rfl) (by rfl)) rfl rfl ?_
                  simp only [e3]
                  refine h_sure (i := 17) (by kernel_rfl) rfl rfl (g_move (evv rfl)) rfl rfl ?_
                  refine h_lazy (i := 18) (by kernel_rfl) rfl rfl (fun hg => g_fld (evv rfl)) rfl rfl ?_
                  refine h_lazy (i := 19) (by kernel_rfl) rfl rfl (fun hg => g_load (evg rfl hg) (by rfl) (by rfl)) rfl rfl ?_
                  refine h_lazy (i := 20) (by kernel_rfl) rfl rfl (fun hg => g_move (by first | exact evv rfl | exact evg rfl (by rw [hp]; rfl) | exact evg rfl hp | exact evg rfl hg | exact evg rfl (by first | (simp_all; done) | (simp [*]; done) | fail) | fail)) rfl rfl ?_
                  refine h_lazy (i := 21) (by kernel_rfl) rfl rfl (fun hg => Gives.as (g_bin (by first | exact evv rfl | exact evg rfl (by rw [hp]; rfl) | exact evg rfl hp | exact evg rfl hg | exact evg rfl (by first | (simp_all; done) | (simp [*]; done) | fail) | fail) (by first | exact evv rfl | exact evg rfl (by rw [hp]; rfl) | exact evg rfl hp | exact evg rfl hg | exact evg rfl (by first | (simp_all; done) | (simp [*]; done) | fail) | fail) (by rfl)) (by rw [wrap_in (by simp only [inR]; omega)])) rfl rfl ?_
                  refine h_lazy (i := 22) (by kernel_rfl) rfl (v0 := undef) rfl (fun hg => absurd hg (by first | (simp; done) | fail)) rfl rfl ?_
                  refine h_lazy (i := 23) (by kernel_rfl) rfl (v0 := undef) rfl (fun hg => absurd hg (by first | (simp; done) | fail)) rfl rfl ?_
                  refine h_lazy (i := 24) (by kernel_rfl) rfl (v0 := undef) rfl (fun hg => absurd hg (by first | (simp; done) | fail)) rfl rfl ?_
                  refine h_lazy (i := 25) (by kernel_rfl) rfl rfl (fun hg => g_fld (evv rfl)) rfl rfl ?_
                  refine h_lazy (i := 26) (by kernel_rfl) rfl rfl (fun hg => g_load (evg rfl hg) (by rfl) (by rfl)) rfl rfl ?_
                  refine h_lazy (i := 27) (by kernel_rfl) rfl (v0 := undef) rfl (fun hg => absurd hg (by first | (simp; done) | fail)) rfl rfl ?_
                  refine h_sure (i := 28) (by kernel_rfl) rfl rfl (g_pick (b := false) (evv rfl) (fun h => by cases h) (fun _ => (evv rfl))) rfl rfl ?_
                  refine h_give (i := 29) (by kernel_rfl) rfl (g_pick (b := false) (evv rfl) (fun h => by cases h) (fun _ => (evv rfl))) rfl rfl ?_
                  refine h_done (by kernel_rfl) (Lay.ent) ?_
                  refine c_code ?_
                  refine r_cond_false rfl ?_
                  refine r_skip ?_
                  refine c_blk ?_
                  refine c_code ?_
                  refine r_region (id := 18) ?_
                  refine o_give (g_move (evv rfl)) rfl rfl ?_
                  refine o_giveN (g_bin (evv rfl) (evv rfl) (by rfl)) (by simp only [inR]; omega) rfl ?_
                  refine o_give (g_assign (evv rfl)) rfl rfl ?_
                  refine o_nil ?_
                  refine c_loop (i + 1) ?_ ?_ (by repeat (first | exact trivial | refine ⟨rfl, ?_⟩ | refine envsub_v rfl (by first | rfl | (refine int_eq ?_; first | omega | (simp; omega) | (simp; done)) | (refine bool_eq ?_; first | (simp [*]; done) | (simp; done)) | (refine str_eq ?_; simp; done) | (refine ptr_eq ?_; omega) | fail) ?_)) ?_ <;> (try dsimp only)
                  · refine ⟨by omega, fun j hj => ?_⟩
                    obtain rfl : j = i := by omega
                    exact ⟨by
                      rw [lastOf, if_pos hi0, bl_nil]
                      refine decide_eq_true fun h => ?_
                      have := hnm.1
                      rw [h] at this
                      exact absurd this (by decide), hnm, hk⟩
                  · omega
                  · exact Lay.ent
                · have e3 : decide ((0 : Int) < i) = true := decide_eq_true (by omega)
                  have e4 : ((i : Int) - 1).toNat = i - 1 := by omega
                  repeat (first | refine r_seq ?_ | refine c_code ?_ | refine c_blk ?_ | refine r_block ?_ | refine r_skip ?_)
                  refine r_held (id := 20) (blk p ⟨itmC (items.getD i default), 54⟩ :: blk q ⟨[.int .i64 kind, str [], .int .i64 size, pv, iv], 27⟩ :: L) Mixed.h ?_
                  refine h_give (i := 0) (by kernel_rfl) rfl (g_fld (evv rfl)) rfl rfl ?_
                  refine h_give (i := 1) (by kernel_rfl) rfl (g_load (evv rfl) (by rfl) (by rfl)) rfl rfl ?_
                  refine h_one (i := 2) (by kernel_rfl) rfl (Lay.ent) ?_
                  (refine o_call rfl _ (Ent.refl _) (Name_c _ _ (by first | assumption | omega)) rfl ?_; rintro _ _ ⟨rfl, hLz⟩; obtain rfl := hLz.symm; clear hLz)
                  refine o_nil ?_
                  simp only [e1, Bool.not_true]
                  refine h_give (i := 3) (by kernel_rfl) rfl (g_not (evv rfl)) rfl rfl ?_
                  refine h_give (i := 4) (by kernel_rfl) rfl (g_move (evv rfl)) rfl rfl ?_
                  refine h_sure (i := 5) (by kernel_rfl) rfl rfl (g_fld (evv rfl)) rfl rfl ?_
                  refine h_sure (i := 6) (by kernel_rfl) rfl rfl (g_load (evv rfl) (by rfl) (by rfl)) rfl rfl ?_
                  refine h_sure (i := 7) (by kernel_rfl) rfl rfl (g_bin (evv rfl) (evv rfl) (by rfl)) rfl rfl ?_
                  refine h_sure (i := 8) (by kernel_rfl) rfl rfl (g_move (evv rfl)) rfl rfl ?_
                  refine h_lazy (i := 9) (by kernel_rfl) rfl rfl (fun hg => g_fld (evv rfl)) rfl rfl ?_
                  refine h_lazy (i := 10) (by kernel_rfl) rfl rfl (fun hg => g_load (evg rfl hg) (by rfl) (by rfl)) rfl rfl ?_
                  refine h_lazy (i := 11) (by kernel_rfl) rfl rfl (fun hg => g_bin (by first | exact evv rfl | exact evg rfl (by rw [hp]; rfl) | exact evg rfl hp | exact evg rfl hg | exact evg rfl (by first | (simp_all; done) | (simp [*]; done) | fail) | fail) (by first | exact evv rfl | exact evg rfl (by rw [hp]; rfl) | exact evg rfl hp | exact evg rfl hg | exact evg rfl (by first | (simp_all; done) | (simp [*]; done) | fail) | fail) (by rfl)) rfl rfl ?_
                  refine h_sure (i := 12) (by kernel_rfl) rfl rfl (g_pick_and (evv rfl) (evv rfl) (fun hp => (by first | exact evv rfl | exact evg rfl (by rw [hp]; rfl) | exact evg rfl hp | exact evg rfl hg | exact evg rfl (by first | (simp_all; done) | (simp [*]; done) | fail) | fail))) rfl rfl ?_
                  simp only [e2]
                  refine h_give (i := 13) (by kernel_rfl) rfl (g_pick (b := false) (evv rfl) (fun h => by cases h) (fun _ => (evv rfl))) rfl rfl ?_
                  refine h_give (i := 14) (by kernel_rfl) rfl (g_move (evv rfl)) rfl rfl ?_
                  refine h_sure (i := 15) (by kernel_rfl) rfl rfl (g_move (evv rfl)) rfl rfl ?_
                  refine h_sure (i := 16) (by kernel_rfl) rfl rfl (g_bin (evv rfl) (evv rfl) (by rfl)) rfl rfl ?_
                  simp only [e3]
                  refine h_sure (i := 17) (by kernel_rfl) rfl rfl (g_move (evv rfl)) rfl rfl ?_
                  refine h_sure (i := 18) (by kernel_rfl) rfl rfl (g_fld (evv rfl)) rfl rfl ?_
                  refine h_sure (i := 19) (by kernel_rfl) rfl rfl (g_load (evv rfl) (by rfl) (by rfl)) rfl rfl ?_
                  refine h_sure (i := 20) (by kernel_rfl) rfl rfl (g_move (evv rfl)) rfl rfl ?_
                  refine h_sure (i := 21) (by kernel_rfl) rfl rfl (Gives.as (g_bin (evv rfl) (evv rfl) (by rfl)) (by rw [wrap_in (by simp only [inR]; omega)])) rfl rfl ?_
                  refine h_sure (i := 22) (by kernel_rfl) rfl rfl (g_idxF (evv rfl) (evv rfl) (by rfl) (by rfl) (by omega) (by first | omega | (have := of_decide_eq_true hg; omega) | (simp at hg; omega) | (simp only [List.length_set, List.length_append, List.length_cons, List.length_nil, List.length_map, List.length_take, List.length_drop, List.length_replicate]; omega))) rfl rfl ?_
                  refine h_sure (i := 23) (by kernel_rfl) rfl rfl (g_fldE (evv rfl) (by first | (simp only [frow, mrow]; omega) | (simp only [frow, mrow, List.length_set, List.length_append, List.length_cons]; omega) | fail) (by first | exact Nat.succ_pos _ | decide)) rfl rfl ?_
                  refine h_sure (i := 24) (by kernel_rfl) rfl rfl (g_loadFld (evv rfl) (by rfl) (by first | (intro; rfl) | exact LenC.h) (by first | omega | (have := of_decide_eq_true hg; omega) | (simp at hg; omega) | (simp only [List.length_set, List.length_append, List.length_cons, List.length_nil, List.length_map, List.length_take, List.length_drop, List.length_replicate]; omega)) (by rfl)) rfl rfl ?_
                  refine h_sure (i := 25) (by kernel_rfl) rfl rfl (g_fld (evv rfl)) rfl rfl ?_
                  refine h_sure (i := 26) (by kernel_rfl) rfl rfl (g_load (evv rfl) (by rfl) (by rfl)) rfl rfl ?_
                  refine h_sure (i := 27) (by kernel_rfl) rfl rfl (g_binS (evv rfl) (evv rfl) (by rfl)) rfl rfl ?_
                  refine h_sure (i := 28) (by kernel_rfl) rfl rfl (g_pick (b := true) (evv rfl) (fun _ => (evv rfl)) (fun h => by cases h)) rfl rfl ?_
                  refine h_give (i := 29) (by kernel_rfl) rfl (g_pick (b := false) (evv rfl) (fun h => by cases h) (fun _ => (evv rfl))) rfl rfl ?_
                  refine h_done (by kernel_rfl) (Lay.ent) ?_
                  refine c_code ?_
                  rw [e4]
                  refine r_cond rfl (fun hlt => ?_) (fun hlt => ?_) <;> (try simp only [decide_eq_true_eq, decide_eq_false_iff_not, Bool.and_eq_true, Bool.or_eq_true, Bool.not_eq_true', Bool.and_eq_false_iff, Bool.or_eq_false_iff, Bool.not_eq_false', Bool.not_eq_true, Bool.not_eq_false, Bool.true_eq_false, Bool.false_eq_true, Int.not_lt, Int.not_le, not_and, not_or, ne_eq] at hlt)
                  · have hn : ¬ itOk items i := fun h => by
                      have h1 := h.1
                      rw [lastOf, if_neg hi0, hlt] at h1
                      cases h1
                    refine r_seq ?_
                    refine r_region (id := 21) ?_
                    refine o_give (g_assign (evv rfl)) rfl rfl ?_
                    refine o_nil ?_
                    refine c_code ?_
                    first | refine r_ret (rs := [.tmp 2]) rfl rfl _ ((Lay.ent (L' := L))) ?_ | refine c_end (rs := [.tmp 2]) rfl rfl _ ((Lay.ent (L' := L))) ?_
                    exact ⟨hno hn rfl, rfl⟩
                  · refine r_skip ?_
                    refine c_blk ?_
                    refine c_code ?_
                    refine r_region (id := 18) ?_
                    refine o_give (g_move (evv rfl)) rfl rfl ?_
                    refine o_giveN (g_bin (evv rfl) (evv rfl) (by rfl)) (by simp only [inR]; omega) rfl ?_
                    refine o_give (g_assign (evv rfl)) rfl rfl ?_
                    refine o_nil ?_
                    refine c_loop (i + 1) ?_ ?_ (by repeat (first | exact trivial | refine ⟨rfl, ?_⟩ | refine envsub_v rfl (by first | rfl | (refine int_eq ?_; first | omega | (simp; omega) | (simp; done)) | (refine bool_eq ?_; first | (simp [*]; done) | (simp; done)) | (refine str_eq ?_; simp; done) | (refine ptr_eq ?_; omega) | fail) ?_)) ?_ <;> (try dsimp only)
                    · refine ⟨by omega, fun j hj => ?_⟩
                      by_cases hji : j = i
                      · subst hji
                        exact ⟨by rw [lastOf, if_neg hi0]; exact hlt, hnm, hk⟩
                      · exact ha j (by omega)
                    · omega
                    · exact Lay.ent
              · have e2 : (!decide ((items.getD i default).kind = 2) && !decide ((items.getD i default).kind = 3)) = true := by simp only [not_or] at hk; rw [decide_eq_false hk.1, decide_eq_false hk.2]; rfl
                repeat (first | refine r_seq ?_ | refine c_code ?_ | refine c_blk ?_ | refine r_block ?_ | refine r_skip ?_)
                refine r_held (id := 20) (blk p ⟨itmC (items.getD i default), 54⟩ :: blk q ⟨[.int .i64 kind, str [], .int .i64 size, pv, iv], 27⟩ :: L) Mixed.h ?_
                refine h_give (i := 0) (by kernel_rfl) rfl (g_fld (evv rfl)) rfl rfl ?_
                refine h_give (i := 1) (by kernel_rfl) rfl (g_load (evv rfl) (by rfl) (by rfl)) rfl rfl ?_
                refine h_one (i := 2) (by kernel_rfl) rfl (Lay.ent) ?_
                (refine o_call rfl _ (Ent.refl _) (Name_c _ _ (by first | assumption | omega)) rfl ?_; rintro _ _ ⟨rfl, hLz⟩; obtain rfl := hLz.symm; clear hLz)
                refine o_nil ?_
                simp only [e1, Bool.not_true]
                refine h_give (i := 3) (by kernel_rfl) rfl (g_not (evv rfl)) rfl rfl ?_
                refine h_give (i := 4) (by kernel_rfl) rfl (g_move (evv rfl)) rfl rfl ?_
                refine h_sure (i := 5) (by kernel_rfl) rfl rfl (g_fld (evv rfl)) rfl rfl ?_
                refine h_sure (i := 6) (by kernel_rfl) rfl rfl (g_load (evv rfl) (by rfl) (by rfl)) rfl rfl ?_
                refine h_sure (i := 7) (by kernel_rfl) rfl rfl (g_bin (evv rfl) (evv rfl) (by rfl)) rfl rfl ?_
                refine h_sure (i := 8) (by kernel_rfl) rfl rfl (g_move (evv rfl)) rfl rfl ?_
                refine h_lazy (i := 9) (by kernel_rfl) rfl rfl (fun hg => g_fld (evv rfl)) rfl rfl ?_
                refine h_lazy (i := 10) (by kernel_rfl) rfl rfl (fun hg => g_load (evg rfl hg) (by rfl) (by rfl)) rfl rfl ?_
                refine h_lazy (i := 11) (by kernel_rfl) rfl rfl (fun hg => g_bin (by first | exact evv rfl | exact evg rfl (by rw [hp]; rfl) | exact evg rfl hp | exact evg rfl hg | exact evg rfl (by first | (simp_all; done) | (simp [*]; done) | fail) | fail) (by first | exact evv rfl | exact evg rfl (by rw [hp]; rfl) | exact evg rfl hp | exact evg rfl hg | exact evg rfl (by first | (simp_all; done) | (simp [*]; done) | fail) | fail) (by rfl)) rfl rfl ?_
                refine h_sure (i := 12) (by kernel_rfl) rfl rfl (g_pick_and (evv rfl) (evv rfl) (fun hp => (by first | exact evv rfl | exact evg rfl (by rw [hp]; rfl) | exact evg rfl hp | exact evg rfl hg | exact evg rfl (by first | (simp_all; done) | (simp [*]; done) | fail) | fail))) rfl rfl ?_
                simp only [e2]
                refine h_give (i := 13) (by kernel_rfl) rfl (g_pick (b := false) (evv rfl) (fun h => by cases h) (fun _ => (evv rfl))) rfl rfl ?_
                refine h_give (i := 14) (by kernel_rfl) rfl (g_move (evv rfl)) rfl rfl ?_
                refine h_lazy (i := 15) (by kernel_rfl) rfl rfl (fun hg => g_move (by first | exact evv rfl | exact evg rfl (by rw [hp]; rfl) | exact evg rfl hp | exact evg rfl hg | exact evg rfl (by first | (simp_all; done) | (simp [*]; done) | fail) | fail)) rfl rfl ?_
                refine h_lazy (i := 16) (by kernel_rfl) rfl rfl (fun hg => g_bin (by first | exact evv rfl | exact evg rfl (by rw [hp]; rfl) | exact evg rfl hp | exact evg rfl hg | exact evg rfl (by first | (simp_all; done) | (simp [*]; done) | fail) | fail) (by first | exact evv rfl | exact evg rfl (by rw [hp]; rfl) | exact evg rfl hp | exact evg rfl hg | exact evg rfl (by first | (simp_all; done) | (simp [*]; done) | fail) | fail) (by rfl)) rfl rfl ?_
                refine h_lazy (i := 17) (by kernel_rfl) rfl rfl (fun hg => g_move (by first | exact evv rfl | exact evg rfl (by rw [hp]; rfl) | exact evg rfl hp | exact evg rfl hg | exact evg rfl (by first | (simp_all; done) | (simp [*]; done) | fail) | fail)) rfl rfl ?_
                refine h_lazy (i := 18) (by kernel_rfl) rfl rfl (fun hg => g_fld (evv rfl)) rfl rfl ?_
                refine h_lazy (i := 19) (by kernel_rfl) rfl rfl (fun hg => g_load (evg rfl hg) (by rfl) (by rfl)) rfl rfl ?_
                refine h_lazy (i := 20) (by kernel_rfl) rfl rfl (fun hg => g_move (by first | exact evv rfl | exact evg rfl (by rw [hp]; rfl) | exact evg rfl hp | exact evg rfl hg | exact evg rfl (by first | (simp_all; done) | (simp [*]; done) | fail) | fail)) rfl rfl ?_
                refine h_lazy (i := 21) (by kernel_rfl) rfl rfl (fun hg => Gives.as (g_bin (by first | exact evv rfl | exact evg rfl (by rw [hp]; rfl) | exact evg rfl hp | exact evg rfl hg | exact evg rfl (by first | (simp_all; done) | (simp [*]; done) | fail) | fail) (by first | exact evv rfl | exact evg rfl (by rw [hp]; rfl) | exact evg rfl hp | exact evg rfl hg | exact evg rfl (by first | (simp_all; done) | (simp [*]; done) | fail) | fail) (by rfl)) (by rw [wrap_in (by simp only [inR]; omega)])) rfl rfl ?_
                refine h_lazy (i := 22) (by kernel_rfl) rfl (v0 := undef) rfl (fun hg => absurd hg (by first | (simp; done) | fail)) rfl rfl ?_
                refine h_lazy (i := 23) (by kernel_rfl) rfl (v0 := undef) rfl (fun hg => absurd hg (by first | (simp; done) | fail)) rfl rfl ?_
                refine h_lazy (i := 24) (by kernel_rfl) rfl (v0 := undef) rfl (fun hg => absurd hg (by first | (simp; done) | fail)) rfl rfl ?_
                refine h_lazy (i := 25) (by kernel_rfl) rfl rfl (fun hg => g_fld (evv rfl)) rfl rfl ?_
                refine h_lazy (i := 26) (by kernel_rfl) rfl rfl (fun hg => g_load (evg rfl hg) (by rfl) (by rfl)) rfl rfl ?_
                refine h_lazy (i := 27) (by kernel_rfl) rfl (v0 := undef) rfl (fun hg => absurd hg (by first | (simp; done) | fail)) rfl rfl ?_
                refine h_lazy (i := 28) (by kernel_rfl) rfl (v0 := undef) rfl (fun hg => absurd hg (by first | (simp; done) | fail)) rfl rfl ?_
                refine h_give (i := 29) (by kernel_rfl) rfl (g_pick (b := true) (evv rfl) (fun _ => (evv rfl)) (fun h => by cases h)) rfl rfl ?_
                refine h_done (by kernel_rfl) (Lay.ent) ?_
                refine c_code ?_
                refine r_cond_true rfl ?_
                refine r_seq ?_
                refine r_region (id := 21) ?_
                refine o_give (g_assign (evv rfl)) rfl rfl ?_
                refine o_nil ?_
                refine c_code ?_
                first | refine r_ret (rs := [.tmp 2]) rfl rfl _ ((Lay.ent (L' := L))) ?_ | refine c_end (rs := [.tmp 2]) rfl rfl _ ((Lay.ent (L' := L))) ?_
                exact ⟨hno (fun h => hk h.2.2) rfl, rfl⟩
            · have e1 := decide_eq_false hnm
              repeat (first | refine r_seq ?_ | refine c_code ?_ | refine c_blk ?_ | refine r_block ?_ | refine r_skip ?_)
              refine r_held (id := 20) (blk p ⟨itmC (items.getD i default), 54⟩ :: blk q ⟨[.int .i64 kind, str [], .int .i64 size, pv, iv], 27⟩ :: L) Mixed.h ?_
              refine h_give (i := 0) (by kernel_rfl) rfl (g_fld (evv rfl)) rfl rfl ?_
              refine h_give (i := 1) (by kernel_rfl) rfl (g_load (evv rfl) (by rfl) (by rfl)) rfl rfl ?_
              refine h_one (i := 2) (by kernel_rfl) rfl (Lay.ent) ?_
              (refine o_call rfl _ (Ent.refl _) (Name_c _ _ (by first | assumption | omega)) rfl ?_; rintro _ _ ⟨rfl, hLz⟩; obtain rfl := hLz.symm; clear hLz)
              refine o_nil ?_
              simp only [e1, Bool.not_false]
              refine h_give (i := 3) (by kernel_rfl) rfl (g_not (evv rfl)) rfl rfl ?_
              refine h_give (i := 4) (by kernel_rfl) rfl (g_move (evv rfl)) rfl rfl ?_
              refine h_lazy (i := 5) (by kernel_rfl) rfl rfl (fun hg => g_fld (evv rfl)) rfl rfl ?_
              refine h_lazy (i := 6) (by kernel_rfl) rfl rfl (fun hg => g_load (evg rfl hg) (by rfl) (by rfl)) rfl rfl ?_
              refine h_lazy (i := 7) (by kernel_rfl) rfl rfl (fun hg => g_bin (by first | exact evv rfl | exact evg rfl (by rw [hp]; rfl) | exact evg rfl hp | exact evg rfl hg | exact evg rfl (by first | (simp_all; done) | (simp [*]; done) | fail) | fail) (by first | exact evv rfl | exact evg rfl (by rw [hp]; rfl) | exact evg rfl hp | exact evg rfl hg | exact evg rfl (by first | (simp_all; done) | (simp [*]; done) | fail) | fail) (by rfl)) rfl rfl ?_
              refine h_lazy (i := 8) (by kernel_rfl) rfl rfl (fun hg => g_move (by first | exact evv rfl | exact evg rfl (by rw [hp]; rfl) | exact evg rfl hp | exact evg rfl hg | exact evg rfl (by first | (simp_all; done) | (simp [*]; done) | fail) | fail)) rfl rfl ?_
              refine h_lazy (i := 9) (by kernel_rfl) rfl rfl (fun hg => g_fld (evv rfl)) rfl rfl ?_
              refine h_lazy (i := 10) (by kernel_rfl) rfl rfl (fun hg => g_load (evg rfl hg) (by rfl) (by rfl)) rfl rfl ?_
              refine h_lazy (i := 11) (by kernel_rfl) rfl rfl (fun hg => g_bin (by first | exact evv rfl | exact evg rfl (by rw [hp]; rfl) | exact evg rfl hp | exact evg rfl hg | exact evg rfl (by first | (simp_all; done) | (simp [*]; done) | fail) | fail) (by first | exact evv rfl | exact evg rfl (by rw [hp]; rfl) | exact evg rfl hp | exact evg rfl hg | exact evg rfl (by first | (simp_all; done) | (simp [*]; done) | fail) | fail) (by rfl)) rfl rfl ?_
              refine h_lazy (i := 12) (by kernel_rfl) rfl rfl (fun hg => g_pick_and (by first | exact evv rfl | exact evg rfl (by rw [hp]; rfl) | exact evg rfl hp | exact evg rfl hg | exact evg rfl (by first | (simp_all; done) | (simp [*]; done) | fail) | fail) (by first | exact evv rfl | exact evg rfl (by rw [hp]; rfl) | exact evg rfl hp | exact evg rfl hg | exact evg rfl (by first | (simp_all; done) | (simp [*]; done) | fail) | fail) (fun hp => (by first | exact evv rfl | exact evg rfl (by rw [hp]; rfl) | exact evg rfl hp | exact evg rfl hg | exact evg rfl (by first | (simp_all; done) | (simp [*]; done) | fail) | fail))) rfl rfl ?_
              refine h_give (i := 13) (by kernel_rfl) rfl (g_pick (b := true) (evv rfl) (fun _ => (evv rfl)) (fun h => by cases h)) rfl rfl ?_
              refine h_give (i := 14) (by kernel_rfl) rfl (g_move (evv rfl)) rfl rfl ?_
              refine h_lazy (i := 15) (by kernel_rfl) rfl rfl (fun hg => g_move (by first | exact evv rfl | exact evg rfl (by rw [hp]; rfl) | exact evg rfl hp | exact evg rfl hg | exact evg rfl (by first | (simp_all; done) | (simp [*]; done) | fail) | fail)) rfl rfl ?_
              refine h_lazy (i := 16) (by kernel_rfl) rfl rfl (fun hg => g_bin (by first | exact evv rfl | exact evg rfl (by rw [hp]; rfl) | exact evg rfl hp | exact evg rfl hg | exact evg rfl (by first | (simp_all; done) | (simp [*]; done) | fail) | fail) (by first | exact evv rfl | exact evg rfl (by rw [hp]; rfl) | exact evg rfl hp | exact evg rfl hg | exact evg rfl (by first | (simp_all; done) | (simp [*]; done) | fail) | fail) (by rfl)) rfl rfl ?_
              refine h_lazy (i := 17) (by kernel_rfl) rfl rfl (fun hg => g_move (by first | exact evv rfl | exact evg rfl (by rw [hp]; rfl) | exact evg rfl hp | exact evg rfl hg | exact evg rfl (by first | (simp_all; done) | (simp [*]; done) | fail) | fail)) rfl rfl ?_
              refine h_lazy (i := 18) (by kernel_rfl) rfl rfl (fun hg => g_fld (evv rfl)) rfl rfl ?_
              refine h_lazy (i := 19) (by kernel_rfl) rfl rfl (fun hg => g_load (evg rfl hg) (by rfl) (by rfl)) rfl rfl ?_
              refine h_lazy (i := 20) (by kernel_rfl) rfl rfl (fun hg => g_move (by first | exact evv rfl | exact evg rfl (by rw [hp]; rfl) | exact evg rfl hp | exact evg rfl hg | exact evg rfl (by first | (simp_all; done) | (simp [*]; done) | fail) | fail)) rfl rfl ?_
              refine h_lazy (i := 21) (by kernel_rfl) rfl rfl (fun hg => Gives.as (g_bin (by first | exact evv rfl | exact evg rfl (by rw [hp]; rfl) | exact evg rfl hp | exact evg rfl hg | exact evg rfl (by first | (simp_all; done) | (simp [*]; done) | fail) | fail) (by first | exact evv rfl | exact evg rfl (by rw [hp]; rfl) | exact evg rfl hp | exact evg rfl hg | exact evg rfl (by first | (simp_all; done) | (simp [*]; done) | fail) | fail) (by rfl)) (by rw [wrap_in (by simp only [inR]; omega)])) rfl rfl ?_
              refine h_lazy (i := 22) (by kernel_rfl) rfl (v0 := undef) rfl (fun hg => absurd hg (by first | (simp; done) | fail)) rfl rfl ?_
              refine h_lazy (i := 23) (by kernel_rfl) rfl (v0 := undef) rfl (fun hg => absurd hg (by first | (simp; done) | fail)) rfl rfl ?_
              refine h_lazy (i := 24) (by kernel_rfl) rfl (v0 := undef) rfl (fun hg => absurd hg (by first | (simp; done) | fail)) rfl rfl ?_
              refine h_lazy (i := 25) (by kernel_rfl) rfl rfl (fun hg => g_fld (evv rfl)) rfl rfl ?_
              refine h_lazy (i := 26) (by kernel_rfl) rfl rfl (fun hg => g_load (evg rfl hg) (by rfl) (by rfl)) rfl rfl ?_
              refine h_lazy (i := 27) (by kernel_rfl) rfl (v0 := undef) rfl (fun hg => absurd hg (by first | (simp; done) | fail)) rfl rfl ?_
              refine h_lazy (i := 28) (by kernel_rfl) rfl (v0 := undef) rfl (fun hg => absurd hg (by first | (simp; done) | fail)) rfl rfl ?_
              refine h_give (i := 29) (by kernel_rfl) rfl (g_pick (b := true) (evv rfl) (fun _ => (evv rfl)) (fun h => by cases h)) rfl rfl ?_
              refine h_done (by kernel_rfl) (Lay.ent) ?_
              refine c_code ?_
              refine r_cond_true rfl ?_
              refine r_seq ?_
              refine r_region (id := 21) ?_
              refine o_give (g_assign (evv rfl)) rfl rfl ?_
              refine o_nil ?_
              refine c_code ?_
              first | refine r_ret (rs := [.tmp 2]) rfl rfl _ ((Lay.ent (L' := L))) ?_ | refine c_end (rs := [.tmp 2]) rfl rfl _ ((Lay.ent (L' := L))) ?_
              exact ⟨hno (fun h => hnm h.2.1) rfl, rfl⟩
          · refine r_exit rfl ?_
            refine c_code ?_
            refine r_seq ?_
            refine r_region (id := 22) ?_
            refine o_give (g_assign (evv rfl)) rfl rfl ?_
            refine o_nil ?_
            refine c_code ?_
            first | refine r_ret (rs := [.tmp 2]) rfl rfl _ (Ent.drop) ?_ | refine c_end (rs := [.tmp 2]) rfl rfl _ (Ent.drop) ?_
            have hr : rises items := fun j => ha j.1 (by have := j.2; omega)
            exact ⟨bool_eq (decide_eq_true hr).symm, rfl⟩
end VK
