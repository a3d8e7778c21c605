/- What In reads: texts, flags, digests. Conditions: none. -/
import Derived.Test.YtmiebacicnmojaaIn2
namespace VK
open Go Go.Proofs
set_option linter.unusedSimpArgs false
set_option linter.unusedVariables false
set_option maxRecDepth 100000
set_option maxHeartbeats 40000000

def takeR (n : Nat) (s : InS) : List UInt8 × InS := if s.err = 0 then (if s.bs.length < n then ([], ⟨[], 20⟩) else (s.bs.take n, ⟨s.bs.drop n, 0⟩)) else ([], s)
def TakeP (F : List Atom) (i : Nat) (out : List UInt8) (s' : InS) (v : Value) (L' : List Atom) : Prop :=
  ∃ x, L' = inX i s' x ++ F ∧ Rd [sl x.1.2.1 (mrow by8 5 x.1.2.2)] v (mrow by8 5 out)
theorem take_c (F : List Atom) (i : Nat) (s : InS) (n : Nat) (hn : n ≤ 9223372036854775807) : Fn Try.prog 53 [.pointer (some ⟨i, 0, none⟩), .int .i64 n] (inA i s :: F) (TakeP F i (takeR n s).1 (takeR n s).2) := by
  obtain ⟨bs, e⟩ := s
  refine Fn.exA ?_
  rintro ⟨⟨v, w, full⟩, hr⟩
  dsimp only at hr
  refine fn_intro Try.func53 rfl Try.ntmps53 rfl (fun W0 => ?_)
  haveI := hr.one (F := F)
  simp only [inX, List.cons_append, List.nil_append, argE]
  by_cases he : e = 0
  · subst he
    by_cases hl : bs.length < n
    · have e : takeR n ⟨bs, 0⟩ = ([], ⟨[], 20⟩) := by simp [takeR, hl]
      rw [e]
      refine r_seq ?_
      refine r_region (id := 0) ?_
      refine o_give (g_assign (evv rfl)) rfl rfl ?_
      refine o_nil ?_
      refine c_code ?_
      refine r_seq ?_
      refine r_seq ?_
      refine r_region (id := 1) ?_
      refine o_give (g_move (evv rfl)) rfl rfl ?_
      refine o_give (g_pnil TyU.h (evv rfl) (evv rfl) (by simp) (by rfl)) rfl rfl ?_
      refine o_give (g_move (evv rfl)) rfl rfl ?_
      refine o_gyes rfl ?_
      refine o_give (g_move (evv rfl)) rfl rfl ?_
      refine o_gyes rfl ?_
      refine o_give (g_nil (evv rfl)) rfl rfl ?_
      refine o_gyes rfl ?_
      refine o_give (g_fld (evv rfl)) rfl rfl ?_
      refine o_gyes rfl ?_
      refine o_give (g_load (evv rfl) (by rfl) (by rfl)) rfl rfl ?_
      refine o_gyes rfl ?_
      refine o_give (g_bin (evv rfl) (evv rfl) (by rfl)) rfl rfl ?_
      refine o_give (g_pick (b := false) (evv rfl) (fun h => by cases h) (fun _ => (evv rfl))) rfl rfl ?_
      refine o_nil ?_
      refine c_code ?_
      refine r_cond_false rfl ?_
      refine r_skip ?_
      refine c_code ?_
      refine r_seq ?_
      refine r_seq ?_
      refine r_region (id := 3) ?_
      refine o_give (g_move (evv rfl)) rfl rfl ?_
      refine o_give (g_move (evv rfl)) rfl rfl ?_
      refine o_give (g_nil (evv rfl)) rfl rfl ?_
      refine o_give (g_fld (evv rfl)) rfl rfl ?_
      refine o_give (g_load (evv rfl) (by rfl) (by rfl)) rfl rfl ?_
      refine o_give (g_lenM (evv rfl)) rfl rfl ?_
      refine o_give (g_bin (evv rfl) (evv rfl) (by rfl)) rfl rfl ?_
      refine o_nil ?_
      refine c_code ?_
      refine r_cond rfl (fun hc => ?_) (fun hc => ?_)
      · refine r_seq ?_
        refine r_ent _ (inA_shut (s := ⟨bs, 0⟩) hr) ?_
        refine r_region (id := 4) ?_
        refine o_give (g_move (evv rfl)) rfl rfl ?_
        (refine o_call rfl _ (Ent.refl _) (fail_l _) rfl ?_; rintro _ _ ⟨rfl, rfl⟩)
        refine o_nil ?_
        refine c_code ?_
        refine r_seq ?_
        refine r_region (id := 5) ?_
        refine o_give (g_assign (evv rfl)) rfl rfl ?_
        refine o_nil ?_
        refine c_code ?_
        refine r_exA ?_
        rintro ⟨⟨v2, w2, f2⟩, hr2⟩
        exact r_ret (rs := [.tmp 4]) rfl rfl _ (Ent.refl _) ⟨⟨(v2, w2, f2), hr2⟩, rfl, Rd.nilM by8 _⟩
      · have := of_decide_eq_false hc
        omega
    · have e : takeR n ⟨bs, 0⟩ = (bs.take n, ⟨bs.drop n, 0⟩) := by simp [takeR, hl]
      rw [e]
      refine r_seq ?_
      refine r_region (id := 0) ?_
      refine o_give (g_assign (evv rfl)) rfl rfl ?_
      refine o_nil ?_
      refine c_code ?_
      refine r_seq ?_
      refine r_seq ?_
      refine r_region (id := 1) ?_
      refine o_give (g_move (evv rfl)) rfl rfl ?_
      refine o_give (g_pnil TyU.h (evv rfl) (evv rfl) (by simp) (by rfl)) rfl rfl ?_
      refine o_give (g_move (evv rfl)) rfl rfl ?_
      refine o_gyes rfl ?_
      refine o_give (g_move (evv rfl)) rfl rfl ?_
      refine o_gyes rfl ?_
      refine o_give (g_nil (evv rfl)) rfl rfl ?_
      refine o_gyes rfl ?_
      refine o_give (g_fld (evv rfl)) rfl rfl ?_
      refine o_gyes rfl ?_
      refine o_give (g_load (evv rfl) (by rfl) (by rfl)) rfl rfl ?_
      refine o_gyes rfl ?_
      refine o_give (g_bin (evv rfl) (evv rfl) (by rfl)) rfl rfl ?_
      refine o_give (g_pick (b := false) (evv rfl) (fun h => by cases h) (fun _ => (evv rfl))) rfl rfl ?_
      refine o_nil ?_
      refine c_code ?_
      refine r_cond_false rfl ?_
      refine r_skip ?_
      refine c_code ?_
      refine r_seq ?_
      refine r_seq ?_
      refine r_region (id := 3) ?_
      refine o_give (g_move (evv rfl)) rfl rfl ?_
      refine o_give (g_move (evv rfl)) rfl rfl ?_
      refine o_give (g_nil (evv rfl)) rfl rfl ?_
      refine o_give (g_fld (evv rfl)) rfl rfl ?_
      refine o_give (g_load (evv rfl) (by rfl) (by rfl)) rfl rfl ?_
      refine o_give (g_lenM (evv rfl)) rfl rfl ?_
      refine o_give (g_bin (evv rfl) (evv rfl) (by rfl)) rfl rfl ?_
      refine o_nil ?_
      refine c_code ?_
      refine r_cond rfl (fun hc => ?_) (fun hc => ?_)
      · have := of_decide_eq_true hc
        omega
      · refine r_skip ?_
        refine c_code ?_
        refine r_seq ?_
        refine r_region (id := 6) ?_
        refine o_give (g_move (evv rfl)) rfl rfl ?_
        refine o_give (g_nil (evv rfl)) rfl rfl ?_
        refine o_give (g_fld (evv rfl)) rfl rfl ?_
        refine o_give (g_load (evv rfl) (by rfl) (by rfl)) rfl rfl ?_
        refine o_give (g_move (evv rfl)) rfl rfl ?_
        refine o_give (g_subM (evv rfl) _ _ bnd_none (bnd_some (evv rfl) rfl) (by rfl) (by omega) (by omega)) rfl rfl ?_
        refine o_give (g_assign (evv rfl)) rfl rfl ?_
        refine o_nil ?_
        refine c_code ?_
        refine r_seq ?_
        refine r_region (id := 7) ?_
        refine o_give (g_move (evv rfl)) rfl rfl ?_
        refine o_give (g_move (evv rfl)) rfl rfl ?_
        refine o_give (g_nil (evv rfl)) rfl rfl ?_
        refine o_give (g_fld (evv rfl)) rfl rfl ?_
        refine o_give (g_load (evv rfl) (by rfl) (by rfl)) rfl rfl ?_
        refine o_give (g_move (evv rfl)) rfl rfl ?_
        refine o_give (g_subM (evv rfl) _ _ (bnd_some (evv rfl) rfl) bnd_none (by rfl) (by omega) (by omega)) rfl rfl ?_
        refine o_give (g_nil (evv rfl)) rfl rfl ?_
        refine o_give (g_fld (evv rfl)) rfl rfl ?_
        refine o_store1 (evv rfl) (evv rfl) (by rfl) (by rfl) (by rfl) ?_
        refine o_nil ?_
        refine c_code ?_
        refine r_seq ?_
        refine r_region (id := 8) ?_
        refine o_give (g_move (evv rfl)) rfl rfl ?_
        refine o_give (g_assign (evv rfl)) rfl rfl ?_
        refine o_nil ?_
        refine c_code ?_
        refine r_ret (rs := [.tmp 4]) rfl rfl _ (Ent.refl _) ⟨⟨(_, w, full), (Rd.subM (rd := hr)).as ?_⟩, rfl, (Rd.subM (rd := hr)).as (by simp)⟩
        rw [List.take_of_length_le (by simp)]
  · have he' : decide (e = 0) = false := decide_eq_false he
    have e1 : takeR n ⟨bs, e⟩ = ([], ⟨bs, e⟩) := by simp [takeR, he]
    rw [e1]
    refine r_seq ?_
    refine r_region (id := 0) ?_
    refine o_give (g_assign (evv rfl)) rfl rfl ?_
    refine o_nil ?_
    refine c_code ?_
    refine r_seq ?_
    refine r_seq ?_
    refine r_region (id := 1) ?_
    refine o_give (g_move (evv rfl)) rfl rfl ?_
    refine o_give (g_pnil TyU.h (evv rfl) (evv rfl) (by simp) (by rfl)) rfl rfl ?_
    refine o_give (g_move (evv rfl)) rfl rfl ?_
    refine o_gyes rfl ?_
    refine o_give (g_move (evv rfl)) rfl rfl ?_
    refine o_gyes rfl ?_
    refine o_give (g_nil (evv rfl)) rfl rfl ?_
    refine o_gyes rfl ?_
    refine o_give (g_fld (evv rfl)) rfl rfl ?_
    refine o_gyes rfl ?_
    refine o_give (g_load (evv rfl) (by rfl) (by rfl)) rfl rfl ?_
    refine o_gyes rfl ?_
    refine o_give (g_bin (evv rfl) (evv rfl) (by rfl)) rfl rfl ?_
    refine o_give (g_pick (b := false) (evv rfl) (fun h => by cases h) (fun _ => (evv rfl))) rfl rfl ?_
    refine o_nil ?_
    refine c_code ?_
    refine r_cond rfl (fun hc => ?_) (fun hc => ?_)
    · refine r_seq ?_
      refine r_region (id := 2) ?_
      refine o_give (g_assign (evv rfl)) rfl rfl ?_
      refine o_nil ?_
      refine c_code ?_
      exact r_ret (rs := [.tmp 4]) rfl rfl _ (Ent.refl _) ⟨⟨(v, w, full), hr⟩, rfl, Rd.nilM by8 _⟩
    · simp [he'] at hc
theorem take_z (F : List Atom) (i : Nat) (s : InS) (z : Int) (hn : 0 ≤ z ∧ z ≤ 9223372036854775807) : Fn Try.prog 53 [.pointer (some ⟨i, 0, none⟩), .int .i64 z] (inA i s :: F) (TakeP F i (takeR z.toNat s).1 (takeR z.toNat s).2) := by
  have h := take_c F i s z.toNat (by omega)
  rwa [Int.toNat_of_nonneg hn.1] at h
def textR (most : Int) (s : InS) : List UInt8 × InS := if (numR s).2.err = 0 then (if max most 0 < (numR s).1 then ([], ⟨[], 2⟩) else takeR (numR s).1 (numR s).2) else ([], (numR s).2)
theorem inText_c (F : List Atom) (i : Nat) (s : InS) (most : Int) (hm : -9223372036854775808 ≤ most ∧ most ≤ 9223372036854775807) :
    Fn Try.prog 35 [.pointer (some ⟨i, 0, none⟩), .int .i64 most] (inA i s :: F) fun v L' => v = str (textR most s).1 ∧ L' = inA i (textR most s).2 :: F := by
  refine fn_intro Try.func35 rfl Try.ntmps35 rfl (fun W0 => ?_)
  simp only [argE]
  have hn := numR_le s
  refine r_seq ?_
  refine r_region (id := 0) ?_
  refine o_give (g_assign (evv rfl)) rfl rfl ?_
  refine o_nil ?_
  refine c_code ?_
  refine r_seq ?_
  refine r_region (id := 1) ?_
  refine o_give (g_move (evv rfl)) rfl rfl ?_
  (refine o_call rfl _ (Ent.refl _) inNum_l rfl ?_; rintro _ _ ⟨rfl, rfl⟩)
  refine o_give (g_assign (evv rfl)) rfl rfl ?_
  refine o_nil ?_
  refine c_code ?_
  refine r_seq ?_
  refine r_seq ?_
  rw [textR]
  generalize (numR s).1 = n at hn ⊢
  generalize (numR s).2 = s1
  obtain ⟨bs, e⟩ := s1
  refine r_exA ?_
  rintro ⟨⟨v, w, full⟩, hr⟩
  dsimp only at hr
  haveI := hr.one (F := F)
  simp only [inX, List.cons_append, List.nil_append]
  by_cases he : e = 0
  · subst he
    rw [if_pos rfl]
    refine r_region (id := 2) ?_
    refine o_give (g_move (evv rfl)) rfl rfl ?_
    refine o_give (g_pnil TyU.h (evv rfl) (evv rfl) (by simp) (by rfl)) rfl rfl ?_
    refine o_give (g_move (evv rfl)) rfl rfl ?_
    refine o_gyes rfl ?_
    refine o_give (g_move (evv rfl)) rfl rfl ?_
    refine o_gyes rfl ?_
    refine o_give (g_nil (evv rfl)) rfl rfl ?_
    refine o_gyes rfl ?_
    refine o_give (g_fld (evv rfl)) rfl rfl ?_
    refine o_gyes rfl ?_
    refine o_give (g_load (evv rfl) (by rfl) (by rfl)) rfl rfl ?_
    refine o_gyes rfl ?_
    refine o_give (g_bin (evv rfl) (evv rfl) (by rfl)) rfl rfl ?_
    refine o_give (g_pick (b := false) (evv rfl) (fun h => by cases h) (fun _ => (evv rfl))) rfl rfl ?_
    refine o_nil ?_
    refine c_code ?_
    refine r_cond_false rfl ?_
    refine r_skip ?_
    refine c_code ?_
    refine r_seq ?_
    refine r_seq ?_
    refine r_region (id := 4) ?_
    refine o_give (g_move (evv rfl)) rfl rfl ?_
    refine o_give (g_move (evv rfl)) rfl rfl ?_
    refine o_give (g_max2 (evv rfl) (evv rfl)) rfl rfl ?_
    refine o_giveN (g_conv TyU.h TyU.h (evv rfl)) (by simp only [inR]; omega) rfl ?_
    refine o_give (g_bin (evv rfl) (evv rfl) (by rfl)) rfl rfl ?_
    refine o_nil ?_
    refine c_code ?_
    refine r_cond rfl (fun hc => ?_) (fun hc => ?_)
    · have hc := of_decide_eq_true hc
      rw [if_pos hc]
      refine r_seq ?_
      refine r_ent _ (inA_shut (s := ⟨bs, 0⟩) hr) ?_
      refine r_region (id := 5) ?_
      refine o_give (g_move (evv rfl)) rfl rfl ?_
      (refine o_call rfl _ (Ent.refl _) (fail_l _) rfl ?_; rintro _ _ ⟨rfl, rfl⟩)
      refine o_nil ?_
      refine c_code ?_
      refine r_seq ?_
      refine r_region (id := 6) ?_
      refine o_give (g_assign (evv rfl)) rfl rfl ?_
      refine o_nil ?_
      refine c_code ?_
      exact r_ret (rs := [.tmp 4]) rfl rfl _ (Ent.refl _) ⟨rfl, rfl⟩
    · have hc := of_decide_eq_false hc
      rw [if_neg hc]
      refine r_skip ?_
      refine c_code ?_
      refine r_seq ?_
      refine r_ent _ (inA_shut (s := ⟨bs, 0⟩) hr) ?_
      refine r_region (id := 7) ?_
      refine o_give (g_move (evv rfl)) rfl rfl ?_
      refine o_give (g_move (evv rfl)) rfl rfl ?_
      refine o_giveN (g_conv TyU.h TyU.h (evv rfl)) (by simp only [inR]; omega) rfl ?_
      (refine o_call rfl _ (Ent.refl _) (take_z _ _ _ _ (by omega)) rfl ?_; rintro _ _ ⟨⟨⟨vt, wt, ft⟩, hrt⟩, rfl, hvt⟩; simp only [inX, List.cons_append, List.nil_append]; haveI hvt1 := fun F => Rd.one (F := F) hvt)
      refine o_give (g_b2sM (evv rfl)) rfl rfl ?_
      refine o_give (g_assign (evv rfl)) rfl rfl ?_
      refine o_nil ?_
      refine c_code ?_
      exact r_ret (rs := [.tmp 4]) rfl rfl _ (inA_shut hrt) ⟨rfl, rfl⟩
  · have he' : decide (e = 0) = false := decide_eq_false he
    rw [if_neg he]
    refine r_region (id := 2) ?_
    refine o_give (g_move (evv rfl)) rfl rfl ?_
    refine o_give (g_pnil TyU.h (evv rfl) (evv rfl) (by simp) (by rfl)) rfl rfl ?_
    refine o_give (g_move (evv rfl)) rfl rfl ?_
    refine o_gyes rfl ?_
    refine o_give (g_move (evv rfl)) rfl rfl ?_
    refine o_gyes rfl ?_
    refine o_give (g_nil (evv rfl)) rfl rfl ?_
    refine o_gyes rfl ?_
    refine o_give (g_fld (evv rfl)) rfl rfl ?_
    refine o_gyes rfl ?_
    refine o_give (g_load (evv rfl) (by rfl) (by rfl)) rfl rfl ?_
    refine o_gyes rfl ?_
    refine o_give (g_bin (evv rfl) (evv rfl) (by rfl)) rfl rfl ?_
    refine o_give (g_pick (b := false) (evv rfl) (fun h => by cases h) (fun _ => (evv rfl))) rfl rfl ?_
    refine o_nil ?_
    refine c_code ?_
    refine r_cond rfl (fun hc => ?_) (fun hc => ?_)
    · refine r_seq ?_
      refine r_region (id := 3) ?_
      refine o_give (g_assign (evv rfl)) rfl rfl ?_
      refine o_nil ?_
      refine c_code ?_
      exact r_ret (rs := [.tmp 4]) rfl rfl _ (inA_shut (s := ⟨bs, e⟩) hr) ⟨rfl, rfl⟩
    · simp [he'] at hc
theorem inText_l {L : List Atom} {i : Nat} {s : InS} {g : Atom → List Atom} [pk : Pick (inA i) L s g] (most : Int) (hm : -9223372036854775808 ≤ most ∧ most ≤ 9223372036854775807) :
    Fn Try.prog 35 [.pointer (some ⟨i, 0, none⟩), .int .i64 most] L fun v L' => v = str (textR most s).1 ∧ L' = g (inA i (textR most s).2) := Fn.lift1 (fun F => inText_c F i s most hm) pk
def flagR (s : InS) : Bool × InS := if s.err = 0 then (match s.bs with | [] => (false, ⟨[], 20⟩) | c :: r => if 1 < c.toNat then (false, ⟨[], 21⟩) else (decide (c.toNat = 1), ⟨r, 0⟩)) else (false, s)
theorem inFlag_c (F : List Atom) (i : Nat) (s : InS) :
    Fn Try.prog 44 [.pointer (some ⟨i, 0, none⟩)] (inA i s :: F) fun v L' => v = .bool (flagR s).1 ∧ L' = inA i (flagR s).2 :: F := by
  refine fn_intro Try.func44 rfl Try.ntmps44 rfl (fun W0 => ?_)
  simp only [argE]
  obtain ⟨bs, e⟩ := s
  by_cases he : e = 0
  · subst he
    cases bs with
    | nil =>
      refine r_seq ?_
      refine r_region (id := 0) ?_
      refine o_give (g_assign (evv rfl)) rfl rfl ?_
      refine o_nil ?_
      refine c_code ?_
      refine r_seq ?_
      refine r_region (id := 1) ?_
      refine o_give (g_move (evv rfl)) rfl rfl ?_
      (refine o_call rfl _ (Ent.refl _) next_l rfl ?_; rintro _ _ ⟨rfl, rfl⟩)
      refine o_give (g_move (evv rfl)) rfl rfl ?_
      refine o_give (g_extract (evv rfl) (by rfl)) rfl rfl ?_
      refine o_give (g_extract (evv rfl) (by rfl)) rfl rfl ?_
      refine o_give (g_assign (evv rfl)) rfl rfl ?_
      refine o_give (g_assign (evv rfl)) rfl rfl ?_
      refine o_nil ?_
      refine c_code ?_
      refine r_seq ?_
      refine r_seq ?_
      refine r_region (id := 2) ?_
      refine o_give (g_move (evv rfl)) rfl rfl ?_
      refine o_give (g_move (evv rfl)) rfl rfl ?_
      refine o_lazy rfl (fun hg => g_move (by first | exact evv rfl | exact evg rfl (by rw [hp]; rfl) | exact evg rfl hp | exact evg rfl hg | exact evg rfl (by first | (simp_all; done) | (simp [*]; done) | fail) | fail)) rfl rfl ?_
      refine o_lazy rfl (fun hg => g_bin (by first | exact evv rfl | exact evg rfl (by rw [hp]; rfl) | exact evg rfl hp | exact evg rfl hg | exact evg rfl (by first | (simp_all; done) | (simp [*]; done) | fail) | fail) (by first | exact evv rfl | exact evg rfl (by rw [hp]; rfl) | exact evg rfl hp | exact evg rfl hg | exact evg rfl (by first | (simp_all; done) | (simp [*]; done) | fail) | fail) (by rfl)) rfl rfl ?_
      refine o_give (g_pick (b := false) (evv rfl) (fun h => by cases h) (fun _ => (evv rfl))) rfl rfl ?_
      refine o_nil ?_
      refine c_code ?_
      refine r_cond_false rfl ?_
      refine r_skip ?_
      refine c_code ?_
      refine r_seq ?_
      refine r_region (id := 5) ?_
      refine o_give (g_move (evv rfl)) rfl rfl ?_
      refine o_give (g_bin (evv rfl) (evv rfl) (by rfl)) rfl rfl ?_
      refine o_give (g_assign (evv rfl)) rfl rfl ?_
      refine o_nil ?_
      refine c_code ?_
      exact r_ret (rs := [.tmp 2]) rfl rfl _ (Ent.refl _) ⟨rfl, rfl⟩
    | cons c r =>
      have hc8 : c.toNat < 256 := c.toNat_lt
      refine r_seq ?_
      refine r_region (id := 0) ?_
      refine o_give (g_assign (evv rfl)) rfl rfl ?_
      refine o_nil ?_
      refine c_code ?_
      refine r_seq ?_
      refine r_region (id := 1) ?_
      refine o_give (g_move (evv rfl)) rfl rfl ?_
      (refine o_call rfl _ (Ent.refl _) next_l rfl ?_; rintro _ _ ⟨rfl, rfl⟩)
      refine o_give (g_move (evv rfl)) rfl rfl ?_
      refine o_give (g_extract (evv rfl) (by rfl)) rfl rfl ?_
      refine o_give (g_extract (evv rfl) (by rfl)) rfl rfl ?_
      refine o_give (g_assign (evv rfl)) rfl rfl ?_
      refine o_give (g_assign (evv rfl)) rfl rfl ?_
      refine o_nil ?_
      refine c_code ?_
      refine r_seq ?_
      refine r_seq ?_
      refine r_region (id := 2) ?_
      refine o_give (g_move (evv rfl)) rfl rfl ?_
      refine o_give (g_move (evv rfl)) rfl rfl ?_
      refine o_gyes rfl ?_
      refine o_give (g_move (evv rfl)) rfl rfl ?_
      refine o_gyes rfl ?_
      refine o_give (g_bin (evv rfl) (evv rfl) (by rfl)) rfl rfl ?_
      refine o_give (g_pick (b := true) (evv rfl) (fun _ => (evv rfl)) (fun h => by cases h)) rfl rfl ?_
      refine o_nil ?_
      refine c_code ?_
      refine r_cond rfl (fun hc => ?_) (fun hc => ?_)
      · simp only [Bool.true_and, decide_eq_true_eq] at hc
        have e : flagR ⟨c :: r, 0⟩ = (false, ⟨[], 21⟩) := by simp only [flagR, if_true]; rw [if_pos (by omega)]
        rw [e]
        refine r_seq ?_
        refine r_region (id := 3) ?_
        refine o_give (g_move (evv rfl)) rfl rfl ?_
        (refine o_call rfl _ (Ent.refl _) (fail_l _) rfl ?_; rintro _ _ ⟨rfl, rfl⟩)
        refine o_nil ?_
        refine c_code ?_
        refine r_seq ?_
        refine r_region (id := 4) ?_
        refine o_give (g_assign (evv rfl)) rfl rfl ?_
        refine o_nil ?_
        refine c_code ?_
        exact r_ret (rs := [.tmp 2]) rfl rfl _ (Ent.refl _) ⟨rfl, rfl⟩
      · simp only [Bool.true_and, decide_eq_false_iff_not] at hc
        have e : flagR ⟨c :: r, 0⟩ = (decide (c.toNat = 1), ⟨r, 0⟩) := by simp only [flagR, if_true]; rw [if_neg (by omega)]
        rw [e]
        refine r_skip ?_
        refine c_code ?_
        refine r_seq ?_
        refine r_region (id := 5) ?_
        refine o_give (g_move (evv rfl)) rfl rfl ?_
        refine o_give (g_bin (evv rfl) (evv rfl) (by rfl)) rfl rfl ?_
        refine o_give (g_assign (evv rfl)) rfl rfl ?_
        refine o_nil ?_
        refine c_code ?_
        have e2 : decide ((c.toNat : Int) = 1) = decide (c.toNat = 1) := by congr 1; apply propext; omega
        rw [e2]
        exact r_ret (rs := [.tmp 2]) rfl rfl _ (Ent.refl _) ⟨rfl, rfl⟩
  · have hV : nextV ⟨bs, e⟩ = .tuple #[.int .u8 0, .bool false] := by simp only [nextV, if_neg he]
    have hS : nextS ⟨bs, e⟩ = ⟨bs, e⟩ := by simp only [nextS, if_neg he]
    have hR : flagR ⟨bs, e⟩ = (false, ⟨bs, e⟩) := by simp only [flagR, if_neg he]
    rw [hR]
    refine r_seq ?_
    refine r_region (id := 0) ?_
    refine o_give (g_assign (evv rfl)) rfl rfl ?_
    refine o_nil ?_
    refine c_code ?_
    refine r_seq ?_
    refine r_region (id := 1) ?_
    refine o_give (g_move (evv rfl)) rfl rfl ?_
    (refine o_call rfl _ (Ent.refl _) next_l rfl ?_; rintro _ _ ⟨rfl, rfl⟩)
    refine o_give (g_move (evv rfl)) rfl rfl ?_
    rw [hV, hS]
    refine o_give (g_extract (evv rfl) (by rfl)) rfl rfl ?_
    refine o_give (g_extract (evv rfl) (by rfl)) rfl rfl ?_
    refine o_give (g_assign (evv rfl)) rfl rfl ?_
    refine o_give (g_assign (evv rfl)) rfl rfl ?_
    refine o_nil ?_
    refine c_code ?_
    refine r_seq ?_
    refine r_seq ?_
    refine r_region (id := 2) ?_
    refine o_give (g_move (evv rfl)) rfl rfl ?_
    refine o_give (g_move (evv rfl)) rfl rfl ?_
    refine o_lazy rfl (fun hg => g_move (by first | exact evv rfl | exact evg rfl (by rw [hp]; rfl) | exact evg rfl hp | exact evg rfl hg | exact evg rfl (by first | (simp_all; done) | (simp [*]; done) | fail) | fail)) rfl rfl ?_
    refine o_lazy rfl (fun hg => g_bin (by first | exact evv rfl | exact evg rfl (by rw [hp]; rfl) | exact evg rfl hp | exact evg rfl hg | exact evg rfl (by first | (simp_all; done) | (simp [*]; done) | fail) | fail) (by first | exact evv rfl | exact evg rfl (by rw [hp]; rfl) | exact evg rfl hp | exact evg rfl hg | exact evg rfl (by first | (simp_all; done) | (simp [*]; done) | fail) | fail) (by rfl)) rfl rfl ?_
    refine o_give (g_pick (b := false) (evv rfl) (fun h => by cases h) (fun _ => (evv rfl))) rfl rfl ?_
    refine o_nil ?_
    refine c_code ?_
    refine r_cond_false rfl ?_
    refine r_skip ?_
    refine c_code ?_
    refine r_seq ?_
    refine r_region (id := 5) ?_
    refine o_give (g_move (evv rfl)) rfl rfl ?_
    refine o_give (g_bin (evv rfl) (evv rfl) (by rfl)) rfl rfl ?_
    refine o_give (g_assign (evv rfl)) rfl rfl ?_
    refine o_nil ?_
    refine c_code ?_
    exact r_ret (rs := [.tmp 2]) rfl rfl _ (Ent.refl _) ⟨rfl, rfl⟩
theorem inFlag_l {L : List Atom} {i : Nat} {s : InS} {g : Atom → List Atom} [pk : Pick (inA i) L s g] :
    Fn Try.prog 44 [.pointer (some ⟨i, 0, none⟩)] L fun v L' => v = .bool (flagR s).1 ∧ L' = g (inA i (flagR s).2) := Fn.lift1 (fun F => inFlag_c F i s) pk
def pad32 (l : List UInt8) : List UInt8 := l ++ List.replicate (32 - l.length) 0
def digestR (s : InS) : List UInt8 × InS := (pad32 (takeR 32 s).1, (takeR 32 s).2)
theorem takeR_len (n : Nat) (s : InS) : (takeR n s).1.length ≤ n := by
  unfold takeR
  split
  · split <;> simp
    omega
  · simp
theorem digestR_len (s : InS) : (digestR s).1.length = 32 := by have := takeR_len 32 s; simp [digestR, pad32]; omega
instance (s : InS) : LenIs (digestR s).1 32 := ⟨digestR_len s, by decide⟩
end VK
