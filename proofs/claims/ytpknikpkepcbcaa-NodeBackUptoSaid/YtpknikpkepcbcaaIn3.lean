/- What In reads: texts, flags, digests. Conditions: none. -/
import Derived.Test.YtpknikpkepcbcaaIn2
namespace VK
open Go Go.Proofs
set_option linter.unusedSimpArgs false
set_option linter.unusedVariables false
set_option maxRecDepth 100000
set_option maxHeartbeats 40000000

def takeR (n : Nat) (s : InS) : List UInt8 × InS := if s.err = 0 then (if s.bs.length < n then ([], ⟨[], 20⟩) else (s.bs.take n, ⟨s.bs.drop n, 0⟩)) else ([], s)
def TakeP (F : List Atom) (i : Nat) (out : List UInt8) (s' : InS) (v : Value) (L' : List Atom) : Prop :=
  ∃ x, L' = inX i s' x ++ F ∧ Rd [sl x.1.2.1 (mrow by8 5 x.1.2.2)] v (mrow by8 5 out)
theorem take_c (F : List Atom) (i : Nat) (s : InS) (n : Nat) (hn : n ≤ 9223372036854775807) : Fn Try.prog 49 [.pointer (some ⟨i, 0, none⟩), .int .i64 n] (inA i s :: F) (TakeP F i (takeR n s).1 (takeR n s).2) := by
  obtain ⟨bs, e⟩ := s
  refine Fn.exA ?_
  rintro ⟨⟨v, w, full⟩, hr⟩
  dsimp only at hr
  refine fn_intro Try.func49 rfl Try.ntmps49 rfl (fun W0 => ?_)
  haveI := hr.one (F := F)
  simp only [inX, List.cons_append, List.nil_append, argE]
  by_cases he : e = 0
  · subst he
    by_cases hl : bs.length < n
    · have e : takeR n ⟨bs, 0⟩ = ([], ⟨[], 20⟩) := by simp [takeR, hl]
      rw [e]
      refine r_seq ?_
      refine r_region (id := 0) ?_
      refine o_give (g_assign (evv rfl)) rfl rfl ?_
      refine o_nil ?_
      refine c_code ?_
      refine r_seq ?_
      refine r_seq ?_
      refine r_region (id := 1) ?_
      refine o_give (g_move (evv rfl)) rfl rfl ?_
      refine o_give (g_pnil TyU.h (evv rfl) (evv rfl) (by simp) (by rfl)) rfl rfl ?_
      refine o_give (g_move (evv rfl)) rfl rfl ?_
      refine o_gyes rfl ?_
      refine o_give (g_move (evv rfl)) rfl rfl ?_
      refine o_gyes rfl ?_
      refine o_give (g_nil (evv rfl)) rfl rfl ?_
      refine o_gyes rfl ?_
      refine o_give (g_fld (evv rfl)) rfl rfl ?_
      refine o_gyes rfl ?_
      refine o_give (g_load (evv rfl) (by rfl) (by rfl)) rfl rfl ?_
      refine o_gyes rfl ?_
      refine o_give (g_bin (evv rfl) (evv rfl) (by rfl)) rfl rfl ?_
      refine o_give (g_pick (b := false) (evv rfl) (fun h => by cases h) (fun _ => (evv rfl))) rfl rfl ?_
      refine o_nil ?_
      refine c_code ?_
      refine r_cond_false rfl ?_
      refine r_skip ?_
      refine c_code ?_
      refine r_seq ?_
      refine r_seq ?_
      refine r_region (id := 3) ?_
      refine o_give (g_move (evv rfl)) rfl rfl ?_
      refine o_give (g_move (evv rfl)) rfl rfl ?_
      refine o_give (g_nil (evv rfl)) rfl rfl ?_
      refine o_give (g_fld (evv rfl)) rfl rfl ?_
      refine o_give (g_load (evv rfl) (by rfl) (by rfl)) rfl rfl ?_
      refine o_give (g_lenM (evv rfl)) rfl rfl ?_
      refine o_give (g_bin (evv rfl) (evv rfl) (by rfl)) rfl rfl ?_
      refine o_nil ?_
      refine c_code ?_
      refine r_cond rfl (fun hc => ?_) (fun hc => ?_)
      · refine r_seq ?_
        refine r_ent _ (inA_shut (s := ⟨bs, 0⟩) hr) ?_
        refine r_region (id := 4) ?_
        refine o_give (g_move (evv rfl)) rfl rfl ?_
        (refine o_call rfl _ (Ent.refl _) (fail_l _) rfl ?_; rintro _ _ ⟨rfl, rfl⟩)
        refine o_nil ?_
        refine c_code ?_
        refine r_seq ?_
        refine r_region (id := 5) ?_
        refine o_give (g_assign (evv rfl)) rfl rfl ?_
        refine o_nil ?_
        refine c_code ?_
        refine r_exA ?_
        rintro ⟨⟨v2, w2, f2⟩, hr2⟩
        exact r_ret (rs := [.tmp 4]) rfl rfl _ (Ent.refl _) ⟨⟨(v2, w2, f2), hr2⟩, rfl, Rd.nilM by8 _⟩
      · have := of_decide_eq_false hc
        omega
    · have e : takeR n ⟨bs, 0⟩ = (bs.take n, ⟨bs.drop n, 0⟩) := by simp [takeR, hl]
      rw [e]
      refine r_seq ?_
      refine r_region (id := 0) ?_
      refine o_give (g_assign (evv rfl)) rfl rfl ?_
      refine o_nil ?_
      refine c_code ?_
      refine r_seq ?_
      refine r_seq ?_
      refine r_region (id := 1) ?_
      refine o_give (g_move (evv rfl)) rfl rfl ?_
      refine o_give (g_pnil TyU.h (evv rfl) (evv rfl) (by simp) (by rfl)) rfl rfl ?_
      refine o_give (g_move (evv rfl)) rfl rfl ?_
      refine o_gyes rfl ?_
      refine o_give (g_move (evv rfl)) rfl rfl ?_
      refine o_gyes rfl ?_
      refine o_give (g_nil (evv rfl)) rfl rfl ?_
      refine o_gyes rfl ?_
      refine o_give (g_fld (evv rfl)) rfl rfl ?_
      refine o_gyes rfl ?_
      refine o_give (g_load (evv rfl) (by rfl) (by rfl)) rfl rfl ?_
      refine o_gyes rfl ?_
      refine o_give (g_bin (evv rfl) (evv rfl) (by rfl)) rfl rfl ?_
      refine o_give (g_pick (b := false) (evv rfl) (fun h => by cases h) (fun _ => (evv rfl))) rfl rfl ?_
      refine o_nil ?_
      refine c_code ?_
      refine r_cond_false rfl ?_
      refine r_skip ?_
      refine c_code ?_
      refine r_seq ?_
      refine r_seq ?_
      refine r_region (id := 3) ?_
      refine o_give (g_move (evv rfl)) rfl rfl ?_
      refine o_give (g_move (evv rfl)) rfl rfl ?_
      refine o_give (g_nil (evv rfl)) rfl rfl ?_
      refine o_give (g_fld (evv rfl)) rfl rfl ?_
      refine o_give (g_load (evv rfl) (by rfl) (by rfl)) rfl rfl ?_
      refine o_give (g_lenM (evv rfl)) rfl rfl ?_
      refine o_give (g_bin (evv rfl) (evv rfl) (by rfl)) rfl rfl ?_
      refine o_nil ?_
      refine c_code ?_
      refine r_cond rfl (fun hc => ?_) (fun hc => ?_)
      · have := of_decide_eq_true hc
        omega
      · refine r_skip ?_
        refine c_code ?_
        refine r_seq ?_
        refine r_region (id := 6) ?_
        refine o_give (g_move (evv rfl)) rfl rfl ?_
        refine o_give (g_nil (evv rfl)) rfl rfl ?_
        refine o_give (g_fld (evv rfl)) rfl rfl ?_
        refine o_give (g_load (evv rfl) (by rfl) (by rfl)) rfl rfl ?_
        refine o_give (g_move (evv rfl)) rfl rfl ?_
        refine o_give (g_subM (evv rfl) _ _ bnd_none (bnd_some (evv rfl) rfl) (by rfl) (by omega) (by omega)) rfl rfl ?_
        refine o_give (g_assign (evv rfl)) rfl rfl ?_
        refine o_nil ?_
        refine c_code ?_
        refine r_seq ?_
        refine r_region (id := 7) ?_
        refine o_give (g_move (evv rfl)) rfl rfl ?_
        refine o_give (g_move (evv rfl)) rfl rfl ?_
        refine o_give (g_nil (evv rfl)) rfl rfl ?_
        refine o_give (g_fld (evv rfl)) rfl rfl ?_
        refine o_give (g_load (evv rfl) (by rfl) (by rfl)) rfl rfl ?_
        refine o_give (g_move (evv rfl)) rfl rfl ?_
        refine o_give (g_subM (evv rfl) _ _ (bnd_some (evv rfl) rfl) bnd_none (by rfl) (by omega) (by omega)) rfl rfl ?_
        refine o_give (g_nil (evv rfl)) rfl rfl ?_
        refine o_give (g_fld (evv rfl)) rfl rfl ?_
        refine o_store1 (evv rfl) (evv rfl) (by rfl) (by rfl) (by rfl) ?_
        refine o_nil ?_
        refine c_code ?_
        refine r_seq ?_
        refine r_region (id := 8) ?_
        refine o_give (g_move (evv rfl)) rfl rfl ?_
        refine o_give (g_assign (evv rfl)) rfl rfl ?_
        refine o_nil ?_
        refine c_code ?_
        refine r_ret (rs := [.tmp 4]) rfl rfl _ (Ent.refl _) ⟨⟨(_, w, full), (Rd.subM (rd := hr)).as ?_⟩, rfl, (Rd.subM (rd := hr)).as (by simp)⟩
        rw [List.take_of_length_le (by simp)]
  · have he' : decide (e = 0) = false := decide_eq_false he
    have e1 : takeR n ⟨bs, e⟩ = ([], ⟨bs, e⟩) := by simp [takeR, he]
    rw [e1]
    refine r_seq ?_
    refine r_region (id := 0) ?_
    refine o_give (g_assign (evv rfl)) rfl rfl ?_
    refine o_nil ?_
    refine c_code ?_
    refine r_seq ?_
    refine r_seq ?_
    refine r_region (id := 1) ?_
    refine o_give (g_move (evv rfl)) rfl rfl ?_
    refine o_give (g_pnil TyU.h (evv rfl) (evv rfl) (by simp) (by rfl)) rfl rfl ?_
    refine o_give (g_move (evv rfl)) rfl rfl ?_
    refine o_gyes rfl ?_
    refine o_give (g_move (evv rfl)) rfl rfl ?_
    refine o_gyes rfl ?_
    refine o_give (g_nil (evv rfl)) rfl rfl ?_
    refine o_gyes rfl ?_
    refine o_give (g_fld (evv rfl)) rfl rfl ?_
    refine o_gyes rfl ?_
    refine o_give (g_load (evv rfl) (by rfl) (by rfl)) rfl rfl ?_
    refine o_gyes rfl ?_
    refine o_give (g_bin (evv rfl) (evv rfl) (by rfl)) rfl rfl ?_
    refine o_give (g_pick (b := false) (evv rfl) (fun h => by cases h) (fun _ => (evv rfl))) rfl rfl ?_
    refine o_nil ?_
    refine c_code ?_
    refine r_cond rfl (fun hc => ?_) (fun hc => ?_)
    · refine r_seq ?_
      refine r_region (id := 2) ?_
      refine o_give (g_assign (evv rfl)) rfl rfl ?_
      refine o_nil ?_
      refine c_code ?_
      exact r_ret (rs := [.tmp 4]) rfl rfl _ (Ent.refl _) ⟨⟨(v, w, full), hr⟩, rfl, Rd.nilM by8 _⟩
    · simp [he'] at hc
theorem take_z (F : List Atom) (i : Nat) (s : InS) (z : Int) (hn : 0 ≤ z ∧ z ≤ 9223372036854775807) : Fn Try.prog 49 [.pointer (some ⟨i, 0, none⟩), .int .i64 z] (inA i s :: F) (TakeP F i (takeR z.toNat s).1 (takeR z.toNat s).2) := by
  have h := take_c F i s z.toNat (by omega)
  rwa [Int.toNat_of_nonneg hn.1] at h
def textR (most : Int) (s : InS) : List UInt8 × InS := if (numR s).2.err = 0 then (if max most 0 < (numR s).1 then ([], ⟨[], 2⟩) else takeR (numR s).1 (numR s).2) else ([], (numR s).2)
theorem inText_c (F : List Atom) (i : Nat) (s : InS) (most : Int) (hm : -9223372036854775808 ≤ most ∧ most ≤ 9223372036854775807) :
    Fn Try.prog 41 [.pointer (some ⟨i, 0, none⟩), .int .i64 most] (inA i s :: F) fun v L' => v = str (textR most s).1 ∧ L' = inA i (textR most s).2 :: F := by
  refine fn_intro Try.func41 rfl Try.ntmps41 rfl (fun W0 => ?_)
  simp only [argE]
  have hn := numR_le s
  refine r_seq ?_
  refine r_region (id := 0) ?_
  refine o_give (g_assign (evv rfl)) rfl rfl ?_
  refine o_nil ?_
  refine c_code ?_
  refine r_seq ?_
  refine r_region (id := 1) ?_
  refine o_give (g_move (evv rfl)) rfl rfl ?_
  (refine o_call rfl _ (Ent.refl _) inNum_l rfl ?_; rintro _ _ ⟨rfl, rfl⟩)
  refine o_give (g_assign (evv rfl)) rfl rfl ?_
  refine o_nil ?_
  refine c_code ?_
  refine r_seq ?_
  refine r_seq ?_
  rw [textR]
  generalize (numR s).1 = n at hn ⊢
  generalize (numR s).2 = s1
  obtain ⟨bs, e⟩ := s1
  refine r_exA ?_
  rintro ⟨⟨v, w, full⟩, hr⟩
  dsimp only at hr
  haveI := hr.one (F := F)
  simp only [inX, List.cons_append, List.nil_append]
  by_cases he : e = 0
  · subst he
    rw [if_pos rfl]
    refine r_region (id := 2) ?_
    refine o_give (g_move (evv rfl)) rfl rfl ?_
    refine o_give (g_pnil TyU.h (evv rfl) (evv rfl) (by simp) (by rfl)) rfl rfl ?_
    refine o_give (g_move (evv rfl)) rfl rfl ?_
    refine o_gyes rfl ?_
    refine o_give (g_move (evv rfl)) rfl rfl ?_
    refine o_gyes rfl ?_
    refine o_give (g_nil (evv rfl)) rfl rfl ?_
    refine o_gyes rfl ?_
    refine o_give (g_fld (evv rfl)) rfl rfl ?_
    refine o_gyes rfl ?_
    refine o_give (g_load (evv rfl) (by rfl) (by rfl)) rfl rfl ?_
    refine o_gyes rfl ?_
    refine o_give (g_bin (evv rfl) (evv rfl) (by rfl)) rfl rfl ?_
    refine o_give (g_pick (b := false) (evv rfl) (fun h => by cases h) (fun _ => (evv rfl))) rfl rfl ?_
    refine o_nil ?_
    refine c_code ?_
    refine r_cond_false rfl ?_
    refine r_skip ?_
    refine c_code ?_
    refine r_seq ?_
    refine r_seq ?_
    refine r_region (id := 4) ?_
    refine o_give (g_move (evv rfl)) rfl rfl ?_
    refine o_give (g_move (evv rfl)) rfl rfl ?_
    refine o_give (g_max2 (evv rfl) (evv rfl)) rfl rfl ?_
    refine o_giveN (g_conv TyU.h TyU.h (evv rfl)) (by simp only [inR]; omega) rfl ?_
    refine o_give (g_bin (evv rfl) (evv rfl) (by rfl)) rfl rfl ?_
    refine o_nil ?_
    refine c_code ?_
    refine r_cond rfl (fun hc => ?_) (fun hc => ?_)
    · have hc := of_decide_eq_true hc
      rw [if_pos hc]
      refine r_seq ?_
      refine r_ent _ (inA_shut (s := ⟨bs, 0⟩) hr) ?_
      refine r_region (id := 5) ?_
      refine o_give (g_move (evv rfl)) rfl rfl ?_
      (refine o_call rfl _ (Ent.refl _) (fail_l _) rfl ?_; rintro _ _ ⟨rfl, rfl⟩)
      refine o_nil ?_
      refine c_code ?_
      refine r_seq ?_
      refine r_region (id := 6) ?_
      refine o_give (g_assign (evv rfl)) rfl rfl ?_
      refine o_nil ?_
      refine c_code ?_
      exact r_ret (rs := [.tmp 4]) rfl rfl _ (Ent.refl _) ⟨rfl, rfl⟩
    · have hc := of_decide_eq_false hc
      rw [if_neg hc]
      refine r_skip ?_
      refine c_code ?_
      refine r_seq ?_
      refine r_ent _ (inA_shut (s := ⟨bs, 0⟩) hr) ?_
      refine r_region (id := 7) ?_
      refine o_give (g_move (evv rfl)) rfl rfl ?_
      refine o_give (g_move (evv rfl)) rfl rfl ?_
      refine o_giveN (g_conv TyU.h TyU.h (evv rfl)) (by simp only [inR]; omega) rfl ?_
      (refine o_call rfl _ (Ent.refl _) (take_z _ _ _ _ (by omega)) rfl ?_; rintro _ _ ⟨⟨⟨vt, wt, ft⟩, hrt⟩, rfl, hvt⟩; simp only [inX, List.cons_append, List.nil_append]; haveI hvt1 := fun F => Rd.one (F := F) hvt)
      refine o_give (g_b2sM (evv rfl)) rfl rfl ?_
      refine o_give (g_assign (evv rfl)) rfl rfl ?_
      refine o_nil ?_
      refine c_code ?_
      exact r_ret (rs := [.tmp 4]) rfl rfl _ (inA_shut hrt) ⟨rfl, rfl⟩
  · have he' : decide (e = 0) = false := decide_eq_false he
    rw [if_neg he]
    refine r_region (id := 2) ?_
    refine o_give (g_move (evv rfl)) rfl rfl ?_
    refine o_give (g_pnil TyU.h (evv rfl) (evv rfl) (by simp) (by rfl)) rfl rfl ?_
    refine o_give (g_move (evv rfl)) rfl rfl ?_
    refine o_gyes rfl ?_
    refine o_give (g_move (evv rfl)) rfl rfl ?_
    refine o_gyes rfl ?_
    refine o_give (g_nil (evv rfl)) rfl rfl ?_
    refine o_gyes rfl ?_
    refine o_give (g_fld (evv rfl)) rfl rfl ?_
    refine o_gyes rfl ?_
    refine o_give (g_load (evv rfl) (by rfl) (by rfl)) rfl rfl ?_
    refine o_gyes rfl ?_
    refine o_give (g_bin (evv rfl) (evv rfl) (by rfl)) rfl rfl ?_
    refine o_give (g_pick (b := false) (evv rfl) (fun h => by cases h) (fun _ => (evv rfl))) rfl rfl ?_
    refine o_nil ?_
    refine c_code ?_
    refine r_cond rfl (fun hc => ?_) (fun hc => ?_)
    · refine r_seq ?_
      refine r_region (id := 3) ?_
      refine o_give (g_assign (evv rfl)) rfl rfl ?_
      refine o_nil ?_
      refine c_code ?_
      exact r_ret (rs := [.tmp 4]) rfl rfl _ (inA_shut (s := ⟨bs, e⟩) hr) ⟨rfl, rfl⟩
    · simp [he'] at hc
theorem inText_l {L : List Atom} {i : Nat} {s : InS} {g : Atom → List Atom} [pk : Pick (inA i) L s g] (most : Int) (hm : -9223372036854775808 ≤ most ∧ most ≤ 9223372036854775807) :
    Fn Try.prog 41 [.pointer (some ⟨i, 0, none⟩), .int .i64 most] L fun v L' => v = str (textR most s).1 ∧ L' = g (inA i (textR most s).2) := Fn.lift1 (fun F => inText_c F i s most hm) pk
def flagR (s : InS) : Bool × InS := if s.err = 0 then (match s.bs with | [] => (false, ⟨[], 20⟩) | c :: r => if 1 < c.toNat then (false, ⟨[], 21⟩) else (decide (c.toNat = 1), ⟨r, 0⟩)) else (false, s)
def pad32 (l : List UInt8) : List UInt8 := l ++ List.replicate (32 - l.length) 0
def digestR (s : InS) : List UInt8 × InS := (pad32 (takeR 32 s).1, (takeR 32 s).2)
theorem takeR_len (n : Nat) (s : InS) : (takeR n s).1.length ≤ n := by
  unfold takeR
  split
  · split <;> simp
    omega
  · simp
theorem digestR_len (s : InS) : (digestR s).1.length = 32 := by have := takeR_len 32 s; simp [digestR, pad32]; omega
instance (s : InS) : LenIs (digestR s).1 32 := ⟨digestR_len s, by decide⟩
theorem inDigest_c (F : List Atom) (i : Nat) (s : InS) :
    Fn Try.prog 43 [.pointer (some ⟨i, 0, none⟩)] (inA i s :: F) fun v L' => v = agg (bys (digestR s).1) ∧ L' = inA i (digestR s).2 :: F := by
  refine fn_intro Try.func43 rfl Try.ntmps43 rfl (fun W0 => ?_)
  simp only [argE]
  have hl := takeR_len 32 s
  rw [digestR]
  refine r_seq ?_
  refine r_region (id := 0) ?_
  refine o_alloc rfl rfl (fun _ => ?_)
  refine o_nil ?_
  refine c_code ?_
  refine r_seq ?_
  refine r_region (id := 1) ?_
  refine o_alloc rfl rfl (fun _ => ?_)
  refine o_nil ?_
  refine c_code ?_
  refine r_seq ?_
  rename_i b1 b2
  refine r_ent (inA i s :: blk b2 ⟨bys (List.replicate 32 0), 52⟩ :: blk b1 ⟨bys (List.replicate 32 0), 52⟩ :: F) (Ent.trans (Ent.cons Ent.swap) Ent.swap) ?_
  refine r_draw (id := 2) Mixed.h ?_
  refine d_take (i := 0) (by kernel_rfl) rfl (fun W0 => g_arr (evv rfl)) rfl ?_
  refine d_take (i := 1) (by kernel_rfl) rfl (fun W0 => g_move (evv rfl)) rfl ?_
  refine d_one (i := 2) (by kernel_rfl) rfl ?_
  (refine o_call rfl _ (Ent.refl _) (take_z _ _ _ _ (by omega)) rfl ?_; rintro _ _ ⟨⟨⟨vt, wt, ft⟩, hrt⟩, rfl, hvt⟩; simp only [inX, List.cons_append, List.nil_append]; haveI hvt1 := fun F => Rd.one (F := F) hvt)
  refine o_nil ?_
  refine d_one (i := 3) (by kernel_rfl) rfl ?_
  refine o_copyM (evv rfl) (evv rfl) inferInstance (by rfl) (by first | (simp [bys]; done) | (simp only [bys, List.length_map, List.length_replicate]; omega) | decide | fail) rfl ?_
  refine o_nil ?_
  refine d_done (by kernel_rfl) ?_
  refine c_code ?_
  refine r_seq ?_
  have e1 : List.map by8 (List.take (min (takeR (Int.toNat 32) s).fst.length 32) (takeR (Int.toNat 32) s).fst) ++ List.drop (min (takeR (Int.toNat 32) s).fst.length 32) (bys (List.replicate 32 0)) = bys (pad32 (takeR 32 s).1) := by
    show List.map by8 (List.take (min (takeR 32 s).fst.length 32) (takeR 32 s).fst) ++ List.drop (min (takeR 32 s).fst.length 32) (bys (List.replicate 32 0)) = _
    rw [Nat.min_eq_left hl, List.take_of_length_le (Nat.le_refl _), pad32, bys_append]
    simp only [bys, List.map_replicate, List.drop_replicate]
  rw [e1]
  have hpl : (pad32 (takeR 32 s).1).length = 32 := by simp [pad32]; omega
  refine r_region (id := 3) ?_
  refine o_give (g_loadW (evv rfl) (by rfl) (by first | rfl | assumption | (simp [bys, *]; done) | fail)) rfl rfl ?_
  refine o_storeW (evv rfl) (evv rfl) (by first | rfl | assumption | (simp [bys, *]; done) | fail) (by first | (intro _ _ _; exact bys_one _) | exact AllOne.h | (intro _ _ _ u hu; simp at hu; rcases hu with rfl | rfl | rfl | rfl | rfl | rfl | rfl | rfl <;> rfl) | fail) (by first | rfl | (simp [bys, *]; done) | (simp only [bys, List.length_map, *]; rfl) | fail) ?_
  refine o_nil ?_
  refine c_code ?_
  exact r_retC (rs := [.cell 2 52]) rfl (ro_agg rfl rfl (by simp [bys, hpl]) ro_nil) _ (Ent.trans (Ent.cons (Ent.cons (Ent.drop.trans Ent.drop))) (inA_shut hrt)) ⟨rfl, rfl⟩
theorem inDigest_l {L : List Atom} {i : Nat} {s : InS} {g : Atom → List Atom} [pk : Pick (inA i) L s g] :
    Fn Try.prog 43 [.pointer (some ⟨i, 0, none⟩)] L fun v L' => v = agg (bys (digestR s).1) ∧ L' = g (inA i (digestR s).2) := Fn.lift1 (fun F => inDigest_c F i s) pk
end VK
