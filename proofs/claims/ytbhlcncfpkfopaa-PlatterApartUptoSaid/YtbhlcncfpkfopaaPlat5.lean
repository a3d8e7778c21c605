/- What a call of a script does to the reference platter. Conditions: few bytes. -/
import Derived.Test.YtbhlcncfpkfopaaPlat4
namespace VK
open Go Go.Proofs
set_option linter.unusedSimpArgs false
set_option linter.unusedVariables false
set_option maxRecDepth 100000
set_option maxHeartbeats 40000000
/-- a call of a script -/
structure RCall where
  kind : Int
  area : Int
  bv : Value
  b : List UInt8
  n : Int
  kv : Value
  ks : List Int
instance : Inhabited RCall := ⟨⟨0, 0, .slice none 0 0, [], 0, .slice none 0 0, []⟩⟩
def rcallC (c : RCall) : List Value := [.int .i64 c.kind, .int .i64 c.area, c.bv, .int .i64 c.n, c.kv]
instance : LenC rcallC 5 := ⟨fun _ => rfl⟩
def kindQ (c : RCall) : Int := c.kind % 18446744073709551616 % 6
def doT (x : Pt) (c : RCall) : Int × Pt :=
  if kindQ c = 4 then (0, armT x c.n) else if kindQ c = 5 then (0, cutT x c.ks) else if kindQ c = 0 then appT x c.area c.b else if kindQ c = 1 then synT x c.area else if kindQ c = 2 then wipT x c.area else flpT x
class RdC (L : List Atom) (c : RCall) : Prop where
  b : Rd L c.bv (bR c.b)
  k : Rd L c.kv (mrow i64v 3 c.ks)
instance {L : List Atom} {c : RCall} [h : RdC L c] : Rd L c.bv (bR c.b) := h.b
instance {L : List Atom} {c : RCall} [h : RdC L c] : Rd L c.kv (mrow i64v 3 c.ks) := h.k
instance (priority := low) {A : Atom} {L : List Atom} {c : RCall} [h : RdC L c] : RdC (A :: L) c := ⟨h.b.ent Ent.drop, h.k.ent Ent.drop⟩
theorem Ent.of_eq {A B : List Atom} (h : A = B) : Ent A B := h ▸ Ent.refl _
theorem goes_b (F : List Atom) (r : Nat) (b0 b1 : List UInt8) (s0 s1 lv am : Nat) (ha : am ≤ 9223372036854775807) :
    Fn Try.prog 28 [.pointer (some ⟨r, 0, none⟩)] (blk r (rpB b0 b1 s0 s1 lv am false) :: F) fun v L' => v = .bool (decide (am = 1)) ∧ L' = blk r (rpB b0 b1 s0 s1 lv (am - 1) (decide (am = 1))) :: F :=
  goes_c F r ⟨b0, s0, b1, s1, lv, am, false⟩ rfl ha
theorem chg_arg {x : Pt} {call at_ : Int} (h : call ≠ 3) (h2 : at_ < 0 ∨ 1 < at_) : chg x call at_ = (1, false, x) := by
  unfold chg; rw [if_pos (by omega)]
theorem chg_down {x : Pt} {call at_ : Int} (h : call = 3 ∨ at_ = 0 ∨ at_ = 1) (hd : x.down = true) : chg x call at_ = (170, false, x) := by
  unfold chg; rw [if_neg (by omega), if_pos hd]
theorem chg_wipe {x : Pt} {at_ : Int} (h : at_ = 0 ∨ at_ = 1) (hd : x.down = false) (hl : at_ = x.live) : chg x 2 at_ = (6, false, x) := by
  unfold chg; rw [if_neg (by omega), if_neg (by simp [hd]), if_pos ⟨rfl, hl⟩]
theorem chg_flip {x : Pt} (hd : x.down = false) (hl : x.s (1 - x.live) < (x.b (1 - x.live)).length) : chg x 3 0 = (6, false, x) := by
  unfold chg; rw [if_neg (by omega), if_neg (by simp [hd]), if_neg (by omega), if_pos ⟨rfl, hl⟩]
theorem chg_go {x : Pt} {call at_ : Int} (h : call = 3 ∨ at_ = 0 ∨ at_ = 1) (hd : x.down = false) (h2 : ¬ (call = 2 ∧ at_ = x.live)) (h3 : ¬ (call = 3 ∧ x.s (1 - x.live) < (x.b (1 - x.live)).length)) : chg x call at_ = (if x.armed = 1 then 170 else 0, true, tick x) := by
  unfold chg; rw [if_neg (by omega), if_neg (by simp [hd]), if_neg h2, if_neg h3]
theorem doT_0 {x : Pt} {c : RCall} (h : kindQ c = 0) : doT x c = appT x c.area c.b := by simp [doT, h]
theorem doT_1 {x : Pt} {c : RCall} (h : kindQ c = 1) : doT x c = synT x c.area := by simp [doT, h]
theorem doT_2 {x : Pt} {c : RCall} (h : kindQ c = 2) : doT x c = wipT x c.area := by simp [doT, h]
theorem doT_3 {x : Pt} {c : RCall} (h : kindQ c = 3) : doT x c = flpT x := by simp [doT, h]
theorem rDo_c (F : List Atom) (r : Nat) (x : Pt) (h : x.ok) (c : RCall) [rd : RdC F c] (hk : ∀ k ∈ c.ks, inR .i64 k) (hb : c.b.length ≤ 1000000000) (hn : inR .i64 c.n) :
    Fn Try.prog 19 [.pointer (some ⟨r, 0, none⟩), agg (rcallC c)] (rp r x :: F) fun v L' => v = .int .i64 (doT x c).1 ∧ L' = rp r (doT x c).2 :: F := by
  have hok := h
  obtain ⟨hl, ha, hbb, hn0, hn1, har⟩ := h
  simp only [inR] at hn
  have rb := rd.b
  have rk := rd.k
  refine fn_intro Try.func19 rfl Try.ntmps19 rfl (fun W0 => ?_)
  simp only [argE]
  have hk5 : c.kind % 18446744073709551616 % 6 = kindQ c := rfl
  refine r_seq ?_
  refine r_region (id := 0) ?_
  refine o_boxA (evv rfl) rfl (fun _ => ?_)
  refine o_give (g_assign (evv rfl)) rfl rfl ?_
  refine o_nil ?_
  refine c_code ?_
  refine r_seq ?_
  refine r_region (id := 1) ?_
  refine o_give (g_fld (evv rfl)) rfl rfl ?_
  refine o_give (g_load (evv rfl) (by rfl) (by rfl)) rfl rfl ?_
  refine o_giveU (g_conv TyU.h TyU.h (evv rfl)) (by rfl) rfl ?_
  refine o_give (g_remP (evv rfl) (evv rfl) (by omega) (by omega)) rfl rfl ?_
  refine o_giveN (g_conv TyU.h TyU.h (evv rfl)) (by simp only [inR]; omega) rfl ?_
  refine o_give (g_assign (evv rfl)) rfl rfl ?_
  refine o_nil ?_
  refine c_code ?_
  refine r_seq ?_
  refine r_seq ?_
  rw [hk5]
  rename_i q
  generalize hkc : kindQ c = kc
  have hkr : 0 ≤ kc ∧ kc < 6 := by rw [← hkc]; unfold kindQ; omega
  obtain ⟨kind, area, bv, b, n, kv, ks⟩ := c
  dsimp only at rb rk hk hb hn
  obtain ⟨b0, s0, b1, s1, lv, am, dn⟩ := x
  dsimp only at hl ha hbb hn0 hn1 har
  refine r_ent (blk q ⟨[.int .i64 kind, .int .i64 area, bv, .int .i64 n, kv], 47⟩ :: blk r (rpB b0 b1 s0 s1 lv am dn) :: F) (Ent.refl _) ?_
  rcases (by omega : kc = 0 ∨ kc = 1 ∨ kc = 2 ∨ kc = 3 ∨ kc = 4 ∨ kc = 5) with rfl | rfl | rfl | rfl | rfl | rfl
  · refine r_region (id := 2) ?_
    refine o_give (g_move (evv rfl)) rfl rfl ?_
    refine o_give (g_bin (evv rfl) (evv rfl) (by rfl)) rfl rfl ?_
    refine o_nil ?_
    refine c_code ?_
    refine r_cond_false rfl ?_
    refine r_skip ?_
    refine c_code ?_
    refine r_seq ?_
    refine r_seq ?_
    refine r_region (id := 8) ?_
    refine o_give (g_move (evv rfl)) rfl rfl ?_
    refine o_give (g_bin (evv rfl) (evv rfl) (by rfl)) rfl rfl ?_
    refine o_nil ?_
    refine c_code ?_
    refine r_cond_false rfl ?_
    refine r_skip ?_
    refine c_code ?_
    refine r_seq ?_
    refine r_seq ?_
    refine r_region (id := 11) ?_
    refine o_give (g_move (evv rfl)) rfl rfl ?_
    refine o_give (g_bin (evv rfl) (evv rfl) (by rfl)) rfl rfl ?_
    refine o_give (g_move (evv rfl)) rfl rfl ?_
    refine o_gyes rfl ?_
    refine o_give (g_fld (evv rfl)) rfl rfl ?_
    refine o_gyes rfl ?_
    refine o_give (g_load (evv rfl) (by rfl) (by rfl)) rfl rfl ?_
    refine o_gyes rfl ?_
    refine o_give (g_bin (evv rfl) (evv rfl) (by rfl)) rfl rfl ?_
    refine o_gyes rfl ?_
    refine o_give (g_move (evv rfl)) rfl rfl ?_
    refine o_lazy rfl (fun hg => g_fld (evv rfl)) rfl rfl ?_
    refine o_lazy rfl (fun hg => g_load (evg rfl hg) (by rfl) (by rfl)) rfl rfl ?_
    refine o_lazy rfl (fun hg => g_bin (by first | exact evv rfl | exact evg rfl (by rw [hp]; rfl) | exact evg rfl hp | exact evg rfl hg | exact evg rfl (by first | (simp_all; done) | (simp [*]; done) | fail) | fail) (by first | exact evv rfl | exact evg rfl (by rw [hp]; rfl) | exact evg rfl hp | exact evg rfl hg | exact evg rfl (by first | (simp_all; done) | (simp [*]; done) | fail) | fail) (by rfl)) rfl rfl ?_
    refine o_gyes rfl ?_
    refine o_give (g_pick_or (evv rfl) (evv rfl) (fun hp => (by first | exact evv rfl | exact evg rfl (by rw [hp]; rfl) | exact evg rfl hp | exact evg rfl hg | exact evg rfl (by first | (simp_all; done) | (simp [*]; done) | fail) | fail))) rfl rfl ?_
    refine o_give (g_pick (b := true) (evv rfl) (fun _ => (evv rfl)) (fun h => by cases h)) rfl rfl ?_
    refine o_nil ?_
    refine c_code ?_
    refine r_cond rfl (fun c1 => ?_) (fun c1 => ?_) <;> (try simp only [decide_eq_true_eq, decide_eq_false_iff_not, Bool.and_eq_true, Bool.or_eq_true, Bool.not_eq_true', Bool.and_eq_false_iff, Bool.or_eq_false_iff, Bool.not_eq_false', Bool.not_eq_true, Bool.not_eq_false, Bool.true_eq_false, Bool.false_eq_true, Int.not_lt, Int.not_le, not_and, not_or, ne_eq] at c1)
    · have hd : doT ⟨b0, s0, b1, s1, lv, am, dn⟩ ⟨kind, area, bv, b, n, kv, ks⟩ = (1, ⟨b0, s0, b1, s1, lv, am, dn⟩) := by
        rw [doT_0 hkc, appT, chg_arg (by decide) (show area < 0 ∨ 1 < area by omega)]; rfl
      rw [hd]
      refine r_seq ?_
      refine r_region (id := 12) ?_
      refine o_give (g_assign (evv rfl)) rfl rfl ?_
      refine o_nil ?_
      refine c_code ?_
      first | refine r_ret (rs := [.tmp 4]) rfl rfl _ (Ent.drop) ?_ | refine c_end (rs := [.tmp 4]) rfl rfl _ (Ent.drop) ?_
      (refine ⟨?_, ?_⟩ <;> first | rfl | trivial | omega)
    · have hA : area = 0 ∨ area = 1 := by omega
      clear c1
      refine r_skip ?_
      refine c_code ?_
      refine r_seq ?_
      refine r_seq ?_
      refine r_region (id := 13) ?_
      refine o_give (g_move (evv rfl)) rfl rfl ?_
      refine o_give (g_nil (evv rfl)) rfl rfl ?_
      refine o_give (g_fld (evv rfl)) rfl rfl ?_
      refine o_give (g_load (evv rfl) (by rfl) (by rfl)) rfl rfl ?_
      refine o_nil ?_
      refine c_code ?_
      refine r_cond rfl (fun c2 => ?_) (fun c2 => ?_) <;> (try simp only [decide_eq_true_eq, decide_eq_false_iff_not, Bool.and_eq_true, Bool.or_eq_true, Bool.not_eq_true', Bool.and_eq_false_iff, Bool.or_eq_false_iff, Bool.not_eq_false', Bool.not_eq_true, Bool.not_eq_false, Bool.true_eq_false, Bool.false_eq_true, Int.not_lt, Int.not_le, not_and, not_or, ne_eq] at c2)
      · subst c2
        have hd : doT ⟨b0, s0, b1, s1, lv, am, true⟩ ⟨kind, area, bv, b, n, kv, ks⟩ = (170, ⟨b0, s0, b1, s1, lv, am, true⟩) := by
          rw [doT_0 hkc, appT, chg_down (show (0 : Int) = 3 ∨ area = 0 ∨ area = 1 by omega) rfl]; rfl
        rw [hd]
        refine r_seq ?_
        refine r_region (id := 14) ?_
        refine o_give (g_assign (evv rfl)) rfl rfl ?_
        refine o_nil ?_
        refine c_code ?_
        first | refine r_ret (rs := [.tmp 4]) rfl rfl _ (Ent.drop) ?_ | refine c_end (rs := [.tmp 4]) rfl rfl _ (Ent.drop) ?_
        (refine ⟨?_, ?_⟩ <;> first | rfl | trivial | omega)
      · subst c2
        have hd : doT ⟨b0, s0, b1, s1, lv, am, false⟩ ⟨kind, area, bv, b, n, kv, ks⟩ = (if am = 1 then 170 else 0, (tick ⟨b0, s0, b1, s1, lv, am, false⟩).setB area (((tick ⟨b0, s0, b1, s1, lv, am, false⟩).b area.toNat) ++ b)) := by
          rw [doT_0 hkc, appT, chg_go (show (0 : Int) = 3 ∨ area = 0 ∨ area = 1 by omega) rfl (by omega) (by omega)]; rfl
        rw [hd]
        rcases hA with rfl | rfl
        · refine r_skip ?_
          refine c_code ?_
          refine r_seq ?_
          refine r_region (id := 15) ?_
          refine o_give (g_move (evv rfl)) rfl rfl ?_
          refine o_give (g_nil (evv rfl)) rfl rfl ?_
          refine o_give (g_fld (evv rfl)) rfl rfl ?_
          refine o_give (g_load (evv rfl) (by rfl) (by rfl)) rfl rfl ?_
          refine o_giveN (g_bin (evv rfl) (evv rfl) (by rfl)) (by simp only [inR]; omega) rfl ?_
          refine o_give (g_assign (evv rfl)) rfl rfl ?_
          refine o_nil ?_
          refine c_code ?_
          refine r_seq ?_
          refine r_seq ?_
          refine r_quiet (id := 16) Mixed.h (by kernel_rfl) ?_
          refine q_give (g_move (evv rfl)) rfl rfl ?_
          refine q_give (g_bin (evv rfl) (evv rfl) (by rfl)) rfl rfl ?_
          refine q_give (g_move (evv rfl)) rfl rfl ?_
          refine q_lazy rfl (fun hg => g_fld (evv rfl)) rfl rfl ?_
          refine q_lazy rfl (fun hg => g_load (evg rfl hg) (by rfl) (by rfl)) rfl rfl ?_
          refine q_lazy rfl (fun hg => g_move (by first | exact evv rfl | exact evg rfl (by rw [hp]; rfl) | exact evg rfl hp | exact evg rfl hg | exact evg rfl (by first | (simp_all; done) | (simp [*]; done) | fail) | fail)) rfl rfl ?_
          refine q_lazy rfl (fun hg => g_nil (by first | exact evv rfl | exact evg rfl (by rw [hp]; rfl) | exact evg rfl hp | exact evg rfl hg | exact evg rfl (by first | (simp_all; done) | (simp [*]; done) | fail) | fail)) rfl rfl ?_
          refine q_lazy rfl (fun hg => g_fld (evg rfl hg)) rfl rfl ?_
          refine q_lazy rfl (fun hg => g_load (evg rfl hg) (by rfl) (by rfl)) rfl rfl ?_
          refine q_lazy rfl (fun hg => g_bin (by first | exact evv rfl | exact evg rfl (by rw [hp]; rfl) | exact evg rfl hp | exact evg rfl hg | exact evg rfl (by first | (simp_all; done) | (simp [*]; done) | fail) | fail) (by first | exact evv rfl | exact evg rfl (by rw [hp]; rfl) | exact evg rfl hp | exact evg rfl hg | exact evg rfl (by first | (simp_all; done) | (simp [*]; done) | fail) | fail) (by rfl)) rfl rfl ?_
          refine q_give (g_pick (b := false) (evv rfl) (fun h => by cases h) (fun _ => (evv rfl))) rfl rfl ?_
          refine q_give (g_move (evv rfl)) rfl rfl ?_
          refine q_sure rfl (g_move (evv rfl)) rfl rfl ?_
          refine q_sure rfl (g_bin (evv rfl) (evv rfl) (by rfl)) rfl rfl ?_
          refine q_sure rfl (g_move (evv rfl)) rfl rfl ?_
          refine q_lazy rfl (fun hg => g_move (by first | exact evv rfl | exact evg rfl (by rw [hp]; rfl) | exact evg rfl hp | exact evg rfl hg | exact evg rfl (by first | (simp_all; done) | (simp [*]; done) | fail) | fail)) rfl rfl ?_
          refine q_lazy rfl (fun hg => g_move (by first | exact evv rfl | exact evg rfl (by rw [hp]; rfl) | exact evg rfl hp | exact evg rfl hg | exact evg rfl (by first | (simp_all; done) | (simp [*]; done) | fail) | fail)) rfl rfl ?_
          refine q_lazy rfl (fun hg => g_nil (by first | exact evv rfl | exact evg rfl (by rw [hp]; rfl) | exact evg rfl hp | exact evg rfl hg | exact evg rfl (by first | (simp_all; done) | (simp [*]; done) | fail) | fail)) rfl rfl ?_
          refine q_lazy rfl (fun hg => g_fld (evg rfl hg)) rfl rfl ?_
          refine q_lazy rfl (fun hg => g_idxA (evg rfl hg) (evg rfl hg) (by omega) (by omega)) rfl rfl ?_
          refine q_lazy (v0 := undef) rfl (fun hg => absurd hg (by first | (simp; done) | fail)) rfl rfl ?_
          refine q_lazy rfl (fun hg => g_move (by first | exact evv rfl | exact evg rfl (by rw [hp]; rfl) | exact evg rfl hp | exact evg rfl hg | exact evg rfl (by first | (simp_all; done) | (simp [*]; done) | fail) | fail)) rfl rfl ?_
          refine q_lazy rfl (fun hg => g_move (by first | exact evv rfl | exact evg rfl (by rw [hp]; rfl) | exact evg rfl hp | exact evg rfl hg | exact evg rfl (by first | (simp_all; done) | (simp [*]; done) | fail) | fail)) rfl rfl ?_
          refine q_lazy rfl (fun hg => g_nil (by first | exact evv rfl | exact evg rfl (by rw [hp]; rfl) | exact evg rfl hp | exact evg rfl hg | exact evg rfl (by first | (simp_all; done) | (simp [*]; done) | fail) | fail)) rfl rfl ?_
          refine q_lazy rfl (fun hg => g_fld (evg rfl hg)) rfl rfl ?_
          refine q_lazy rfl (fun hg => g_idxA (evg rfl hg) (evg rfl hg) (by omega) (by omega)) rfl rfl ?_
          refine q_lazy (v0 := undef) rfl (fun hg => absurd hg (by first | (simp; done) | fail)) rfl rfl ?_
          refine q_lazy (v0 := undef) rfl (fun hg => absurd hg (by first | (simp; done) | fail)) rfl rfl ?_
          refine q_lazy (v0 := undef) rfl (fun hg => absurd hg (by first | (simp; done) | fail)) rfl rfl ?_
          refine q_sure rfl (g_pick (b := false) (evv rfl) (fun h => by cases h) (fun _ => (evv rfl))) rfl rfl ?_
          refine q_give (g_pick (b := false) (evv rfl) (fun h => by cases h) (fun _ => (evv rfl))) rfl rfl ?_
          refine q_nil ?_
          refine c_code ?_
          refine r_cond_false rfl ?_
          refine r_skip ?_
          refine c_code ?_
          refine r_seq ?_
          refine r_region (id := 18) ?_
          refine o_give (g_move (evv rfl)) rfl rfl ?_
          (refine o_call rfl _ (PickR.ent (K := blk _)) (goes_b _ _ _ _ _ _ _ _ (by assumption)) rfl ?_; rintro _ _ ⟨rfl, rfl⟩)
          refine o_give (g_assign (evv rfl)) rfl rfl ?_
          refine o_nil ?_
          refine c_code ?_
          refine r_seq ?_
          refine r_seq ?_
          refine r_region (id := 19) ?_
          refine o_give (g_move (evv rfl)) rfl rfl ?_
          refine o_give (g_bin (evv rfl) (evv rfl) (by rfl)) rfl rfl ?_
          refine o_nil ?_
          refine c_code ?_
          refine r_cond_true rfl ?_
          repeat (first | refine r_seq ?_ | refine c_code ?_ | refine c_blk ?_ | refine r_block ?_ | refine r_skip ?_)
          refine r_held (id := 20) (blk q ⟨[.int .i64 kind, .int .i64 0, bv, .int .i64 n, kv], 47⟩ :: F) Mixed.h ?_
          refine h_give (i := 0) (by kernel_rfl) rfl (g_move (evv rfl)) rfl rfl ?_
          refine h_give (i := 1) (by kernel_rfl) rfl (g_fld (evv rfl)) rfl rfl ?_
          refine h_give (i := 2) (by kernel_rfl) rfl (g_load (evv rfl) (by rfl) (by rfl)) rfl rfl ?_
          refine h_give (i := 3) (by kernel_rfl) rfl (g_move (evv rfl)) rfl rfl ?_
          refine h_give (i := 4) (by kernel_rfl) rfl (g_fld (evv rfl)) rfl rfl ?_
          refine h_give (i := 5) (by kernel_rfl) rfl (g_load (evv rfl) (by rfl) (by rfl)) rfl rfl ?_
          refine h_give (i := 6) (by kernel_rfl) rfl (g_nil (evv rfl)) rfl rfl ?_
          refine h_give (i := 7) (by kernel_rfl) rfl (g_fld (evv rfl)) rfl rfl ?_
          refine h_give (i := 8) (by kernel_rfl) rfl (g_idxA (evv rfl) (evv rfl) (by omega) (by omega)) rfl rfl ?_
          refine h_give (i := 10) (by kernel_rfl) rfl (g_fld (evv rfl)) rfl rfl ?_
          refine h_give (i := 11) (by kernel_rfl) rfl (g_load (evv rfl) (by rfl) (by rfl)) rfl rfl ?_
          refine h_give (i := 12) (by kernel_rfl) rfl (g_b2sM (evv rfl)) rfl rfl ?_
          refine h_give (i := 14) (by kernel_rfl) rfl (g_nil (evv rfl)) rfl rfl ?_
          refine h_give (i := 15) (by kernel_rfl) rfl (g_fld (evv rfl)) rfl rfl ?_
          refine h_one (i := 9) (by kernel_rfl) rfl (Lay.ent) ?_
          refine o_give (g_load (evv rfl) (by rfl) (by rfl)) rfl rfl ?_
          refine o_nil ?_
          refine h_give (i := 13) (by kernel_rfl) rfl (g_cat (evv rfl) (evv rfl) (by (try simp only [bsOf, List.length_append, List.length_cons, List.length_nil]); omega)) rfl rfl ?_
          refine h_give (i := 16) (by kernel_rfl) rfl (g_idxA (evv rfl) (evv rfl) (by omega) (by omega)) rfl rfl ?_
          refine h_one (i := 17) (by kernel_rfl) rfl (Lay.ent) ?_
          refine o_store1 (evv rfl) (evv rfl) (by rfl) (by rfl) (by rfl) ?_
          refine o_nil ?_
          refine h_done (by kernel_rfl) (Lay.ent) ?_
          refine c_code ?_
          refine r_seq ?_
          refine r_seq ?_
          refine r_region (id := 21) ?_
          refine o_give (g_move (evv rfl)) rfl rfl ?_
          refine o_nil ?_
          refine c_code ?_
          refine r_cond rfl (fun c5 => ?_) (fun c5 => ?_) <;> (try simp only [decide_eq_true_eq, decide_eq_false_iff_not, Bool.and_eq_true, Bool.or_eq_true, Bool.not_eq_true', Bool.and_eq_false_iff, Bool.or_eq_false_iff, Bool.not_eq_false', Bool.not_eq_true, Bool.not_eq_false, Bool.true_eq_false, Bool.false_eq_true, Int.not_lt, Int.not_le, not_and, not_or, ne_eq] at c5)
          · rw [if_pos c5]
            refine r_seq ?_
            refine r_region (id := 22) ?_
            refine o_give (g_assign (evv rfl)) rfl rfl ?_
            refine o_nil ?_
            refine c_code ?_
            first | refine r_ret (rs := [.tmp 4]) rfl rfl _ (Lay.ent (L' := blk r (rpB (b0 ++ b) b1 s0 s1 lv (am - 1) (decide (am = 1))) :: F)) ?_ | refine c_end (rs := [.tmp 4]) rfl rfl _ (Lay.ent (L' := blk r (rpB (b0 ++ b) b1 s0 s1 lv (am - 1) (decide (am = 1))) :: F)) ?_
            (refine ⟨?_, ?_⟩ <;> first | rfl | trivial | omega)
          · rw [if_neg c5]
            refine r_skip ?_
            refine c_code ?_
            refine r_seq ?_
            refine r_seq ?_
            refine r_region (id := 23) ?_
            refine o_give (g_move (evv rfl)) rfl rfl ?_
            refine o_give (g_bin (evv rfl) (evv rfl) (by rfl)) rfl rfl ?_
            refine o_nil ?_
            refine c_code ?_
            refine r_cond_false rfl ?_
            refine r_skip ?_
            refine c_code ?_
            refine r_seq ?_
            refine r_seq ?_
            refine r_region (id := 25) ?_
            refine o_give (g_move (evv rfl)) rfl rfl ?_
            refine o_give (g_bin (evv rfl) (evv rfl) (by rfl)) rfl rfl ?_
            refine o_nil ?_
            refine c_code ?_
            refine r_cond_false rfl ?_
            refine r_skip ?_
            refine c_code ?_
            refine r_seq ?_
            refine r_seq ?_
            refine r_region (id := 28) ?_
            refine o_give (g_move (evv rfl)) rfl rfl ?_
            refine o_give (g_bin (evv rfl) (evv rfl) (by rfl)) rfl rfl ?_
            refine o_nil ?_
            refine c_code ?_
            refine r_cond_false rfl ?_
            refine r_skip ?_
            refine c_code ?_
            refine r_seq ?_
            refine r_region (id := 30) ?_
            refine o_give (g_assign (evv rfl)) rfl rfl ?_
            refine o_nil ?_
            refine c_code ?_
            first | refine r_ret (rs := [.tmp 4]) rfl rfl _ (Lay.ent (L' := blk r (rpB (b0 ++ b) b1 s0 s1 lv (am - 1) (decide (am = 1))) :: F)) ?_ | refine c_end (rs := [.tmp 4]) rfl rfl _ (Lay.ent (L' := blk r (rpB (b0 ++ b) b1 s0 s1 lv (am - 1) (decide (am = 1))) :: F)) ?_
            (refine ⟨?_, ?_⟩ <;> first | rfl | trivial | omega)
        · refine r_skip ?_
          refine c_code ?_
          refine r_seq ?_
          refine r_region (id := 15) ?_
          refine o_give (g_move (evv rfl)) rfl rfl ?_
          refine o_give (g_nil (evv rfl)) rfl rfl ?_
          refine o_give (g_fld (evv rfl)) rfl rfl ?_
          refine o_give (g_load (evv rfl) (by rfl) (by rfl)) rfl rfl ?_
          refine o_giveN (g_bin (evv rfl) (evv rfl) (by rfl)) (by simp only [inR]; omega) rfl ?_
          refine o_give (g_assign (evv rfl)) rfl rfl ?_
          refine o_nil ?_
          refine c_code ?_
          refine r_seq ?_
          refine r_seq ?_
          refine r_quiet (id := 16) Mixed.h (by kernel_rfl) ?_
          refine q_give (g_move (evv rfl)) rfl rfl ?_
          refine q_give (g_bin (evv rfl) (evv rfl) (by rfl)) rfl rfl ?_
          refine q_give (g_move (evv rfl)) rfl rfl ?_
          refine q_lazy rfl (fun hg => g_fld (evv rfl)) rfl rfl ?_
          refine q_lazy rfl (fun hg => g_load (evg rfl hg) (by rfl) (by rfl)) rfl rfl ?_
          refine q_lazy rfl (fun hg => g_move (by first | exact evv rfl | exact evg rfl (by rw [hp]; rfl) | exact evg rfl hp | exact evg rfl hg | exact evg rfl (by first | (simp_all; done) | (simp [*]; done) | fail) | fail)) rfl rfl ?_
          refine q_lazy rfl (fun hg => g_nil (by first | exact evv rfl | exact evg rfl (by rw [hp]; rfl) | exact evg rfl hp | exact evg rfl hg | exact evg rfl (by first | (simp_all; done) | (simp [*]; done) | fail) | fail)) rfl rfl ?_
          refine q_lazy rfl (fun hg => g_fld (evg rfl hg)) rfl rfl ?_
          refine q_lazy rfl (fun hg => g_load (evg rfl hg) (by rfl) (by rfl)) rfl rfl ?_
          refine q_lazy rfl (fun hg => g_bin (by first | exact evv rfl | exact evg rfl (by rw [hp]; rfl) | exact evg rfl hp | exact evg rfl hg | exact evg rfl (by first | (simp_all; done) | (simp [*]; done) | fail) | fail) (by first | exact evv rfl | exact evg rfl (by rw [hp]; rfl) | exact evg rfl hp | exact evg rfl hg | exact evg rfl (by first | (simp_all; done) | (simp [*]; done) | fail) | fail) (by rfl)) rfl rfl ?_
          refine q_give (g_pick (b := false) (evv rfl) (fun h => by cases h) (fun _ => (evv rfl))) rfl rfl ?_
          refine q_give (g_move (evv rfl)) rfl rfl ?_
          refine q_sure rfl (g_move (evv rfl)) rfl rfl ?_
          refine q_sure rfl (g_bin (evv rfl) (evv rfl) (by rfl)) rfl rfl ?_
          refine q_sure rfl (g_move (evv rfl)) rfl rfl ?_
          refine q_lazy rfl (fun hg => g_move (by first | exact evv rfl | exact evg rfl (by rw [hp]; rfl) | exact evg rfl hp | exact evg rfl hg | exact evg rfl (by first | (simp_all; done) | (simp [*]; done) | fail) | fail)) rfl rfl ?_
          refine q_lazy rfl (fun hg => g_move (by first | exact evv rfl | exact evg rfl (by rw [hp]; rfl) | exact evg rfl hp | exact evg rfl hg | exact evg rfl (by first | (simp_all; done) | (simp [*]; done) | fail) | fail)) rfl rfl ?_
          refine q_lazy rfl (fun hg => g_nil (by first | exact evv rfl | exact evg rfl (by rw [hp]; rfl) | exact evg rfl hp | exact evg rfl hg | exact evg rfl (by first | (simp_all; done) | (simp [*]; done) | fail) | fail)) rfl rfl ?_
          refine q_lazy rfl (fun hg => g_fld (evg rfl hg)) rfl rfl ?_
          refine q_lazy rfl (fun hg => g_idxA (evg rfl hg) (evg rfl hg) (by omega) (by omega)) rfl rfl ?_
          refine q_lazy (v0 := undef) rfl (fun hg => absurd hg (by first | (simp; done) | fail)) rfl rfl ?_
          refine q_lazy rfl (fun hg => g_move (by first | exact evv rfl | exact evg rfl (by rw [hp]; rfl) | exact evg rfl hp | exact evg rfl hg | exact evg rfl (by first | (simp_all; done) | (simp [*]; done) | fail) | fail)) rfl rfl ?_
          refine q_lazy rfl (fun hg => g_move (by first | exact evv rfl | exact evg rfl (by rw [hp]; rfl) | exact evg rfl hp | exact evg rfl hg | exact evg rfl (by first | (simp_all; done) | (simp [*]; done) | fail) | fail)) rfl rfl ?_
          refine q_lazy rfl (fun hg => g_nil (by first | exact evv rfl | exact evg rfl (by rw [hp]; rfl) | exact evg rfl hp | exact evg rfl hg | exact evg rfl (by first | (simp_all; done) | (simp [*]; done) | fail) | fail)) rfl rfl ?_
          refine q_lazy rfl (fun hg => g_fld (evg rfl hg)) rfl rfl ?_
          refine q_lazy rfl (fun hg => g_idxA (evg rfl hg) (evg rfl hg) (by omega) (by omega)) rfl rfl ?_
          refine q_lazy (v0 := undef) rfl (fun hg => absurd hg (by first | (simp; done) | fail)) rfl rfl ?_
          refine q_lazy (v0 := undef) rfl (fun hg => absurd hg (by first | (simp; done) | fail)) rfl rfl ?_
          refine q_lazy (v0 := undef) rfl (fun hg => absurd hg (by first | (simp; done) | fail)) rfl rfl ?_
          refine q_sure rfl (g_pick (b := false) (evv rfl) (fun h => by cases h) (fun _ => (evv rfl))) rfl rfl ?_
          refine q_give (g_pick (b := false) (evv rfl) (fun h => by cases h) (fun _ => (evv rfl))) rfl rfl ?_
          refine q_nil ?_
          refine c_code ?_
          refine r_cond_false rfl ?_
          refine r_skip ?_
          refine c_code ?_
          refine r_seq ?_
          refine r_region (id := 18) ?_
          refine o_give (g_move (evv rfl)) rfl rfl ?_
          (refine o_call rfl _ (PickR.ent (K := blk _)) (goes_b _ _ _ _ _ _ _ _ (by assumption)) rfl ?_; rintro _ _ ⟨rfl, rfl⟩)
          refine o_give (g_assign (evv rfl)) rfl rfl ?_
          refine o_nil ?_
          refine c_code ?_
          refine r_seq ?_
          refine r_seq ?_
          refine r_region (id := 19) ?_
          refine o_give (g_move (evv rfl)) rfl rfl ?_
          refine o_give (g_bin (evv rfl) (evv rfl) (by rfl)) rfl rfl ?_
          refine o_nil ?_
          refine c_code ?_
          refine r_cond_true rfl ?_
          repeat (first | refine r_seq ?_ | refine c_code ?_ | refine c_blk ?_ | refine r_block ?_ | refine r_skip ?_)
          refine r_held (id := 20) (blk q ⟨[.int .i64 kind, .int .i64 1, bv, .int .i64 n, kv], 47⟩ :: F) Mixed.h ?_
          refine h_give (i := 0) (by kernel_rfl) rfl (g_move (evv rfl)) rfl rfl ?_
          refine h_give (i := 1) (by kernel_rfl) rfl (g_fld (evv rfl)) rfl rfl ?_
          refine h_give (i := 2) (by kernel_rfl) rfl (g_load (evv rfl) (by rfl) (by rfl)) rfl rfl ?_
          refine h_give (i := 3) (by kernel_rfl) rfl (g_move (evv rfl)) rfl rfl ?_
          refine h_give (i := 4) (by kernel_rfl) rfl (g_fld (evv rfl)) rfl rfl ?_
          refine h_give (i := 5) (by kernel_rfl) rfl (g_load (evv rfl) (by rfl) (by rfl)) rfl rfl ?_
          refine h_give (i := 6) (by kernel_rfl) rfl (g_nil (evv rfl)) rfl rfl ?_
          refine h_give (i := 7) (by kernel_rfl) rfl (g_fld (evv rfl)) rfl rfl ?_
          refine h_give (i := 8) (by kernel_rfl) rfl (g_idxA (evv rfl) (evv rfl) (by omega) (by omega)) rfl rfl ?_
          refine h_give (i := 10) (by kernel_rfl) rfl (g_fld (evv rfl)) rfl rfl ?_
          refine h_give (i := 11) (by kernel_rfl) rfl (g_load (evv rfl) (by rfl) (by rfl)) rfl rfl ?_
          refine h_give (i := 12) (by kernel_rfl) rfl (g_b2sM (evv rfl)) rfl rfl ?_
          refine h_give (i := 14) (by kernel_rfl) rfl (g_nil (evv rfl)) rfl rfl ?_
          refine h_give (i := 15) (by kernel_rfl) rfl (g_fld (evv rfl)) rfl rfl ?_
          refine h_one (i := 9) (by kernel_rfl) rfl (Lay.ent) ?_
          refine o_give (g_load (evv rfl) (by rfl) (by rfl)) rfl rfl ?_
          refine o_nil ?_
          refine h_give (i := 13) (by kernel_rfl) rfl (g_cat (evv rfl) (evv rfl) (by (try simp only [bsOf, List.length_append, List.length_cons, List.length_nil]); omega)) rfl rfl ?_
          refine h_give (i := 16) (by kernel_rfl) rfl (g_idxA (evv rfl) (evv rfl) (by omega) (by omega)) rfl rfl ?_
          refine h_one (i := 17) (by kernel_rfl) rfl (Lay.ent) ?_
          refine o_store1 (evv rfl) (evv rfl) (by rfl) (by rfl) (by rfl) ?_
          refine o_nil ?_
          refine h_done (by kernel_rfl) (Lay.ent) ?_
          refine c_code ?_
          refine r_seq ?_
          refine r_seq ?_
          refine r_region (id := 21) ?_
          refine o_give (g_move (evv rfl)) rfl rfl ?_
          refine o_nil ?_
          refine c_code ?_
          refine r_cond rfl (fun c5 => ?_) (fun c5 => ?_) <;> (try simp only [decide_eq_true_eq, decide_eq_false_iff_not, Bool.and_eq_true, Bool.or_eq_true, Bool.not_eq_true', Bool.and_eq_false_iff, Bool.or_eq_false_iff, Bool.not_eq_false', Bool.not_eq_true, Bool.not_eq_false, Bool.true_eq_false, Bool.false_eq_true, Int.not_lt, Int.not_le, not_and, not_or, ne_eq] at c5)
          · rw [if_pos c5]
            refine r_seq ?_
            refine r_region (id := 22) ?_
            refine o_give (g_assign (evv rfl)) rfl rfl ?_
            refine o_nil ?_
            refine c_code ?_
            first | refine r_ret (rs := [.tmp 4]) rfl rfl _ (Lay.ent (L' := blk r (rpB b0 (b1 ++ b) s0 s1 lv (am - 1) (decide (am = 1))) :: F)) ?_ | refine c_end (rs := [.tmp 4]) rfl rfl _ (Lay.ent (L' := blk r (rpB b0 (b1 ++ b) s0 s1 lv (am - 1) (decide (am = 1))) :: F)) ?_
            (refine ⟨?_, ?_⟩ <;> first | rfl | trivial | omega)
          · rw [if_neg c5]
            refine r_skip ?_
            refine c_code ?_
            refine r_seq ?_
            refine r_seq ?_
            refine r_region (id := 23) ?_
            refine o_give (g_move (evv rfl)) rfl rfl ?_
            refine o_give (g_bin (evv rfl) (evv rfl) (by rfl)) rfl rfl ?_
            refine o_nil ?_
            refine c_code ?_
            refine r_cond_false rfl ?_
            refine r_skip ?_
            refine c_code ?_
            refine r_seq ?_
            refine r_seq ?_
            refine r_region (id := 25) ?_
            refine o_give (g_move (evv rfl)) rfl rfl ?_
            refine o_give (g_bin (evv rfl) (evv rfl) (by rfl)) rfl rfl ?_
            refine o_nil ?_
            refine c_code ?_
            refine r_cond_false rfl ?_
            refine r_skip ?_
            refine c_code ?_
            refine r_seq ?_
            refine r_seq ?_
            refine r_region (id := 28) ?_
            refine o_give (g_move (evv rfl)) rfl rfl ?_
            refine o_give (g_bin (evv rfl) (evv rfl) (by rfl)) rfl rfl ?_
            refine o_nil ?_
            refine c_code ?_
            refine r_cond_false rfl ?_
            refine r_skip ?_
            refine c_code ?_
            refine r_seq ?_
            refine r_region (id := 30) ?_
            refine o_give (g_assign (evv rfl)) rfl rfl ?_
            refine o_nil ?_
            refine c_code ?_
            first | refine r_ret (rs := [.tmp 4]) rfl rfl _ (Lay.ent (L' := blk r (rpB b0 (b1 ++ b) s0 s1 lv (am - 1) (decide (am = 1))) :: F)) ?_ | refine c_end (rs := [.tmp 4]) rfl rfl _ (Lay.ent (L' := blk r (rpB b0 (b1 ++ b) s0 s1 lv (am - 1) (decide (am = 1))) :: F)) ?_
            (refine ⟨?_, ?_⟩ <;> first | rfl | trivial | omega)
  · refine r_region (id := 2) ?_
    refine o_give (g_move (evv rfl)) rfl rfl ?_
    refine o_give (g_bin (evv rfl) (evv rfl) (by rfl)) rfl rfl ?_
    refine o_nil ?_
    refine c_code ?_
    refine r_cond_false rfl ?_
    refine r_skip ?_
    refine c_code ?_
    refine r_seq ?_
    refine r_seq ?_
    refine r_region (id := 8) ?_
    refine o_give (g_move (evv rfl)) rfl rfl ?_
    refine o_give (g_bin (evv rfl) (evv rfl) (by rfl)) rfl rfl ?_
    refine o_nil ?_
    refine c_code ?_
    refine r_cond_false rfl ?_
    refine r_skip ?_
    refine c_code ?_
    refine r_seq ?_
    refine r_seq ?_
    refine r_region (id := 11) ?_
    refine o_give (g_move (evv rfl)) rfl rfl ?_
    refine o_give (g_bin (evv rfl) (evv rfl) (by rfl)) rfl rfl ?_
    refine o_give (g_move (evv rfl)) rfl rfl ?_
    refine o_gyes rfl ?_
    refine o_give (g_fld (evv rfl)) rfl rfl ?_
    refine o_gyes rfl ?_
    refine o_give (g_load (evv rfl) (by rfl) (by rfl)) rfl rfl ?_
    refine o_gyes rfl ?_
    refine o_give (g_bin (evv rfl) (evv rfl) (by rfl)) rfl rfl ?_
    refine o_gyes rfl ?_
    refine o_give (g_move (evv rfl)) rfl rfl ?_
    refine o_lazy rfl (fun hg => g_fld (evv rfl)) rfl rfl ?_
    refine o_lazy rfl (fun hg => g_load (evg rfl hg) (by rfl) (by rfl)) rfl rfl ?_
    refine o_lazy rfl (fun hg => g_bin (by first | exact evv rfl | exact evg rfl (by rw [hp]; rfl) | exact evg rfl hp | exact evg rfl hg | exact evg rfl (by first | (simp_all; done) | (simp [*]; done) | fail) | fail) (by first | exact evv rfl | exact evg rfl (by rw [hp]; rfl) | exact evg rfl hp | exact evg rfl hg | exact evg rfl (by first | (simp_all; done) | (simp [*]; done) | fail) | fail) (by rfl)) rfl rfl ?_
    refine o_gyes rfl ?_
    refine o_give (g_pick_or (evv rfl) (evv rfl) (fun hp => (by first | exact evv rfl | exact evg rfl (by rw [hp]; rfl) | exact evg rfl hp | exact evg rfl hg | exact evg rfl (by first | (simp_all; done) | (simp [*]; done) | fail) | fail))) rfl rfl ?_
    refine o_give (g_pick (b := true) (evv rfl) (fun _ => (evv rfl)) (fun h => by cases h)) rfl rfl ?_
    refine o_nil ?_
    refine c_code ?_
    refine r_cond rfl (fun c1 => ?_) (fun c1 => ?_) <;> (try simp only [decide_eq_true_eq, decide_eq_false_iff_not, Bool.and_eq_true, Bool.or_eq_true, Bool.not_eq_true', Bool.and_eq_false_iff, Bool.or_eq_false_iff, Bool.not_eq_false', Bool.not_eq_true, Bool.not_eq_false, Bool.true_eq_false, Bool.false_eq_true, Int.not_lt, Int.not_le, not_and, not_or, ne_eq] at c1)
    · have hd : doT ⟨b0, s0, b1, s1, lv, am, dn⟩ ⟨kind, area, bv, b, n, kv, ks⟩ = (1, ⟨b0, s0, b1, s1, lv, am, dn⟩) := by
        rw [doT_1 hkc, synT, chg_arg (by decide) (show area < 0 ∨ 1 < area by omega)]; rfl
      rw [hd]
      refine r_seq ?_
      refine r_region (id := 12) ?_
      refine o_give (g_assign (evv rfl)) rfl rfl ?_
      refine o_nil ?_
      refine c_code ?_
      first | refine r_ret (rs := [.tmp 4]) rfl rfl _ (Ent.drop) ?_ | refine c_end (rs := [.tmp 4]) rfl rfl _ (Ent.drop) ?_
      (refine ⟨?_, ?_⟩ <;> first | rfl | trivial | omega)
    · have hA : area = 0 ∨ area = 1 := by omega
      clear c1
      refine r_skip ?_
      refine c_code ?_
      refine r_seq ?_
      refine r_seq ?_
      refine r_region (id := 13) ?_
      refine o_give (g_move (evv rfl)) rfl rfl ?_
      refine o_give (g_nil (evv rfl)) rfl rfl ?_
      refine o_give (g_fld (evv rfl)) rfl rfl ?_
      refine o_give (g_load (evv rfl) (by rfl) (by rfl)) rfl rfl ?_
      refine o_nil ?_
      refine c_code ?_
      refine r_cond rfl (fun c2 => ?_) (fun c2 => ?_) <;> (try simp only [decide_eq_true_eq, decide_eq_false_iff_not, Bool.and_eq_true, Bool.or_eq_true, Bool.not_eq_true', Bool.and_eq_false_iff, Bool.or_eq_false_iff, Bool.not_eq_false', Bool.not_eq_true, Bool.not_eq_false, Bool.true_eq_false, Bool.false_eq_true, Int.not_lt, Int.not_le, not_and, not_or, ne_eq] at c2)
      · subst c2
        have hd : doT ⟨b0, s0, b1, s1, lv, am, true⟩ ⟨kind, area, bv, b, n, kv, ks⟩ = (170, ⟨b0, s0, b1, s1, lv, am, true⟩) := by
          rw [doT_1 hkc, synT, chg_down (show (1 : Int) = 3 ∨ area = 0 ∨ area = 1 by omega) rfl]; rfl
        rw [hd]
        refine r_seq ?_
        refine r_region (id := 14) ?_
        refine o_give (g_assign (evv rfl)) rfl rfl ?_
        refine o_nil ?_
        refine c_code ?_
        first | refine r_ret (rs := [.tmp 4]) rfl rfl _ (Ent.drop) ?_ | refine c_end (rs := [.tmp 4]) rfl rfl _ (Ent.drop) ?_
        (refine ⟨?_, ?_⟩ <;> first | rfl | trivial | omega)
      · subst c2
        have hd : doT ⟨b0, s0, b1, s1, lv, am, false⟩ ⟨kind, area, bv, b, n, kv, ks⟩ = (if am = 1 then 170 else 0, if (if am = 1 then (170 : Int) else 0) = 0 then (tick ⟨b0, s0, b1, s1, lv, am, false⟩).setS area ((tick ⟨b0, s0, b1, s1, lv, am, false⟩).b area.toNat).length else tick ⟨b0, s0, b1, s1, lv, am, false⟩) := by
          rw [doT_1 hkc, synT, chg_go (show (1 : Int) = 3 ∨ area = 0 ∨ area = 1 by omega) rfl (by omega) (by omega)]
        rw [hd]
        rcases hA with rfl | rfl
        · refine r_skip ?_
          refine c_code ?_
          refine r_seq ?_
          refine r_region (id := 15) ?_
          refine o_give (g_move (evv rfl)) rfl rfl ?_
          refine o_give (g_nil (evv rfl)) rfl rfl ?_
          refine o_give (g_fld (evv rfl)) rfl rfl ?_
          refine o_give (g_load (evv rfl) (by rfl) (by rfl)) rfl rfl ?_
          refine o_giveN (g_bin (evv rfl) (evv rfl) (by rfl)) (by simp only [inR]; omega) rfl ?_
          refine o_give (g_assign (evv rfl)) rfl rfl ?_
          refine o_nil ?_
          refine c_code ?_
          refine r_seq ?_
          refine r_seq ?_
          refine r_quiet (id := 16) Mixed.h (by kernel_rfl) ?_
          refine q_give (g_move (evv rfl)) rfl rfl ?_
          refine q_give (g_bin (evv rfl) (evv rfl) (by rfl)) rfl rfl ?_
          refine q_give (g_move (evv rfl)) rfl rfl ?_
          refine q_lazy rfl (fun hg => g_fld (evv rfl)) rfl rfl ?_
          refine q_lazy rfl (fun hg => g_load (evg rfl hg) (by rfl) (by rfl)) rfl rfl ?_
          refine q_lazy rfl (fun hg => g_move (by first | exact evv rfl | exact evg rfl (by rw [hp]; rfl) | exact evg rfl hp | exact evg rfl hg | exact evg rfl (by first | (simp_all; done) | (simp [*]; done) | fail) | fail)) rfl rfl ?_
          refine q_lazy rfl (fun hg => g_nil (by first | exact evv rfl | exact evg rfl (by rw [hp]; rfl) | exact evg rfl hp | exact evg rfl hg | exact evg rfl (by first | (simp_all; done) | (simp [*]; done) | fail) | fail)) rfl rfl ?_
          refine q_lazy rfl (fun hg => g_fld (evg rfl hg)) rfl rfl ?_
          refine q_lazy rfl (fun hg => g_load (evg rfl hg) (by rfl) (by rfl)) rfl rfl ?_
          refine q_lazy rfl (fun hg => g_bin (by first | exact evv rfl | exact evg rfl (by rw [hp]; rfl) | exact evg rfl hp | exact evg rfl hg | exact evg rfl (by first | (simp_all; done) | (simp [*]; done) | fail) | fail) (by first | exact evv rfl | exact evg rfl (by rw [hp]; rfl) | exact evg rfl hp | exact evg rfl hg | exact evg rfl (by first | (simp_all; done) | (simp [*]; done) | fail) | fail) (by rfl)) rfl rfl ?_
          refine q_give (g_pick (b := false) (evv rfl) (fun h => by cases h) (fun _ => (evv rfl))) rfl rfl ?_
          refine q_give (g_move (evv rfl)) rfl rfl ?_
          refine q_sure rfl (g_move (evv rfl)) rfl rfl ?_
          refine q_sure rfl (g_bin (evv rfl) (evv rfl) (by rfl)) rfl rfl ?_
          refine q_sure rfl (g_move (evv rfl)) rfl rfl ?_
          refine q_lazy rfl (fun hg => g_move (by first | exact evv rfl | exact evg rfl (by rw [hp]; rfl) | exact evg rfl hp | exact evg rfl hg | exact evg rfl (by first | (simp_all; done) | (simp [*]; done) | fail) | fail)) rfl rfl ?_
          refine q_lazy rfl (fun hg => g_move (by first | exact evv rfl | exact evg rfl (by rw [hp]; rfl) | exact evg rfl hp | exact evg rfl hg | exact evg rfl (by first | (simp_all; done) | (simp [*]; done) | fail) | fail)) rfl rfl ?_
          refine q_lazy rfl (fun hg => g_nil (by first | exact evv rfl | exact evg rfl (by rw [hp]; rfl) | exact evg rfl hp | exact evg rfl hg | exact evg rfl (by first | (simp_all; done) | (simp [*]; done) | fail) | fail)) rfl rfl ?_
          refine q_lazy rfl (fun hg => g_fld (evg rfl hg)) rfl rfl ?_
          refine q_lazy rfl (fun hg => g_idxA (evg rfl hg) (evg rfl hg) (by omega) (by omega)) rfl rfl ?_
          refine q_lazy (v0 := undef) rfl (fun hg => absurd hg (by first | (simp; done) | fail)) rfl rfl ?_
          refine q_lazy rfl (fun hg => g_move (by first | exact evv rfl | exact evg rfl (by rw [hp]; rfl) | exact evg rfl hp | exact evg rfl hg | exact evg rfl (by first | (simp_all; done) | (simp [*]; done) | fail) | fail)) rfl rfl ?_
          refine q_lazy rfl (fun hg => g_move (by first | exact evv rfl | exact evg rfl (by rw [hp]; rfl) | exact evg rfl hp | exact evg rfl hg | exact evg rfl (by first | (simp_all; done) | (simp [*]; done) | fail) | fail)) rfl rfl ?_
          refine q_lazy rfl (fun hg => g_nil (by first | exact evv rfl | exact evg rfl (by rw [hp]; rfl) | exact evg rfl hp | exact evg rfl hg | exact evg rfl (by first | (simp_all; done) | (simp [*]; done) | fail) | fail)) rfl rfl ?_
          refine q_lazy rfl (fun hg => g_fld (evg rfl hg)) rfl rfl ?_
          refine q_lazy rfl (fun hg => g_idxA (evg rfl hg) (evg rfl hg) (by omega) (by omega)) rfl rfl ?_
          refine q_lazy (v0 := undef) rfl (fun hg => absurd hg (by first | (simp; done) | fail)) rfl rfl ?_
          refine q_lazy (v0 := undef) rfl (fun hg => absurd hg (by first | (simp; done) | fail)) rfl rfl ?_
          refine q_lazy (v0 := undef) rfl (fun hg => absurd hg (by first | (simp; done) | fail)) rfl rfl ?_
          refine q_sure rfl (g_pick (b := false) (evv rfl) (fun h => by cases h) (fun _ => (evv rfl))) rfl rfl ?_
          refine q_give (g_pick (b := false) (evv rfl) (fun h => by cases h) (fun _ => (evv rfl))) rfl rfl ?_
          refine q_nil ?_
          refine c_code ?_
          refine r_cond_false rfl ?_
          refine r_skip ?_
          refine c_code ?_
          refine r_seq ?_
          refine r_region (id := 18) ?_
          refine o_give (g_move (evv rfl)) rfl rfl ?_
          (refine o_call rfl _ (PickR.ent (K := blk _)) (goes_b _ _ _ _ _ _ _ _ (by assumption)) rfl ?_; rintro _ _ ⟨rfl, rfl⟩)
          refine o_give (g_assign (evv rfl)) rfl rfl ?_
          refine o_nil ?_
          refine c_code ?_
          refine r_seq ?_
          refine r_seq ?_
          refine r_region (id := 19) ?_
          refine o_give (g_move (evv rfl)) rfl rfl ?_
          refine o_give (g_bin (evv rfl) (evv rfl) (by rfl)) rfl rfl ?_
          refine o_nil ?_
          refine c_code ?_
          refine r_cond_false rfl ?_
          refine r_skip ?_
          refine c_code ?_
          refine r_seq ?_
          refine r_seq ?_
          refine r_region (id := 21) ?_
          refine o_give (g_move (evv rfl)) rfl rfl ?_
          refine o_nil ?_
          refine c_code ?_
          refine r_cond rfl (fun c5 => ?_) (fun c5 => ?_) <;> (try simp only [decide_eq_true_eq, decide_eq_false_iff_not, Bool.and_eq_true, Bool.or_eq_true, Bool.not_eq_true', Bool.and_eq_false_iff, Bool.or_eq_false_iff, Bool.not_eq_false', Bool.not_eq_true, Bool.not_eq_false, Bool.true_eq_false, Bool.false_eq_true, Int.not_lt, Int.not_le, not_and, not_or, ne_eq] at c5)
          · simp only [if_pos c5]
            rw [if_neg (by decide)]
            refine r_seq ?_
            refine r_region (id := 22) ?_
            refine o_give (g_assign (evv rfl)) rfl rfl ?_
            refine o_nil ?_
            refine c_code ?_
            first | refine r_ret (rs := [.tmp 4]) rfl rfl _ (Lay.ent (L' := blk r (rpB b0 b1 s0 s1 lv (am - 1) (decide (am = 1))) :: F)) ?_ | refine c_end (rs := [.tmp 4]) rfl rfl _ (Lay.ent (L' := blk r (rpB b0 b1 s0 s1 lv (am - 1) (decide (am = 1))) :: F)) ?_
            (refine ⟨?_, ?_⟩ <;> first | rfl | trivial | omega)
          · simp only [if_neg c5]
            rw [if_pos trivial]
            refine r_skip ?_
            refine c_code ?_
            refine r_seq ?_
            refine r_seq ?_
            refine r_region (id := 23) ?_
            refine o_give (g_move (evv rfl)) rfl rfl ?_
            refine o_give (g_bin (evv rfl) (evv rfl) (by rfl)) rfl rfl ?_
            refine o_nil ?_
            refine c_code ?_
            refine r_cond_true rfl ?_
            repeat (first | refine r_seq ?_ | refine c_code ?_ | refine c_blk ?_ | refine r_block ?_ | refine r_skip ?_)
            refine r_held (id := 24) (blk q ⟨[.int .i64 kind, .int .i64 0, bv, .int .i64 n, kv], 47⟩ :: F) Mixed.h ?_
            refine h_give (i := 0) (by kernel_rfl) rfl (g_move (evv rfl)) rfl rfl ?_
            refine h_give (i := 1) (by kernel_rfl) rfl (g_fld (evv rfl)) rfl rfl ?_
            refine h_give (i := 2) (by kernel_rfl) rfl (g_load (evv rfl) (by rfl) (by rfl)) rfl rfl ?_
            refine h_give (i := 3) (by kernel_rfl) rfl (g_move (evv rfl)) rfl rfl ?_
            refine h_give (i := 4) (by kernel_rfl) rfl (g_fld (evv rfl)) rfl rfl ?_
            refine h_give (i := 5) (by kernel_rfl) rfl (g_load (evv rfl) (by rfl) (by rfl)) rfl rfl ?_
            refine h_give (i := 6) (by kernel_rfl) rfl (g_nil (evv rfl)) rfl rfl ?_
            refine h_give (i := 7) (by kernel_rfl) rfl (g_fld (evv rfl)) rfl rfl ?_
            refine h_give (i := 8) (by kernel_rfl) rfl (g_idxA (evv rfl) (evv rfl) (by omega) (by omega)) rfl rfl ?_
            refine h_give (i := 11) (by kernel_rfl) rfl (g_nil (evv rfl)) rfl rfl ?_
            refine h_give (i := 12) (by kernel_rfl) rfl (g_fld (evv rfl)) rfl rfl ?_
            refine h_one (i := 9) (by kernel_rfl) rfl (Lay.ent) ?_
            refine o_give (g_load (evv rfl) (by rfl) (by rfl)) rfl rfl ?_
            refine o_nil ?_
            refine h_give (i := 10) (by kernel_rfl) rfl (g_lenS TyU.h (evv rfl)) rfl rfl ?_
            refine h_give (i := 13) (by kernel_rfl) rfl (g_idxA (evv rfl) (evv rfl) (by omega) (by omega)) rfl rfl ?_
            refine h_one (i := 14) (by kernel_rfl) rfl (Lay.ent) ?_
            refine o_store1 (evv rfl) (evv rfl) (by rfl) (by rfl) (by rfl) ?_
            refine o_nil ?_
            refine h_done (by kernel_rfl) (Lay.ent) ?_
            refine c_code ?_
            refine r_seq ?_
            refine r_seq ?_
            refine r_region (id := 25) ?_
            refine o_give (g_move (evv rfl)) rfl rfl ?_
            refine o_give (g_bin (evv rfl) (evv rfl) (by rfl)) rfl rfl ?_
            refine o_nil ?_
            refine c_code ?_
            refine r_cond_false rfl ?_
            refine r_skip ?_
            refine c_code ?_
            refine r_seq ?_
            refine r_seq ?_
            refine r_region (id := 28) ?_
            refine o_give (g_move (evv rfl)) rfl rfl ?_
            refine o_give (g_bin (evv rfl) (evv rfl) (by rfl)) rfl rfl ?_
            refine o_nil ?_
            refine c_code ?_
            refine r_cond_false rfl ?_
            refine r_skip ?_
            refine c_code ?_
            refine r_seq ?_
            refine r_region (id := 30) ?_
            refine o_give (g_assign (evv rfl)) rfl rfl ?_
            refine o_nil ?_
            refine c_code ?_
            first | refine r_ret (rs := [.tmp 4]) rfl rfl _ (Lay.ent (L' := blk r (rpB b0 b1 b0.length s1 lv (am - 1) (decide (am = 1))) :: F)) ?_ | refine c_end (rs := [.tmp 4]) rfl rfl _ (Lay.ent (L' := blk r (rpB b0 b1 b0.length s1 lv (am - 1) (decide (am = 1))) :: F)) ?_
            (refine ⟨?_, ?_⟩ <;> first | rfl | trivial | omega)
        · refine r_skip ?_
          refine c_code ?_
          refine r_seq ?_
          refine r_region (id := 15) ?_
          refine o_give (g_move (evv rfl)) rfl rfl ?_
          refine o_give (g_nil (evv rfl)) rfl rfl ?_
          refine o_give (g_fld (evv rfl)) rfl rfl ?_
          refine o_give (g_load (evv rfl) (by rfl) (by rfl)) rfl rfl ?_
          refine o_giveN (g_bin (evv rfl) (evv rfl) (by rfl)) (by simp only [inR]; omega) rfl ?_
          refine o_give (g_assign (evv rfl)) rfl rfl ?_
          refine o_nil ?_
          refine c_code ?_
          refine r_seq ?_
          refine r_seq ?_
          refine r_quiet (id := 16) Mixed.h (by kernel_rfl) ?_
          refine q_give (g_move (evv rfl)) rfl rfl ?_
          refine q_give (g_bin (evv rfl) (evv rfl) (by rfl)) rfl rfl ?_
          refine q_give (g_move (evv rfl)) rfl rfl ?_
          refine q_lazy rfl (fun hg => g_fld (evv rfl)) rfl rfl ?_
          refine q_lazy rfl (fun hg => g_load (evg rfl hg) (by rfl) (by rfl)) rfl rfl ?_
          refine q_lazy rfl (fun hg => g_move (by first | exact evv rfl | exact evg rfl (by rw [hp]; rfl) | exact evg rfl hp | exact evg rfl hg | exact evg rfl (by first | (simp_all; done) | (simp [*]; done) | fail) | fail)) rfl rfl ?_
          refine q_lazy rfl (fun hg => g_nil (by first | exact evv rfl | exact evg rfl (by rw [hp]; rfl) | exact evg rfl hp | exact evg rfl hg | exact evg rfl (by first | (simp_all; done) | (simp [*]; done) | fail) | fail)) rfl rfl ?_
          refine q_lazy rfl (fun hg => g_fld (evg rfl hg)) rfl rfl ?_
          refine q_lazy rfl (fun hg => g_load (evg rfl hg) (by rfl) (by rfl)) rfl rfl ?_
          refine q_lazy rfl (fun hg => g_bin (by first | exact evv rfl | exact evg rfl (by rw [hp]; rfl) | exact evg rfl hp | exact evg rfl hg | exact evg rfl (by first | (simp_all; done) | (simp [*]; done) | fail) | fail) (by first | exact evv rfl | exact evg rfl (by rw [hp]; rfl) | exact evg rfl hp | exact evg rfl hg | exact evg rfl (by first | (simp_all; done) | (simp [*]; done) | fail) | fail) (by rfl)) rfl rfl ?_
          refine q_give (g_pick (b := false) (evv rfl) (fun h => by cases h) (fun _ => (evv rfl))) rfl rfl ?_
          refine q_give (g_move (evv rfl)) rfl rfl ?_
          refine q_sure rfl (g_move (evv rfl)) rfl rfl ?_
          refine q_sure rfl (g_bin (evv rfl) (evv rfl) (by rfl)) rfl rfl ?_
          refine q_sure rfl (g_move (evv rfl)) rfl rfl ?_
          refine q_lazy rfl (fun hg => g_move (by first | exact evv rfl | exact evg rfl (by rw [hp]; rfl) | exact evg rfl hp | exact evg rfl hg | exact evg rfl (by first | (simp_all; done) | (simp [*]; done) | fail) | fail)) rfl rfl ?_
          refine q_lazy rfl (fun hg => g_move (by first | exact evv rfl | exact evg rfl (by rw [hp]; rfl) | exact evg rfl hp | exact evg rfl hg | exact evg rfl (by first | (simp_all; done) | (simp [*]; done) | fail) | fail)) rfl rfl ?_
          refine q_lazy rfl (fun hg => g_nil (by first | exact evv rfl | exact evg rfl (by rw [hp]; rfl) | exact evg rfl hp | exact evg rfl hg | exact evg rfl (by first | (simp_all; done) | (simp [*]; done) | fail) | fail)) rfl rfl ?_
          refine q_lazy rfl (fun hg => g_fld (evg rfl hg)) rfl rfl ?_
          refine q_lazy rfl (fun hg => g_idxA (evg rfl hg) (evg rfl hg) (by omega) (by omega)) rfl rfl ?_
          refine q_lazy (v0 := undef) rfl (fun hg => absurd hg (by first | (simp; done) | fail)) rfl rfl ?_
          refine q_lazy rfl (fun hg => g_move (by first | exact evv rfl | exact evg rfl (by rw [hp]; rfl) | exact evg rfl hp | exact evg rfl hg | exact evg rfl (by first | (simp_all; done) | (simp [*]; done) | fail) | fail)) rfl rfl ?_
          refine q_lazy rfl (fun hg => g_move (by first | exact evv rfl | exact evg rfl (by rw [hp]; rfl) | exact evg rfl hp | exact evg rfl hg | exact evg rfl (by first | (simp_all; done) | (simp [*]; done) | fail) | fail)) rfl rfl ?_
          refine q_lazy rfl (fun hg => g_nil (by first | exact evv rfl | exact evg rfl (by rw [hp]; rfl) | exact evg rfl hp | exact evg rfl hg | exact evg rfl (by first | (simp_all; done) | (simp [*]; done) | fail) | fail)) rfl rfl ?_
          refine q_lazy rfl (fun hg => g_fld (evg rfl hg)) rfl rfl ?_
          refine q_lazy rfl (fun hg => g_idxA (evg rfl hg) (evg rfl hg) (by omega) (by omega)) rfl rfl ?_
          refine q_lazy (v0 := undef) rfl (fun hg => absurd hg (by first | (simp; done) | fail)) rfl rfl ?_
          refine q_lazy (v0 := undef) rfl (fun hg => absurd hg (by first | (simp; done) | fail)) rfl rfl ?_
          refine q_lazy (v0 := undef) rfl (fun hg => absurd hg (by first | (simp; done) | fail)) rfl rfl ?_
          refine q_sure rfl (g_pick (b := false) (evv rfl) (fun h => by cases h) (fun _ => (evv rfl))) rfl rfl ?_
          refine q_give (g_pick (b := false) (evv rfl) (fun h => by cases h) (fun _ => (evv rfl))) rfl rfl ?_
          refine q_nil ?_
          refine c_code ?_
          refine r_cond_false rfl ?_
          refine r_skip ?_
          refine c_code ?_
          refine r_seq ?_
          refine r_region (id := 18) ?_
          refine o_give (g_move (evv rfl)) rfl rfl ?_
          (refine o_call rfl _ (PickR.ent (K := blk _)) (goes_b _ _ _ _ _ _ _ _ (by assumption)) rfl ?_; rintro _ _ ⟨rfl, rfl⟩)
          refine o_give (g_assign (evv rfl)) rfl rfl ?_
          refine o_nil ?_
          refine c_code ?_
          refine r_seq ?_
          refine r_seq ?_
          refine r_region (id := 19) ?_
          refine o_give (g_move (evv rfl)) rfl rfl ?_
          refine o_give (g_bin (evv rfl) (evv rfl) (by rfl)) rfl rfl ?_
          refine o_nil ?_
          refine c_code ?_
          refine r_cond_false rfl ?_
          refine r_skip ?_
          refine c_code ?_
          refine r_seq ?_
          refine r_seq ?_
          refine r_region (id := 21) ?_
          refine o_give (g_move (evv rfl)) rfl rfl ?_
          refine o_nil ?_
          refine c_code ?_
          refine r_cond rfl (fun c5 => ?_) (fun c5 => ?_) <;> (try simp only [decide_eq_true_eq, decide_eq_false_iff_not, Bool.and_eq_true, Bool.or_eq_true, Bool.not_eq_true', Bool.and_eq_false_iff, Bool.or_eq_false_iff, Bool.not_eq_false', Bool.not_eq_true, Bool.not_eq_false, Bool.true_eq_false, Bool.false_eq_true, Int.not_lt, Int.not_le, not_and, not_or, ne_eq] at c5)
          · simp only [if_pos c5]
            rw [if_neg (by decide)]
            refine r_seq ?_
            refine r_region (id := 22) ?_
            refine o_give (g_assign (evv rfl)) rfl rfl ?_
            refine o_nil ?_
            refine c_code ?_
            first | refine r_ret (rs := [.tmp 4]) rfl rfl _ (Lay.ent (L' := blk r (rpB b0 b1 s0 s1 lv (am - 1) (decide (am = 1))) :: F)) ?_ | refine c_end (rs := [.tmp 4]) rfl rfl _ (Lay.ent (L' := blk r (rpB b0 b1 s0 s1 lv (am - 1) (decide (am = 1))) :: F)) ?_
            (refine ⟨?_, ?_⟩ <;> first | rfl | trivial | omega)
          · simp only [if_neg c5]
            rw [if_pos trivial]
            refine r_skip ?_
            refine c_code ?_
            refine r_seq ?_
            refine r_seq ?_
            refine r_region (id := 23) ?_
            refine o_give (g_move (evv rfl)) rfl rfl ?_
            refine o_give (g_bin (evv rfl) (evv rfl) (by rfl)) rfl rfl ?_
            refine o_nil ?_
            refine c_code ?_
            refine r_cond_true rfl ?_
            repeat (first | refine r_seq ?_ | refine c_code ?_ | refine c_blk ?_ | refine r_block ?_ | refine r_skip ?_)
            refine r_held (id := 24) (blk q ⟨[.int .i64 kind, .int .i64 1, bv, .int .i64 n, kv], 47⟩ :: F) Mixed.h ?_
            refine h_give (i := 0) (by kernel_rfl) rfl (g_move (evv rfl)) rfl rfl ?_
            refine h_give (i := 1) (by kernel_rfl) rfl (g_fld (evv rfl)) rfl rfl ?_
            refine h_give (i := 2) (by kernel_rfl) rfl (g_load (evv rfl) (by rfl) (by rfl)) rfl rfl ?_
            refine h_give (i := 3) (by kernel_rfl) rfl (g_move (evv rfl)) rfl rfl ?_
            refine h_give (i := 4) (by kernel_rfl) rfl (g_fld (evv rfl)) rfl rfl ?_
            refine h_give (i := 5) (by kernel_rfl) rfl (g_load (evv rfl) (by rfl) (by rfl)) rfl rfl ?_
            refine h_give (i := 6) (by kernel_rfl) rfl (g_nil (evv rfl)) rfl rfl ?_
            refine h_give (i := 7) (by kernel_rfl) rfl (g_fld (evv rfl)) rfl rfl ?_
            refine h_give (i := 8) (by kernel_rfl) rfl (g_idxA (evv rfl) (evv rfl) (by omega) (by omega)) rfl rfl ?_
            refine h_give (i := 11) (by kernel_rfl) rfl (g_nil (evv rfl)) rfl rfl ?_
            refine h_give (i := 12) (by kernel_rfl) rfl (g_fld (evv rfl)) rfl rfl ?_
            refine h_one (i := 9) (by kernel_rfl) rfl (Lay.ent) ?_
            refine o_give (g_load (evv rfl) (by rfl) (by rfl)) rfl rfl ?_
            refine o_nil ?_
            refine h_give (i := 10) (by kernel_rfl) rfl (g_lenS TyU.h (evv rfl)) rfl rfl ?_
            refine h_give (i := 13) (by kernel_rfl) rfl (g_idxA (evv rfl) (evv rfl) (by omega) (by omega)) rfl rfl ?_
            refine h_one (i := 14) (by kernel_rfl) rfl (Lay.ent) ?_
            refine o_store1 (evv rfl) (evv rfl) (by rfl) (by rfl) (by rfl) ?_
            refine o_nil ?_
            refine h_done (by kernel_rfl) (Lay.ent) ?_
            refine c_code ?_
            refine r_seq ?_
            refine r_seq ?_
            refine r_region (id := 25) ?_
            refine o_give (g_move (evv rfl)) rfl rfl ?_
            refine o_give (g_bin (evv rfl) (evv rfl) (by rfl)) rfl rfl ?_
            refine o_nil ?_
            refine c_code ?_
            refine r_cond_false rfl ?_
            refine r_skip ?_
            refine c_code ?_
            refine r_seq ?_
            refine r_seq ?_
            refine r_region (id := 28) ?_
            refine o_give (g_move (evv rfl)) rfl rfl ?_
            refine o_give (g_bin (evv rfl) (evv rfl) (by rfl)) rfl rfl ?_
            refine o_nil ?_
            refine c_code ?_
            refine r_cond_false rfl ?_
            refine r_skip ?_
            refine c_code ?_
            refine r_seq ?_
            refine r_region (id := 30) ?_
            refine o_give (g_assign (evv rfl)) rfl rfl ?_
            refine o_nil ?_
            refine c_code ?_
            first | refine r_ret (rs := [.tmp 4]) rfl rfl _ (Lay.ent (L' := blk r (rpB b0 b1 s0 b1.length lv (am - 1) (decide (am = 1))) :: F)) ?_ | refine c_end (rs := [.tmp 4]) rfl rfl _ (Lay.ent (L' := blk r (rpB b0 b1 s0 b1.length lv (am - 1) (decide (am = 1))) :: F)) ?_
            (refine ⟨?_, ?_⟩ <;> first | rfl | trivial | omega)
  · refine r_region (id := 2) ?_
    refine o_give (g_move (evv rfl)) rfl rfl ?_
    refine o_give (g_bin (evv rfl) (evv rfl) (by rfl)) rfl rfl ?_
    refine o_nil ?_
    refine c_code ?_
    refine r_cond_false rfl ?_
    refine r_skip ?_
    refine c_code ?_
    refine r_seq ?_
    refine r_seq ?_
    refine r_region (id := 8) ?_
    refine o_give (g_move (evv rfl)) rfl rfl ?_
    refine o_give (g_bin (evv rfl) (evv rfl) (by rfl)) rfl rfl ?_
    refine o_nil ?_
    refine c_code ?_
    refine r_cond_false rfl ?_
    refine r_skip ?_
    refine c_code ?_
    refine r_seq ?_
    refine r_seq ?_
    refine r_region (id := 11) ?_
    refine o_give (g_move (evv rfl)) rfl rfl ?_
    refine o_give (g_bin (evv rfl) (evv rfl) (by rfl)) rfl rfl ?_
    refine o_give (g_move (evv rfl)) rfl rfl ?_
    refine o_gyes rfl ?_
    refine o_give (g_fld (evv rfl)) rfl rfl ?_
    refine o_gyes rfl ?_
    refine o_give (g_load (evv rfl) (by rfl) (by rfl)) rfl rfl ?_
    refine o_gyes rfl ?_
    refine o_give (g_bin (evv rfl) (evv rfl) (by rfl)) rfl rfl ?_
    refine o_gyes rfl ?_
    refine o_give (g_move (evv rfl)) rfl rfl ?_
    refine o_lazy rfl (fun hg => g_fld (evv rfl)) rfl rfl ?_
    refine o_lazy rfl (fun hg => g_load (evg rfl hg) (by rfl) (by rfl)) rfl rfl ?_
    refine o_lazy rfl (fun hg => g_bin (by first | exact evv rfl | exact evg rfl (by rw [hp]; rfl) | exact evg rfl hp | exact evg rfl hg | exact evg rfl (by first | (simp_all; done) | (simp [*]; done) | fail) | fail) (by first | exact evv rfl | exact evg rfl (by rw [hp]; rfl) | exact evg rfl hp | exact evg rfl hg | exact evg rfl (by first | (simp_all; done) | (simp [*]; done) | fail) | fail) (by rfl)) rfl rfl ?_
    refine o_gyes rfl ?_
    refine o_give (g_pick_or (evv rfl) (evv rfl) (fun hp => (by first | exact evv rfl | exact evg rfl (by rw [hp]; rfl) | exact evg rfl hp | exact evg rfl hg | exact evg rfl (by first | (simp_all; done) | (simp [*]; done) | fail) | fail))) rfl rfl ?_
    refine o_give (g_pick (b := true) (evv rfl) (fun _ => (evv rfl)) (fun h => by cases h)) rfl rfl ?_
    refine o_nil ?_
    refine c_code ?_
    refine r_cond rfl (fun c1 => ?_) (fun c1 => ?_) <;> (try simp only [decide_eq_true_eq, decide_eq_false_iff_not, Bool.and_eq_true, Bool.or_eq_true, Bool.not_eq_true', Bool.and_eq_false_iff, Bool.or_eq_false_iff, Bool.not_eq_false', Bool.not_eq_true, Bool.not_eq_false, Bool.true_eq_false, Bool.false_eq_true, Int.not_lt, Int.not_le, not_and, not_or, ne_eq] at c1)
    · have hd : doT ⟨b0, s0, b1, s1, lv, am, dn⟩ ⟨kind, area, bv, b, n, kv, ks⟩ = (1, ⟨b0, s0, b1, s1, lv, am, dn⟩) := by
        rw [doT_2 hkc, wipT, chg_arg (by decide) (show area < 0 ∨ 1 < area by omega)]; rfl
      rw [hd]
      refine r_seq ?_
      refine r_region (id := 12) ?_
      refine o_give (g_assign (evv rfl)) rfl rfl ?_
      refine o_nil ?_
      refine c_code ?_
      first | refine r_ret (rs := [.tmp 4]) rfl rfl _ (Ent.drop) ?_ | refine c_end (rs := [.tmp 4]) rfl rfl _ (Ent.drop) ?_
      (refine ⟨?_, ?_⟩ <;> first | rfl | trivial | omega)
    · have hA : area = 0 ∨ area = 1 := by omega
      clear c1
      refine r_skip ?_
      refine c_code ?_
      refine r_seq ?_
      refine r_seq ?_
      refine r_region (id := 13) ?_
      refine o_give (g_move (evv rfl)) rfl rfl ?_
      refine o_give (g_nil (evv rfl)) rfl rfl ?_
      refine o_give (g_fld (evv rfl)) rfl rfl ?_
      refine o_give (g_load (evv rfl) (by rfl) (by rfl)) rfl rfl ?_
      refine o_nil ?_
      refine c_code ?_
      refine r_cond rfl (fun c2 => ?_) (fun c2 => ?_) <;> (try simp only [decide_eq_true_eq, decide_eq_false_iff_not, Bool.and_eq_true, Bool.or_eq_true, Bool.not_eq_true', Bool.and_eq_false_iff, Bool.or_eq_false_iff, Bool.not_eq_false', Bool.not_eq_true, Bool.not_eq_false, Bool.true_eq_false, Bool.false_eq_true, Int.not_lt, Int.not_le, not_and, not_or, ne_eq] at c2)
      · subst c2
        have hd : doT ⟨b0, s0, b1, s1, lv, am, true⟩ ⟨kind, area, bv, b, n, kv, ks⟩ = (170, ⟨b0, s0, b1, s1, lv, am, true⟩) := by
          rw [doT_2 hkc, wipT, chg_down (show (2 : Int) = 3 ∨ area = 0 ∨ area = 1 by omega) rfl]; rfl
        rw [hd]
        refine r_seq ?_
        refine r_region (id := 14) ?_
        refine o_give (g_assign (evv rfl)) rfl rfl ?_
        refine o_nil ?_
        refine c_code ?_
        first | refine r_ret (rs := [.tmp 4]) rfl rfl _ (Ent.drop) ?_ | refine c_end (rs := [.tmp 4]) rfl rfl _ (Ent.drop) ?_
        (refine ⟨?_, ?_⟩ <;> first | rfl | trivial | omega)
      · subst c2
        by_cases hL : area = (lv : Int)
        · have hd : doT ⟨b0, s0, b1, s1, lv, am, false⟩ ⟨kind, area, bv, b, n, kv, ks⟩ = (6, ⟨b0, s0, b1, s1, lv, am, false⟩) := by
            rw [doT_2 hkc, wipT, chg_wipe hA rfl hL]; rfl
          rw [hd]
          refine r_skip ?_
          refine c_code ?_
          refine r_seq ?_
          refine r_region (id := 15) ?_
          refine o_give (g_move (evv rfl)) rfl rfl ?_
          refine o_give (g_nil (evv rfl)) rfl rfl ?_
          refine o_give (g_fld (evv rfl)) rfl rfl ?_
          refine o_give (g_load (evv rfl) (by rfl) (by rfl)) rfl rfl ?_
          refine o_giveN (g_bin (evv rfl) (evv rfl) (by rfl)) (by simp only [inR]; omega) rfl ?_
          refine o_give (g_assign (evv rfl)) rfl rfl ?_
          refine o_nil ?_
          refine c_code ?_
          refine r_seq ?_
          refine r_seq ?_
          refine r_quiet (id := 16) Mixed.h (by kernel_rfl) ?_
          refine q_give (g_move (evv rfl)) rfl rfl ?_
          refine q_give (g_bin (evv rfl) (evv rfl) (by rfl)) rfl rfl ?_
          refine q_give (g_move (evv rfl)) rfl rfl ?_
          refine q_sure rfl (g_fld (evv rfl)) rfl rfl ?_
          refine q_sure rfl (g_load (evv rfl) (by rfl) (by rfl)) rfl rfl ?_
          refine q_sure rfl (g_move (evv rfl)) rfl rfl ?_
          refine q_sure rfl (g_nil (evv rfl)) rfl rfl ?_
          refine q_sure rfl (g_fld (evv rfl)) rfl rfl ?_
          refine q_sure rfl (g_load (evv rfl) (by rfl) (by rfl)) rfl rfl ?_
          refine q_sure rfl (g_bin (evv rfl) (evv rfl) (by rfl)) rfl rfl ?_
          refine q_give (g_pick (b := true) (evv rfl) (fun _ => (evv rfl)) (fun h => by cases h)) rfl rfl ?_
          refine q_give (g_move (evv rfl)) rfl rfl ?_
          refine q_lazy rfl (fun hg => g_move (by first | exact evv rfl | exact evg rfl (by rw [hp]; rfl) | exact evg rfl hp | exact evg rfl hg | exact evg rfl (by first | (simp_all; done) | (simp [*]; done) | fail) | fail)) rfl rfl ?_
          refine q_lazy rfl (fun hg => g_bin (by first | exact evv rfl | exact evg rfl (by rw [hp]; rfl) | exact evg rfl hp | exact evg rfl hg | exact evg rfl (by first | (simp_all; done) | (simp [*]; done) | fail) | fail) (by first | exact evv rfl | exact evg rfl (by rw [hp]; rfl) | exact evg rfl hp | exact evg rfl hg | exact evg rfl (by first | (simp_all; done) | (simp [*]; done) | fail) | fail) (by rfl)) rfl rfl ?_
          refine q_lazy rfl (fun hg => g_move (by first | exact evv rfl | exact evg rfl (by rw [hp]; rfl) | exact evg rfl hp | exact evg rfl hg | exact evg rfl (by first | (simp_all; done) | (simp [*]; done) | fail) | fail)) rfl rfl ?_
          refine q_lazy rfl (fun hg => g_move (by first | exact evv rfl | exact evg rfl (by rw [hp]; rfl) | exact evg rfl hp | exact evg rfl hg | exact evg rfl (by first | (simp_all; done) | (simp [*]; done) | fail) | fail)) rfl rfl ?_
          refine q_lazy rfl (fun hg => g_move (by first | exact evv rfl | exact evg rfl (by rw [hp]; rfl) | exact evg rfl hp | exact evg rfl hg | exact evg rfl (by first | (simp_all; done) | (simp [*]; done) | fail) | fail)) rfl rfl ?_
          refine q_lazy rfl (fun hg => g_nil (by first | exact evv rfl | exact evg rfl (by rw [hp]; rfl) | exact evg rfl hp | exact evg rfl hg | exact evg rfl (by first | (simp_all; done) | (simp [*]; done) | fail) | fail)) rfl rfl ?_
          refine q_lazy rfl (fun hg => g_fld (evg rfl hg)) rfl rfl ?_
          refine q_lazy rfl (fun hg => g_idxA (evg rfl hg) (evg rfl hg) (by omega) (by omega)) rfl rfl ?_
          refine q_lazy (v0 := undef) rfl (fun hg => absurd hg (by first | (simp; done) | fail)) rfl rfl ?_
          refine q_lazy rfl (fun hg => g_move (by first | exact evv rfl | exact evg rfl (by rw [hp]; rfl) | exact evg rfl hp | exact evg rfl hg | exact evg rfl (by first | (simp_all; done) | (simp [*]; done) | fail) | fail)) rfl rfl ?_
          refine q_lazy rfl (fun hg => g_move (by first | exact evv rfl | exact evg rfl (by rw [hp]; rfl) | exact evg rfl hp | exact evg rfl hg | exact evg rfl (by first | (simp_all; done) | (simp [*]; done) | fail) | fail)) rfl rfl ?_
          refine q_lazy rfl (fun hg => g_nil (by first | exact evv rfl | exact evg rfl (by rw [hp]; rfl) | exact evg rfl hp | exact evg rfl hg | exact evg rfl (by first | (simp_all; done) | (simp [*]; done) | fail) | fail)) rfl rfl ?_
          refine q_lazy rfl (fun hg => g_fld (evg rfl hg)) rfl rfl ?_
          refine q_lazy rfl (fun hg => g_idxA (evg rfl hg) (evg rfl hg) (by omega) (by omega)) rfl rfl ?_
          refine q_lazy (v0 := undef) rfl (fun hg => absurd hg (by first | (simp; done) | fail)) rfl rfl ?_
          refine q_lazy (v0 := undef) rfl (fun hg => absurd hg (by first | (simp; done) | fail)) rfl rfl ?_
          refine q_lazy (v0 := undef) rfl (fun hg => absurd hg (by first | (simp; done) | fail)) rfl rfl ?_
          refine q_lazy rfl (fun hg => g_pick (b := false) (by first | exact evv rfl | exact evg rfl (by rw [hp]; rfl) | exact evg rfl hp | exact evg rfl hg | exact evg rfl (by first | (simp_all; done) | (simp [*]; done) | fail) | fail) (fun h => by cases h) (fun _ => (by first | exact evv rfl | exact evg rfl (by rw [hp]; rfl) | exact evg rfl hp | exact evg rfl hg | exact evg rfl (by first | (simp_all; done) | (simp [*]; done) | fail) | fail))) rfl rfl ?_
          refine q_give (g_pick_or (evv rfl) (evv rfl) (fun hp => (by first | exact evv rfl | exact evg rfl (by rw [hp]; rfl) | exact evg rfl hp | exact evg rfl hg | exact evg rfl (by first | (simp_all; done) | (simp [*]; done) | fail) | fail))) rfl rfl ?_
          refine q_nil ?_
          refine c_code ?_
          refine r_cond rfl (fun c3 => ?_) (fun c3 => ?_) <;> (try simp only [decide_eq_true_eq, decide_eq_false_iff_not, Bool.and_eq_true, Bool.or_eq_true, Bool.not_eq_true', Bool.and_eq_false_iff, Bool.or_eq_false_iff, Bool.not_eq_false', Bool.not_eq_true, Bool.not_eq_false, Bool.true_eq_false, Bool.false_eq_true, Int.not_lt, Int.not_le, not_and, not_or, ne_eq] at c3)
          · refine r_seq ?_
            refine r_region (id := 17) ?_
            refine o_give (g_assign (evv rfl)) rfl rfl ?_
            refine o_nil ?_
            refine c_code ?_
            first | refine r_ret (rs := [.tmp 4]) rfl rfl _ (Ent.drop) ?_ | refine c_end (rs := [.tmp 4]) rfl rfl _ (Ent.drop) ?_
            (refine ⟨?_, ?_⟩ <;> first | rfl | trivial | omega)
          · exact absurd hL c3.1
        · have hd : doT ⟨b0, s0, b1, s1, lv, am, false⟩ ⟨kind, area, bv, b, n, kv, ks⟩ = (if am = 1 then 170 else 0, if (if am = 1 then (170 : Int) else 0) = 0 then ((tick ⟨b0, s0, b1, s1, lv, am, false⟩).setB area []).setS area 0 else tick ⟨b0, s0, b1, s1, lv, am, false⟩) := by
            rw [doT_2 hkc, wipT, chg_go (show (2 : Int) = 3 ∨ area = 0 ∨ area = 1 by omega) rfl (fun hh => hL hh.2) (by omega)]
          rw [hd]
          refine r_skip ?_
          refine c_code ?_
          refine r_seq ?_
          refine r_region (id := 15) ?_
          refine o_give (g_move (evv rfl)) rfl rfl ?_
          refine o_give (g_nil (evv rfl)) rfl rfl ?_
          refine o_give (g_fld (evv rfl)) rfl rfl ?_
          refine o_give (g_load (evv rfl) (by rfl) (by rfl)) rfl rfl ?_
          refine o_giveN (g_bin (evv rfl) (evv rfl) (by rfl)) (by simp only [inR]; omega) rfl ?_
          refine o_give (g_assign (evv rfl)) rfl rfl ?_
          refine o_nil ?_
          refine c_code ?_
          refine r_seq ?_
          refine r_seq ?_
          refine r_quiet (id := 16) Mixed.h (by kernel_rfl) ?_
          refine q_give (g_move (evv rfl)) rfl rfl ?_
          refine q_give (g_bin (evv rfl) (evv rfl) (by rfl)) rfl rfl ?_
          refine q_give (g_move (evv rfl)) rfl rfl ?_
          refine q_sure rfl (g_fld (evv rfl)) rfl rfl ?_
          refine q_sure rfl (g_load (evv rfl) (by rfl) (by rfl)) rfl rfl ?_
          refine q_sure rfl (g_move (evv rfl)) rfl rfl ?_
          refine q_sure rfl (g_nil (evv rfl)) rfl rfl ?_
          refine q_sure rfl (g_fld (evv rfl)) rfl rfl ?_
          refine q_sure rfl (g_load (evv rfl) (by rfl) (by rfl)) rfl rfl ?_
          refine q_sure rfl (g_bin (evv rfl) (evv rfl) (by rfl)) rfl rfl ?_
          refine q_give (g_pick (b := true) (evv rfl) (fun _ => (evv rfl)) (fun h => by cases h)) rfl rfl ?_
          refine q_give (g_move (evv rfl)) rfl rfl ?_
          refine q_lazy rfl (fun hg => g_move (by first | exact evv rfl | exact evg rfl (by rw [hp]; rfl) | exact evg rfl hp | exact evg rfl hg | exact evg rfl (by first | (simp_all; done) | (simp [*]; done) | fail) | fail)) rfl rfl ?_
          refine q_lazy rfl (fun hg => g_bin (by first | exact evv rfl | exact evg rfl (by rw [hp]; rfl) | exact evg rfl hp | exact evg rfl hg | exact evg rfl (by first | (simp_all; done) | (simp [*]; done) | fail) | fail) (by first | exact evv rfl | exact evg rfl (by rw [hp]; rfl) | exact evg rfl hp | exact evg rfl hg | exact evg rfl (by first | (simp_all; done) | (simp [*]; done) | fail) | fail) (by rfl)) rfl rfl ?_
          refine q_lazy rfl (fun hg => g_move (by first | exact evv rfl | exact evg rfl (by rw [hp]; rfl) | exact evg rfl hp | exact evg rfl hg | exact evg rfl (by first | (simp_all; done) | (simp [*]; done) | fail) | fail)) rfl rfl ?_
          refine q_lazy rfl (fun hg => g_move (by first | exact evv rfl | exact evg rfl (by rw [hp]; rfl) | exact evg rfl hp | exact evg rfl hg | exact evg rfl (by first | (simp_all; done) | (simp [*]; done) | fail) | fail)) rfl rfl ?_
          refine q_lazy rfl (fun hg => g_move (by first | exact evv rfl | exact evg rfl (by rw [hp]; rfl) | exact evg rfl hp | exact evg rfl hg | exact evg rfl (by first | (simp_all; done) | (simp [*]; done) | fail) | fail)) rfl rfl ?_
          refine q_lazy rfl (fun hg => g_nil (by first | exact evv rfl | exact evg rfl (by rw [hp]; rfl) | exact evg rfl hp | exact evg rfl hg | exact evg rfl (by first | (simp_all; done) | (simp [*]; done) | fail) | fail)) rfl rfl ?_
          refine q_lazy rfl (fun hg => g_fld (evg rfl hg)) rfl rfl ?_
          refine q_lazy rfl (fun hg => g_idxA (evg rfl hg) (evg rfl hg) (by omega) (by omega)) rfl rfl ?_
          refine q_lazy (v0 := undef) rfl (fun hg => absurd hg (by first | (simp; done) | fail)) rfl rfl ?_
          refine q_lazy rfl (fun hg => g_move (by first | exact evv rfl | exact evg rfl (by rw [hp]; rfl) | exact evg rfl hp | exact evg rfl hg | exact evg rfl (by first | (simp_all; done) | (simp [*]; done) | fail) | fail)) rfl rfl ?_
          refine q_lazy rfl (fun hg => g_move (by first | exact evv rfl | exact evg rfl (by rw [hp]; rfl) | exact evg rfl hp | exact evg rfl hg | exact evg rfl (by first | (simp_all; done) | (simp [*]; done) | fail) | fail)) rfl rfl ?_
          refine q_lazy rfl (fun hg => g_nil (by first | exact evv rfl | exact evg rfl (by rw [hp]; rfl) | exact evg rfl hp | exact evg rfl hg | exact evg rfl (by first | (simp_all; done) | (simp [*]; done) | fail) | fail)) rfl rfl ?_
          refine q_lazy rfl (fun hg => g_fld (evg rfl hg)) rfl rfl ?_
          refine q_lazy rfl (fun hg => g_idxA (evg rfl hg) (evg rfl hg) (by omega) (by omega)) rfl rfl ?_
          refine q_lazy (v0 := undef) rfl (fun hg => absurd hg (by first | (simp; done) | fail)) rfl rfl ?_
          refine q_lazy (v0 := undef) rfl (fun hg => absurd hg (by first | (simp; done) | fail)) rfl rfl ?_
          refine q_lazy (v0 := undef) rfl (fun hg => absurd hg (by first | (simp; done) | fail)) rfl rfl ?_
          refine q_lazy rfl (fun hg => g_pick (b := false) (by first | exact evv rfl | exact evg rfl (by rw [hp]; rfl) | exact evg rfl hp | exact evg rfl hg | exact evg rfl (by first | (simp_all; done) | (simp [*]; done) | fail) | fail) (fun h => by cases h) (fun _ => (by first | exact evv rfl | exact evg rfl (by rw [hp]; rfl) | exact evg rfl hp | exact evg rfl hg | exact evg rfl (by first | (simp_all; done) | (simp [*]; done) | fail) | fail))) rfl rfl ?_
          refine q_give (g_pick_or (evv rfl) (evv rfl) (fun hp => (by first | exact evv rfl | exact evg rfl (by rw [hp]; rfl) | exact evg rfl hp | exact evg rfl hg | exact evg rfl (by first | (simp_all; done) | (simp [*]; done) | fail) | fail))) rfl rfl ?_
          refine q_nil ?_
          refine c_code ?_
          refine r_cond rfl (fun c3 => ?_) (fun c3 => ?_) <;> (try simp only [decide_eq_true_eq, decide_eq_false_iff_not, Bool.and_eq_true, Bool.or_eq_true, Bool.not_eq_true', Bool.and_eq_false_iff, Bool.or_eq_false_iff, Bool.not_eq_false', Bool.not_eq_true, Bool.not_eq_false, Bool.true_eq_false, Bool.false_eq_true, Int.not_lt, Int.not_le, not_and, not_or, ne_eq] at c3)
          · exact absurd (c3.resolve_right fun h => h) hL
          · clear c3
            rcases hA with rfl | rfl
            · refine r_skip ?_
              refine c_code ?_
              refine r_seq ?_
              refine r_region (id := 18) ?_
              refine o_give (g_move (evv rfl)) rfl rfl ?_
              (refine o_call rfl _ (PickR.ent (K := blk _)) (goes_b _ _ _ _ _ _ _ _ (by assumption)) rfl ?_; rintro _ _ ⟨rfl, rfl⟩)
              refine o_give (g_assign (evv rfl)) rfl rfl ?_
              refine o_nil ?_
              refine c_code ?_
              refine r_seq ?_
              refine r_seq ?_
              refine r_region (id := 19) ?_
              refine o_give (g_move (evv rfl)) rfl rfl ?_
              refine o_give (g_bin (evv rfl) (evv rfl) (by rfl)) rfl rfl ?_
              refine o_nil ?_
              refine c_code ?_
              refine r_cond_false rfl ?_
              refine r_skip ?_
              refine c_code ?_
              refine r_seq ?_
              refine r_seq ?_
              refine r_region (id := 21) ?_
              refine o_give (g_move (evv rfl)) rfl rfl ?_
              refine o_nil ?_
              refine c_code ?_
              refine r_cond rfl (fun c5 => ?_) (fun c5 => ?_) <;> (try simp only [decide_eq_true_eq, decide_eq_false_iff_not, Bool.and_eq_true, Bool.or_eq_true, Bool.not_eq_true', Bool.and_eq_false_iff, Bool.or_eq_false_iff, Bool.not_eq_false', Bool.not_eq_true, Bool.not_eq_false, Bool.true_eq_false, Bool.false_eq_true, Int.not_lt, Int.not_le, not_and, not_or, ne_eq] at c5)
              · simp only [if_pos c5]
                rw [if_neg (by decide)]
                refine r_seq ?_
                refine r_region (id := 22) ?_
                refine o_give (g_assign (evv rfl)) rfl rfl ?_
                refine o_nil ?_
                refine c_code ?_
                first | refine r_ret (rs := [.tmp 4]) rfl rfl _ (Lay.ent (L' := blk r (rpB b0 b1 s0 s1 lv (am - 1) (decide (am = 1))) :: F)) ?_ | refine c_end (rs := [.tmp 4]) rfl rfl _ (Lay.ent (L' := blk r (rpB b0 b1 s0 s1 lv (am - 1) (decide (am = 1))) :: F)) ?_
                (refine ⟨?_, ?_⟩ <;> first | rfl | trivial | omega)
              · simp only [if_neg c5]
                rw [if_pos trivial]
                refine r_skip ?_
                refine c_code ?_
                refine r_seq ?_
                refine r_seq ?_
                refine r_region (id := 23) ?_
                refine o_give (g_move (evv rfl)) rfl rfl ?_
                refine o_give (g_bin (evv rfl) (evv rfl) (by rfl)) rfl rfl ?_
                refine o_nil ?_
                refine c_code ?_
                refine r_cond_false rfl ?_
                refine r_skip ?_
                refine c_code ?_
                refine r_seq ?_
                refine r_seq ?_
                refine r_region (id := 25) ?_
                refine o_give (g_move (evv rfl)) rfl rfl ?_
                refine o_give (g_bin (evv rfl) (evv rfl) (by rfl)) rfl rfl ?_
                refine o_nil ?_
                refine c_code ?_
                refine r_cond_true rfl ?_
                refine r_seq ?_
                refine r_draw (id := 26) Mixed.h ?_
                refine d_take (i := 0) (by kernel_rfl) rfl (fun W0 => g_move (evv rfl)) rfl ?_
                refine d_take (i := 1) (by kernel_rfl) rfl (fun W0 => g_fld (evv rfl)) rfl ?_
                refine d_take (i := 3) (by kernel_rfl) rfl (fun W0 => g_nil (evv rfl)) rfl ?_
                refine d_take (i := 4) (by kernel_rfl) rfl (fun W0 => g_fld (evv rfl)) rfl ?_
                refine d_one (i := 2) (by kernel_rfl) rfl ?_
                refine o_give (g_load (evv rfl) (by rfl) (by rfl)) rfl rfl ?_
                refine o_nil ?_
                refine d_take (i := 5) (by kernel_rfl) rfl (fun W0 => g_idxA (evv rfl) (evv rfl) (by omega) (by omega)) rfl ?_
                refine d_one (i := 6) (by kernel_rfl) rfl ?_
                refine o_store1 (evv rfl) (evv rfl) (by rfl) (by rfl) (by rfl) ?_
                refine o_nil ?_
                refine d_done (by kernel_rfl) ?_
                refine c_code ?_
                refine r_draw (id := 27) Mixed.h ?_
                refine d_take (i := 0) (by kernel_rfl) rfl (fun W0 => g_move (evv rfl)) rfl ?_
                refine d_take (i := 1) (by kernel_rfl) rfl (fun W0 => g_fld (evv rfl)) rfl ?_
                refine d_take (i := 3) (by kernel_rfl) rfl (fun W0 => g_nil (evv rfl)) rfl ?_
                refine d_take (i := 4) (by kernel_rfl) rfl (fun W0 => g_fld (evv rfl)) rfl ?_
                refine d_one (i := 2) (by kernel_rfl) rfl ?_
                refine o_give (g_load (evv rfl) (by rfl) (by rfl)) rfl rfl ?_
                refine o_nil ?_
                refine d_take (i := 5) (by kernel_rfl) rfl (fun W0 => g_idxA (evv rfl) (evv rfl) (by omega) (by omega)) rfl ?_
                refine d_one (i := 6) (by kernel_rfl) rfl ?_
                refine o_store1 (evv rfl) (evv rfl) (by rfl) (by rfl) (by rfl) ?_
                refine o_nil ?_
                refine d_done (by kernel_rfl) ?_
                refine c_code ?_
                refine r_seq ?_
                refine r_seq ?_
                refine r_region (id := 28) ?_
                refine o_give (g_move (evv rfl)) rfl rfl ?_
                refine o_give (g_bin (evv rfl) (evv rfl) (by rfl)) rfl rfl ?_
                refine o_nil ?_
                refine c_code ?_
                refine r_cond_false rfl ?_
                refine r_skip ?_
                refine c_code ?_
                refine r_seq ?_
                refine r_region (id := 30) ?_
                refine o_give (g_assign (evv rfl)) rfl rfl ?_
                refine o_nil ?_
                refine c_code ?_
                first | refine r_ret (rs := [.tmp 4]) rfl rfl _ ((Lay.ent (L' := blk r ⟨[.string ⟨#[]⟩, str b1, .int .i64 0, .int .i64 (s1 : Int), .int .i64 (lv : Int), .int .i64 ((am - 1 : Nat) : Int), .bool (decide (am = 1))], 43⟩ :: F))) ?_ | refine c_end (rs := [.tmp 4]) rfl rfl _ ((Lay.ent (L' := blk r ⟨[.string ⟨#[]⟩, str b1, .int .i64 0, .int .i64 (s1 : Int), .int .i64 (lv : Int), .int .i64 ((am - 1 : Nat) : Int), .bool (decide (am = 1))], 43⟩ :: F))) ?_
                (refine ⟨?_, ?_⟩ <;> first | rfl | trivial | omega)
            · refine r_skip ?_
              refine c_code ?_
              refine r_seq ?_
              refine r_region (id := 18) ?_
              refine o_give (g_move (evv rfl)) rfl rfl ?_
              (refine o_call rfl _ (PickR.ent (K := blk _)) (goes_b _ _ _ _ _ _ _ _ (by assumption)) rfl ?_; rintro _ _ ⟨rfl, rfl⟩)
              refine o_give (g_assign (evv rfl)) rfl rfl ?_
              refine o_nil ?_
              refine c_code ?_
              refine r_seq ?_
              refine r_seq ?_
              refine r_region (id := 19) ?_
              refine o_give (g_move (evv rfl)) rfl rfl ?_
              refine o_give (g_bin (evv rfl) (evv rfl) (by rfl)) rfl rfl ?_
              refine o_nil ?_
              refine c_code ?_
              refine r_cond_false rfl ?_
              refine r_skip ?_
              refine c_code ?_
              refine r_seq ?_
              refine r_seq ?_
              refine r_region (id := 21) ?_
              refine o_give (g_move (evv rfl)) rfl rfl ?_
              refine o_nil ?_
              refine c_code ?_
              refine r_cond rfl (fun c5 => ?_) (fun c5 => ?_) <;> (try simp only [decide_eq_true_eq, decide_eq_false_iff_not, Bool.and_eq_true, Bool.or_eq_true, Bool.not_eq_true', Bool.and_eq_false_iff, Bool.or_eq_false_iff, Bool.not_eq_false', Bool.not_eq_true, Bool.not_eq_false, Bool.true_eq_false, Bool.false_eq_true, Int.not_lt, Int.not_le, not_and, not_or, ne_eq] at c5)
              · simp only [if_pos c5]
                rw [if_neg (by decide)]
                refine r_seq ?_
                refine r_region (id := 22) ?_
                refine o_give (g_assign (evv rfl)) rfl rfl ?_
                refine o_nil ?_
                refine c_code ?_
                first | refine r_ret (rs := [.tmp 4]) rfl rfl _ (Lay.ent (L' := blk r (rpB b0 b1 s0 s1 lv (am - 1) (decide (am = 1))) :: F)) ?_ | refine c_end (rs := [.tmp 4]) rfl rfl _ (Lay.ent (L' := blk r (rpB b0 b1 s0 s1 lv (am - 1) (decide (am = 1))) :: F)) ?_
                (refine ⟨?_, ?_⟩ <;> first | rfl | trivial | omega)
              · simp only [if_neg c5]
                rw [if_pos trivial]
                refine r_skip ?_
                refine c_code ?_
                refine r_seq ?_
                refine r_seq ?_
                refine r_region (id := 23) ?_
                refine o_give (g_move (evv rfl)) rfl rfl ?_
                refine o_give (g_bin (evv rfl) (evv rfl) (by rfl)) rfl rfl ?_
                refine o_nil ?_
                refine c_code ?_
                refine r_cond_false rfl ?_
                refine r_skip ?_
                refine c_code ?_
                refine r_seq ?_
                refine r_seq ?_
                refine r_region (id := 25) ?_
                refine o_give (g_move (evv rfl)) rfl rfl ?_
                refine o_give (g_bin (evv rfl) (evv rfl) (by rfl)) rfl rfl ?_
                refine o_nil ?_
                refine c_code ?_
                refine r_cond_true rfl ?_
                refine r_seq ?_
                refine r_draw (id := 26) Mixed.h ?_
                refine d_take (i := 0) (by kernel_rfl) rfl (fun W0 => g_move (evv rfl)) rfl ?_
                refine d_take (i := 1) (by kernel_rfl) rfl (fun W0 => g_fld (evv rfl)) rfl ?_
                refine d_take (i := 3) (by kernel_rfl) rfl (fun W0 => g_nil (evv rfl)) rfl ?_
                refine d_take (i := 4) (by kernel_rfl) rfl (fun W0 => g_fld (evv rfl)) rfl ?_
                refine d_one (i := 2) (by kernel_rfl) rfl ?_
                refine o_give (g_load (evv rfl) (by rfl) (by rfl)) rfl rfl ?_
                refine o_nil ?_
                refine d_take (i := 5) (by kernel_rfl) rfl (fun W0 => g_idxA (evv rfl) (evv rfl) (by omega) (by omega)) rfl ?_
                refine d_one (i := 6) (by kernel_rfl) rfl ?_
                refine o_store1 (evv rfl) (evv rfl) (by rfl) (by rfl) (by rfl) ?_
                refine o_nil ?_
                refine d_done (by kernel_rfl) ?_
                refine c_code ?_
                refine r_draw (id := 27) Mixed.h ?_
                refine d_take (i := 0) (by kernel_rfl) rfl (fun W0 => g_move (evv rfl)) rfl ?_
                refine d_take (i := 1) (by kernel_rfl) rfl (fun W0 => g_fld (evv rfl)) rfl ?_
                refine d_take (i := 3) (by kernel_rfl) rfl (fun W0 => g_nil (evv rfl)) rfl ?_
                refine d_take (i := 4) (by kernel_rfl) rfl (fun W0 => g_fld (evv rfl)) rfl ?_
                refine d_one (i := 2) (by kernel_rfl) rfl ?_
                refine o_give (g_load (evv rfl) (by rfl) (by rfl)) rfl rfl ?_
                refine o_nil ?_
                refine d_take (i := 5) (by kernel_rfl) rfl (fun W0 => g_idxA (evv rfl) (evv rfl) (by omega) (by omega)) rfl ?_
                refine d_one (i := 6) (by kernel_rfl) rfl ?_
                refine o_store1 (evv rfl) (evv rfl) (by rfl) (by rfl) (by rfl) ?_
                refine o_nil ?_
                refine d_done (by kernel_rfl) ?_
                refine c_code ?_
                refine r_seq ?_
                refine r_seq ?_
                refine r_region (id := 28) ?_
                refine o_give (g_move (evv rfl)) rfl rfl ?_
                refine o_give (g_bin (evv rfl) (evv rfl) (by rfl)) rfl rfl ?_
                refine o_nil ?_
                refine c_code ?_
                refine r_cond_false rfl ?_
                refine r_skip ?_
                refine c_code ?_
                refine r_seq ?_
                refine r_region (id := 30) ?_
                refine o_give (g_assign (evv rfl)) rfl rfl ?_
                refine o_nil ?_
                refine c_code ?_
                first | refine r_ret (rs := [.tmp 4]) rfl rfl _ ((Lay.ent (L' := blk r ⟨[str b0, .string ⟨#[]⟩, .int .i64 (s0 : Int), .int .i64 0, .int .i64 (lv : Int), .int .i64 ((am - 1 : Nat) : Int), .bool (decide (am = 1))], 43⟩ :: F))) ?_ | refine c_end (rs := [.tmp 4]) rfl rfl _ ((Lay.ent (L' := blk r ⟨[str b0, .string ⟨#[]⟩, .int .i64 (s0 : Int), .int .i64 0, .int .i64 (lv : Int), .int .i64 ((am - 1 : Nat) : Int), .bool (decide (am = 1))], 43⟩ :: F))) ?_
                (refine ⟨?_, ?_⟩ <;> first | rfl | trivial | omega)
  · refine r_region (id := 2) ?_
    refine o_give (g_move (evv rfl)) rfl rfl ?_
    refine o_give (g_bin (evv rfl) (evv rfl) (by rfl)) rfl rfl ?_
    refine o_nil ?_
    refine c_code ?_
    refine r_cond_false rfl ?_
    refine r_skip ?_
    refine c_code ?_
    refine r_seq ?_
    refine r_seq ?_
    refine r_region (id := 8) ?_
    refine o_give (g_move (evv rfl)) rfl rfl ?_
    refine o_give (g_bin (evv rfl) (evv rfl) (by rfl)) rfl rfl ?_
    refine o_nil ?_
    refine c_code ?_
    refine r_cond_false rfl ?_
    refine r_skip ?_
    refine c_code ?_
    refine r_seq ?_
    refine r_seq ?_
    refine r_region (id := 11) ?_
    refine o_give (g_move (evv rfl)) rfl rfl ?_
    refine o_give (g_bin (evv rfl) (evv rfl) (by rfl)) rfl rfl ?_
    refine o_give (g_move (evv rfl)) rfl rfl ?_
    refine o_lazy rfl (fun hg => g_fld (evv rfl)) rfl rfl ?_
    refine o_lazy rfl (fun hg => g_load (evg rfl hg) (by rfl) (by rfl)) rfl rfl ?_
    refine o_lazy rfl (fun hg => g_bin (by first | exact evv rfl | exact evg rfl (by rw [hp]; rfl) | exact evg rfl hp | exact evg rfl hg | exact evg rfl (by first | (simp_all; done) | (simp [*]; done) | fail) | fail) (by first | exact evv rfl | exact evg rfl (by rw [hp]; rfl) | exact evg rfl hp | exact evg rfl hg | exact evg rfl (by first | (simp_all; done) | (simp [*]; done) | fail) | fail) (by rfl)) rfl rfl ?_
    refine o_lazy rfl (fun hg => g_move (by first | exact evv rfl | exact evg rfl (by rw [hp]; rfl) | exact evg rfl hp | exact evg rfl hg | exact evg rfl (by first | (simp_all; done) | (simp [*]; done) | fail) | fail)) rfl rfl ?_
    refine o_lazy rfl (fun hg => g_fld (evv rfl)) rfl rfl ?_
    refine o_lazy rfl (fun hg => g_load (evg rfl hg) (by rfl) (by rfl)) rfl rfl ?_
    refine o_lazy rfl (fun hg => g_bin (by first | exact evv rfl | exact evg rfl (by rw [hp]; rfl) | exact evg rfl hp | exact evg rfl hg | exact evg rfl (by first | (simp_all; done) | (simp [*]; done) | fail) | fail) (by first | exact evv rfl | exact evg rfl (by rw [hp]; rfl) | exact evg rfl hp | exact evg rfl hg | exact evg rfl (by first | (simp_all; done) | (simp [*]; done) | fail) | fail) (by rfl)) rfl rfl ?_
    refine o_lazy rfl (fun hg => g_pick_or (by first | exact evv rfl | exact evg rfl (by rw [hp]; rfl) | exact evg rfl hp | exact evg rfl hg | exact evg rfl (by first | (simp_all; done) | (simp [*]; done) | fail) | fail) (by first | exact evv rfl | exact evg rfl (by rw [hp]; rfl) | exact evg rfl hp | exact evg rfl hg | exact evg rfl (by first | (simp_all; done) | (simp [*]; done) | fail) | fail) (fun hp => (by first | exact evv rfl | exact evg rfl (by rw [hp]; rfl) | exact evg rfl hp | exact evg rfl hg | exact evg rfl (by first | (simp_all; done) | (simp [*]; done) | fail) | fail))) rfl rfl ?_
    refine o_give (g_pick (b := false) (evv rfl) (fun h => by cases h) (fun _ => (evv rfl))) rfl rfl ?_
    refine o_nil ?_
    refine c_code ?_
    refine r_cond_false rfl ?_
    refine r_skip ?_
    refine c_code ?_
    refine r_seq ?_
    refine r_seq ?_
    refine r_region (id := 13) ?_
    refine o_give (g_move (evv rfl)) rfl rfl ?_
    refine o_give (g_nil (evv rfl)) rfl rfl ?_
    refine o_give (g_fld (evv rfl)) rfl rfl ?_
    refine o_give (g_load (evv rfl) (by rfl) (by rfl)) rfl rfl ?_
    refine o_nil ?_
    refine c_code ?_
    refine r_cond rfl (fun c2 => ?_) (fun c2 => ?_) <;> (try simp only [decide_eq_true_eq, decide_eq_false_iff_not, Bool.and_eq_true, Bool.or_eq_true, Bool.not_eq_true', Bool.and_eq_false_iff, Bool.or_eq_false_iff, Bool.not_eq_false', Bool.not_eq_true, Bool.not_eq_false, Bool.true_eq_false, Bool.false_eq_true, Int.not_lt, Int.not_le, not_and, not_or, ne_eq] at c2)
    · subst c2
      have hd : doT ⟨b0, s0, b1, s1, lv, am, true⟩ ⟨kind, area, bv, b, n, kv, ks⟩ = (170, ⟨b0, s0, b1, s1, lv, am, true⟩) := by
        rw [doT_3 hkc, flpT, chg_down (.inl rfl) rfl]; rfl
      rw [hd]
      refine r_seq ?_
      refine r_region (id := 14) ?_
      refine o_give (g_assign (evv rfl)) rfl rfl ?_
      refine o_nil ?_
      refine c_code ?_
      first | refine r_ret (rs := [.tmp 4]) rfl rfl _ (Ent.drop) ?_ | refine c_end (rs := [.tmp 4]) rfl rfl _ (Ent.drop) ?_
      (refine ⟨?_, ?_⟩ <;> first | rfl | trivial | omega)
    · subst c2
      by_cases hS : (⟨b0, s0, b1, s1, lv, am, false⟩ : Pt).s (1 - lv) < ((⟨b0, s0, b1, s1, lv, am, false⟩ : Pt).b (1 - lv)).length
      · have hd : doT ⟨b0, s0, b1, s1, lv, am, false⟩ ⟨kind, area, bv, b, n, kv, ks⟩ = (6, ⟨b0, s0, b1, s1, lv, am, false⟩) := by
          rw [doT_3 hkc, flpT, chg_flip rfl hS]; rfl
        rw [hd]
        rcases hl with rfl | rfl <;> simp [Pt.s, Pt.b] at hS
        · refine r_skip ?_
          refine c_code ?_
          refine r_seq ?_
          refine r_region (id := 15) ?_
          refine o_give (g_move (evv rfl)) rfl rfl ?_
          refine o_give (g_nil (evv rfl)) rfl rfl ?_
          refine o_give (g_fld (evv rfl)) rfl rfl ?_
          refine o_give (g_load (evv rfl) (by rfl) (by rfl)) rfl rfl ?_
          refine o_giveN (g_bin (evv rfl) (evv rfl) (by rfl)) (by simp only [inR]; omega) rfl ?_
          refine o_give (g_assign (evv rfl)) rfl rfl ?_
          refine o_nil ?_
          refine c_code ?_
          refine r_seq ?_
          refine r_seq ?_
          refine r_quiet (id := 16) Mixed.h (by kernel_rfl) ?_
          refine q_give (g_move (evv rfl)) rfl rfl ?_
          refine q_give (g_bin (evv rfl) (evv rfl) (by rfl)) rfl rfl ?_
          refine q_give (g_move (evv rfl)) rfl rfl ?_
          refine q_lazy rfl (fun hg => g_fld (evv rfl)) rfl rfl ?_
          refine q_lazy rfl (fun hg => g_load (evg rfl hg) (by rfl) (by rfl)) rfl rfl ?_
          refine q_lazy rfl (fun hg => g_move (by first | exact evv rfl | exact evg rfl (by rw [hp]; rfl) | exact evg rfl hp | exact evg rfl hg | exact evg rfl (by first | (simp_all; done) | (simp [*]; done) | fail) | fail)) rfl rfl ?_
          refine q_lazy rfl (fun hg => g_nil (by first | exact evv rfl | exact evg rfl (by rw [hp]; rfl) | exact evg rfl hp | exact evg rfl hg | exact evg rfl (by first | (simp_all; done) | (simp [*]; done) | fail) | fail)) rfl rfl ?_
          refine q_lazy rfl (fun hg => g_fld (evg rfl hg)) rfl rfl ?_
          refine q_lazy rfl (fun hg => g_load (evg rfl hg) (by rfl) (by rfl)) rfl rfl ?_
          refine q_lazy rfl (fun hg => g_bin (by first | exact evv rfl | exact evg rfl (by rw [hp]; rfl) | exact evg rfl hp | exact evg rfl hg | exact evg rfl (by first | (simp_all; done) | (simp [*]; done) | fail) | fail) (by first | exact evv rfl | exact evg rfl (by rw [hp]; rfl) | exact evg rfl hp | exact evg rfl hg | exact evg rfl (by first | (simp_all; done) | (simp [*]; done) | fail) | fail) (by rfl)) rfl rfl ?_
          refine q_give (g_pick (b := false) (evv rfl) (fun h => by cases h) (fun _ => (evv rfl))) rfl rfl ?_
          refine q_give (g_move (evv rfl)) rfl rfl ?_
          refine q_sure rfl (g_move (evv rfl)) rfl rfl ?_
          refine q_sure rfl (g_bin (evv rfl) (evv rfl) (by rfl)) rfl rfl ?_
          refine q_sure rfl (g_move (evv rfl)) rfl rfl ?_
          refine q_sure rfl (g_move (evv rfl)) rfl rfl ?_
          refine q_sure rfl (g_move (evv rfl)) rfl rfl ?_
          refine q_sure rfl (g_nil (evv rfl)) rfl rfl ?_
          refine q_sure rfl (g_fld (evv rfl)) rfl rfl ?_
          refine q_sure rfl (g_idxA (evv rfl) (evv rfl) (by omega) (by omega)) rfl rfl ?_
          refine q_sure rfl (g_load (evv rfl) (by rfl) (by rfl)) rfl rfl ?_
          refine q_sure rfl (g_move (evv rfl)) rfl rfl ?_
          refine q_sure rfl (g_move (evv rfl)) rfl rfl ?_
          refine q_sure rfl (g_nil (evv rfl)) rfl rfl ?_
          refine q_sure rfl (g_fld (evv rfl)) rfl rfl ?_
          refine q_sure rfl (g_idxA (evv rfl) (evv rfl) (by omega) (by omega)) rfl rfl ?_
          refine q_sure rfl (g_load (evv rfl) (by rfl) (by rfl)) rfl rfl ?_
          refine q_sure rfl (g_lenS TyU.h (evv rfl)) rfl rfl ?_
          refine q_sure rfl (g_bin (evv rfl) (evv rfl) (by rfl)) rfl rfl ?_
          refine q_sure rfl (g_pick (b := true) (evv rfl) (fun _ => (evv rfl)) (fun h => by cases h)) rfl rfl ?_
          refine q_give (g_pick (b := false) (evv rfl) (fun h => by cases h) (fun _ => (evv rfl))) rfl rfl ?_
          refine q_nil ?_
          refine c_code ?_
          refine r_cond rfl (fun c3 => ?_) (fun c3 => ?_) <;> (try simp only [decide_eq_true_eq, decide_eq_false_iff_not, Bool.and_eq_true, Bool.or_eq_true, Bool.not_eq_true', Bool.and_eq_false_iff, Bool.or_eq_false_iff, Bool.not_eq_false', Bool.not_eq_true, Bool.not_eq_false, Bool.true_eq_false, Bool.false_eq_true, Int.not_lt, Int.not_le, not_and, not_or, ne_eq] at c3)
          · refine r_seq ?_
            refine r_region (id := 17) ?_
            refine o_give (g_assign (evv rfl)) rfl rfl ?_
            refine o_nil ?_
            refine c_code ?_
            first | refine r_ret (rs := [.tmp 4]) rfl rfl _ (Ent.drop) ?_ | refine c_end (rs := [.tmp 4]) rfl rfl _ (Ent.drop) ?_
            (refine ⟨?_, ?_⟩ <;> first | rfl | trivial | omega)
          · exfalso; omega
        · refine r_skip ?_
          refine c_code ?_
          refine r_seq ?_
          refine r_region (id := 15) ?_
          refine o_give (g_move (evv rfl)) rfl rfl ?_
          refine o_give (g_nil (evv rfl)) rfl rfl ?_
          refine o_give (g_fld (evv rfl)) rfl rfl ?_
          refine o_give (g_load (evv rfl) (by rfl) (by rfl)) rfl rfl ?_
          refine o_giveN (g_bin (evv rfl) (evv rfl) (by rfl)) (by simp only [inR]; omega) rfl ?_
          refine o_give (g_assign (evv rfl)) rfl rfl ?_
          refine o_nil ?_
          refine c_code ?_
          refine r_seq ?_
          refine r_seq ?_
          refine r_quiet (id := 16) Mixed.h (by kernel_rfl) ?_
          refine q_give (g_move (evv rfl)) rfl rfl ?_
          refine q_give (g_bin (evv rfl) (evv rfl) (by rfl)) rfl rfl ?_
          refine q_give (g_move (evv rfl)) rfl rfl ?_
          refine q_lazy rfl (fun hg => g_fld (evv rfl)) rfl rfl ?_
          refine q_lazy rfl (fun hg => g_load (evg rfl hg) (by rfl) (by rfl)) rfl rfl ?_
          refine q_lazy rfl (fun hg => g_move (by first | exact evv rfl | exact evg rfl (by rw [hp]; rfl) | exact evg rfl hp | exact evg rfl hg | exact evg rfl (by first | (simp_all; done) | (simp [*]; done) | fail) | fail)) rfl rfl ?_
          refine q_lazy rfl (fun hg => g_nil (by first | exact evv rfl | exact evg rfl (by rw [hp]; rfl) | exact evg rfl hp | exact evg rfl hg | exact evg rfl (by first | (simp_all; done) | (simp [*]; done) | fail) | fail)) rfl rfl ?_
          refine q_lazy rfl (fun hg => g_fld (evg rfl hg)) rfl rfl ?_
          refine q_lazy rfl (fun hg => g_load (evg rfl hg) (by rfl) (by rfl)) rfl rfl ?_
          refine q_lazy rfl (fun hg => g_bin (by first | exact evv rfl | exact evg rfl (by rw [hp]; rfl) | exact evg rfl hp | exact evg rfl hg | exact evg rfl (by first | (simp_all; done) | (simp [*]; done) | fail) | fail) (by first | exact evv rfl | exact evg rfl (by rw [hp]; rfl) | exact evg rfl hp | exact evg rfl hg | exact evg rfl (by first | (simp_all; done) | (simp [*]; done) | fail) | fail) (by rfl)) rfl rfl ?_
          refine q_give (g_pick (b := false) (evv rfl) (fun h => by cases h) (fun _ => (evv rfl))) rfl rfl ?_
          refine q_give (g_move (evv rfl)) rfl rfl ?_
          refine q_sure rfl (g_move (evv rfl)) rfl rfl ?_
          refine q_sure rfl (g_bin (evv rfl) (evv rfl) (by rfl)) rfl rfl ?_
          refine q_sure rfl (g_move (evv rfl)) rfl rfl ?_
          refine q_sure rfl (g_move (evv rfl)) rfl rfl ?_
          refine q_sure rfl (g_move (evv rfl)) rfl rfl ?_
          refine q_sure rfl (g_nil (evv rfl)) rfl rfl ?_
          refine q_sure rfl (g_fld (evv rfl)) rfl rfl ?_
          refine q_sure rfl (g_idxA (evv rfl) (evv rfl) (by omega) (by omega)) rfl rfl ?_
          refine q_sure rfl (g_load (evv rfl) (by rfl) (by rfl)) rfl rfl ?_
          refine q_sure rfl (g_move (evv rfl)) rfl rfl ?_
          refine q_sure rfl (g_move (evv rfl)) rfl rfl ?_
          refine q_sure rfl (g_nil (evv rfl)) rfl rfl ?_
          refine q_sure rfl (g_fld (evv rfl)) rfl rfl ?_
          refine q_sure rfl (g_idxA (evv rfl) (evv rfl) (by omega) (by omega)) rfl rfl ?_
          refine q_sure rfl (g_load (evv rfl) (by rfl) (by rfl)) rfl rfl ?_
          refine q_sure rfl (g_lenS TyU.h (evv rfl)) rfl rfl ?_
          refine q_sure rfl (g_bin (evv rfl) (evv rfl) (by rfl)) rfl rfl ?_
          refine q_sure rfl (g_pick (b := true) (evv rfl) (fun _ => (evv rfl)) (fun h => by cases h)) rfl rfl ?_
          refine q_give (g_pick (b := false) (evv rfl) (fun h => by cases h) (fun _ => (evv rfl))) rfl rfl ?_
          refine q_nil ?_
          refine c_code ?_
          refine r_cond rfl (fun c3 => ?_) (fun c3 => ?_) <;> (try simp only [decide_eq_true_eq, decide_eq_false_iff_not, Bool.and_eq_true, Bool.or_eq_true, Bool.not_eq_true', Bool.and_eq_false_iff, Bool.or_eq_false_iff, Bool.not_eq_false', Bool.not_eq_true, Bool.not_eq_false, Bool.true_eq_false, Bool.false_eq_true, Int.not_lt, Int.not_le, not_and, not_or, ne_eq] at c3)
          · refine r_seq ?_
            refine r_region (id := 17) ?_
            refine o_give (g_assign (evv rfl)) rfl rfl ?_
            refine o_nil ?_
            refine c_code ?_
            first | refine r_ret (rs := [.tmp 4]) rfl rfl _ (Ent.drop) ?_ | refine c_end (rs := [.tmp 4]) rfl rfl _ (Ent.drop) ?_
            (refine ⟨?_, ?_⟩ <;> first | rfl | trivial | omega)
          · exfalso; omega
      · have hd : doT ⟨b0, s0, b1, s1, lv, am, false⟩ ⟨kind, area, bv, b, n, kv, ks⟩ = (if am = 1 then 170 else 0, if (if am = 1 then (170 : Int) else 0) = 0 then { tick ⟨b0, s0, b1, s1, lv, am, false⟩ with live := 1 - lv } else tick ⟨b0, s0, b1, s1, lv, am, false⟩) := by
          rw [doT_3 hkc, flpT, chg_go (.inl rfl) rfl (by omega) (fun hh => hS hh.2)]
          rfl
        rw [hd]
        rcases hl with rfl | rfl <;> simp [Pt.s, Pt.b] at hS
        · refine r_skip ?_
          refine c_code ?_
          refine r_seq ?_
          refine r_region (id := 15) ?_
          refine o_give (g_move (evv rfl)) rfl rfl ?_
          refine o_give (g_nil (evv rfl)) rfl rfl ?_
          refine o_give (g_fld (evv rfl)) rfl rfl ?_
          refine o_give (g_load (evv rfl) (by rfl) (by rfl)) rfl rfl ?_
          refine o_giveN (g_bin (evv rfl) (evv rfl) (by rfl)) (by simp only [inR]; omega) rfl ?_
          refine o_give (g_assign (evv rfl)) rfl rfl ?_
          refine o_nil ?_
          refine c_code ?_
          refine r_seq ?_
          refine r_seq ?_
          refine r_quiet (id := 16) Mixed.h (by kernel_rfl) ?_
          refine q_give (g_move (evv rfl)) rfl rfl ?_
          refine q_give (g_bin (evv rfl) (evv rfl) (by rfl)) rfl rfl ?_
          refine q_give (g_move (evv rfl)) rfl rfl ?_
          refine q_lazy rfl (fun hg => g_fld (evv rfl)) rfl rfl ?_
          refine q_lazy rfl (fun hg => g_load (evg rfl hg) (by rfl) (by rfl)) rfl rfl ?_
          refine q_lazy rfl (fun hg => g_move (by first | exact evv rfl | exact evg rfl (by rw [hp]; rfl) | exact evg rfl hp | exact evg rfl hg | exact evg rfl (by first | (simp_all; done) | (simp [*]; done) | fail) | fail)) rfl rfl ?_
          refine q_lazy rfl (fun hg => g_nil (by first | exact evv rfl | exact evg rfl (by rw [hp]; rfl) | exact evg rfl hp | exact evg rfl hg | exact evg rfl (by first | (simp_all; done) | (simp [*]; done) | fail) | fail)) rfl rfl ?_
          refine q_lazy rfl (fun hg => g_fld (evg rfl hg)) rfl rfl ?_
          refine q_lazy rfl (fun hg => g_load (evg rfl hg) (by rfl) (by rfl)) rfl rfl ?_
          refine q_lazy rfl (fun hg => g_bin (by first | exact evv rfl | exact evg rfl (by rw [hp]; rfl) | exact evg rfl hp | exact evg rfl hg | exact evg rfl (by first | (simp_all; done) | (simp [*]; done) | fail) | fail) (by first | exact evv rfl | exact evg rfl (by rw [hp]; rfl) | exact evg rfl hp | exact evg rfl hg | exact evg rfl (by first | (simp_all; done) | (simp [*]; done) | fail) | fail) (by rfl)) rfl rfl ?_
          refine q_give (g_pick (b := false) (evv rfl) (fun h => by cases h) (fun _ => (evv rfl))) rfl rfl ?_
          refine q_give (g_move (evv rfl)) rfl rfl ?_
          refine q_sure rfl (g_move (evv rfl)) rfl rfl ?_
          refine q_sure rfl (g_bin (evv rfl) (evv rfl) (by rfl)) rfl rfl ?_
          refine q_sure rfl (g_move (evv rfl)) rfl rfl ?_
          refine q_sure rfl (g_move (evv rfl)) rfl rfl ?_
          refine q_sure rfl (g_move (evv rfl)) rfl rfl ?_
          refine q_sure rfl (g_nil (evv rfl)) rfl rfl ?_
          refine q_sure rfl (g_fld (evv rfl)) rfl rfl ?_
          refine q_sure rfl (g_idxA (evv rfl) (evv rfl) (by omega) (by omega)) rfl rfl ?_
          refine q_sure rfl (g_load (evv rfl) (by rfl) (by rfl)) rfl rfl ?_
          refine q_sure rfl (g_move (evv rfl)) rfl rfl ?_
          refine q_sure rfl (g_move (evv rfl)) rfl rfl ?_
          refine q_sure rfl (g_nil (evv rfl)) rfl rfl ?_
          refine q_sure rfl (g_fld (evv rfl)) rfl rfl ?_
          refine q_sure rfl (g_idxA (evv rfl) (evv rfl) (by omega) (by omega)) rfl rfl ?_
          refine q_sure rfl (g_load (evv rfl) (by rfl) (by rfl)) rfl rfl ?_
          refine q_sure rfl (g_lenS TyU.h (evv rfl)) rfl rfl ?_
          refine q_sure rfl (g_bin (evv rfl) (evv rfl) (by rfl)) rfl rfl ?_
          refine q_sure rfl (g_pick (b := true) (evv rfl) (fun _ => (evv rfl)) (fun h => by cases h)) rfl rfl ?_
          refine q_give (g_pick (b := false) (evv rfl) (fun h => by cases h) (fun _ => (evv rfl))) rfl rfl ?_
          refine q_nil ?_
          refine c_code ?_
          refine r_cond rfl (fun c3 => ?_) (fun c3 => ?_) <;> (try simp only [decide_eq_true_eq, decide_eq_false_iff_not, Bool.and_eq_true, Bool.or_eq_true, Bool.not_eq_true', Bool.and_eq_false_iff, Bool.or_eq_false_iff, Bool.not_eq_false', Bool.not_eq_true, Bool.not_eq_false, Bool.true_eq_false, Bool.false_eq_true, Int.not_lt, Int.not_le, not_and, not_or, ne_eq] at c3)
          · exfalso; omega
          · clear c3
            refine r_skip ?_
            refine c_code ?_
            refine r_seq ?_
            refine r_region (id := 18) ?_
            refine o_give (g_move (evv rfl)) rfl rfl ?_
            (refine o_call rfl _ (PickR.ent (K := blk _)) (goes_b _ _ _ _ _ _ _ _ (by assumption)) rfl ?_; rintro _ _ ⟨rfl, rfl⟩)
            refine o_give (g_assign (evv rfl)) rfl rfl ?_
            refine o_nil ?_
            refine c_code ?_
            refine r_seq ?_
            refine r_seq ?_
            refine r_region (id := 19) ?_
            refine o_give (g_move (evv rfl)) rfl rfl ?_
            refine o_give (g_bin (evv rfl) (evv rfl) (by rfl)) rfl rfl ?_
            refine o_nil ?_
            refine c_code ?_
            refine r_cond_false rfl ?_
            refine r_skip ?_
            refine c_code ?_
            refine r_seq ?_
            refine r_seq ?_
            refine r_region (id := 21) ?_
            refine o_give (g_move (evv rfl)) rfl rfl ?_
            refine o_nil ?_
            refine c_code ?_
            refine r_cond rfl (fun c5 => ?_) (fun c5 => ?_) <;> (try simp only [decide_eq_true_eq, decide_eq_false_iff_not, Bool.and_eq_true, Bool.or_eq_true, Bool.not_eq_true', Bool.and_eq_false_iff, Bool.or_eq_false_iff, Bool.not_eq_false', Bool.not_eq_true, Bool.not_eq_false, Bool.true_eq_false, Bool.false_eq_true, Int.not_lt, Int.not_le, not_and, not_or, ne_eq] at c5)
            · simp only [if_pos c5]
              rw [if_neg (by decide)]
              refine r_seq ?_
              refine r_region (id := 22) ?_
              refine o_give (g_assign (evv rfl)) rfl rfl ?_
              refine o_nil ?_
              refine c_code ?_
              first | refine r_ret (rs := [.tmp 4]) rfl rfl _ (Lay.ent (L' := blk r (rpB b0 b1 s0 s1 0 (am - 1) (decide (am = 1))) :: F)) ?_ | refine c_end (rs := [.tmp 4]) rfl rfl _ (Lay.ent (L' := blk r (rpB b0 b1 s0 s1 0 (am - 1) (decide (am = 1))) :: F)) ?_
              (refine ⟨?_, ?_⟩ <;> first | rfl | trivial | omega)
            · simp only [if_neg c5]
              rw [if_pos trivial]
              refine r_skip ?_
              refine c_code ?_
              refine r_seq ?_
              refine r_seq ?_
              refine r_region (id := 23) ?_
              refine o_give (g_move (evv rfl)) rfl rfl ?_
              refine o_give (g_bin (evv rfl) (evv rfl) (by rfl)) rfl rfl ?_
              refine o_nil ?_
              refine c_code ?_
              refine r_cond_false rfl ?_
              refine r_skip ?_
              refine c_code ?_
              refine r_seq ?_
              refine r_seq ?_
              refine r_region (id := 25) ?_
              refine o_give (g_move (evv rfl)) rfl rfl ?_
              refine o_give (g_bin (evv rfl) (evv rfl) (by rfl)) rfl rfl ?_
              refine o_nil ?_
              refine c_code ?_
              refine r_cond_false rfl ?_
              refine r_skip ?_
              refine c_code ?_
              refine r_seq ?_
              refine r_seq ?_
              refine r_region (id := 28) ?_
              refine o_give (g_move (evv rfl)) rfl rfl ?_
              refine o_give (g_bin (evv rfl) (evv rfl) (by rfl)) rfl rfl ?_
              refine o_nil ?_
              refine c_code ?_
              refine r_cond_true rfl ?_
              refine r_region (id := 29) ?_
              refine o_give (g_move (evv rfl)) rfl rfl ?_
              refine o_give (g_move (evv rfl)) rfl rfl ?_
              refine o_give (g_nil (evv rfl)) rfl rfl ?_
              refine o_give (g_fld (evv rfl)) rfl rfl ?_
              refine o_store1 (evv rfl) (evv rfl) (by rfl) (by rfl) (by rfl) ?_
              refine o_nil ?_
              refine c_code ?_
              refine r_seq ?_
              refine r_region (id := 30) ?_
              refine o_give (g_assign (evv rfl)) rfl rfl ?_
              refine o_nil ?_
              refine c_code ?_
              first | refine r_ret (rs := [.tmp 4]) rfl rfl _ ((Lay.ent (L' := blk r ⟨[str b0, str b1, .int .i64 (s0 : Int), .int .i64 (s1 : Int), .int .i64 (1 - ((0 : Nat) : Int)), .int .i64 ((am - 1 : Nat) : Int), .bool (decide (am = 1))], 43⟩ :: F))) ?_ | refine c_end (rs := [.tmp 4]) rfl rfl _ ((Lay.ent (L' := blk r ⟨[str b0, str b1, .int .i64 (s0 : Int), .int .i64 (s1 : Int), .int .i64 (1 - ((0 : Nat) : Int)), .int .i64 ((am - 1 : Nat) : Int), .bool (decide (am = 1))], 43⟩ :: F))) ?_
              (refine ⟨?_, ?_⟩ <;> first | rfl | trivial | omega)
        · refine r_skip ?_
          refine c_code ?_
          refine r_seq ?_
          refine r_region (id := 15) ?_
          refine o_give (g_move (evv rfl)) rfl rfl ?_
          refine o_give (g_nil (evv rfl)) rfl rfl ?_
          refine o_give (g_fld (evv rfl)) rfl rfl ?_
          refine o_give (g_load (evv rfl) (by rfl) (by rfl)) rfl rfl ?_
          refine o_giveN (g_bin (evv rfl) (evv rfl) (by rfl)) (by simp only [inR]; omega) rfl ?_
          refine o_give (g_assign (evv rfl)) rfl rfl ?_
          refine o_nil ?_
          refine c_code ?_
          refine r_seq ?_
          refine r_seq ?_
          refine r_quiet (id := 16) Mixed.h (by kernel_rfl) ?_
          refine q_give (g_move (evv rfl)) rfl rfl ?_
          refine q_give (g_bin (evv rfl) (evv rfl) (by rfl)) rfl rfl ?_
          refine q_give (g_move (evv rfl)) rfl rfl ?_
          refine q_lazy rfl (fun hg => g_fld (evv rfl)) rfl rfl ?_
          refine q_lazy rfl (fun hg => g_load (evg rfl hg) (by rfl) (by rfl)) rfl rfl ?_
          refine q_lazy rfl (fun hg => g_move (by first | exact evv rfl | exact evg rfl (by rw [hp]; rfl) | exact evg rfl hp | exact evg rfl hg | exact evg rfl (by first | (simp_all; done) | (simp [*]; done) | fail) | fail)) rfl rfl ?_
          refine q_lazy rfl (fun hg => g_nil (by first | exact evv rfl | exact evg rfl (by rw [hp]; rfl) | exact evg rfl hp | exact evg rfl hg | exact evg rfl (by first | (simp_all; done) | (simp [*]; done) | fail) | fail)) rfl rfl ?_
          refine q_lazy rfl (fun hg => g_fld (evg rfl hg)) rfl rfl ?_
          refine q_lazy rfl (fun hg => g_load (evg rfl hg) (by rfl) (by rfl)) rfl rfl ?_
          refine q_lazy rfl (fun hg => g_bin (by first | exact evv rfl | exact evg rfl (by rw [hp]; rfl) | exact evg rfl hp | exact evg rfl hg | exact evg rfl (by first | (simp_all; done) | (simp [*]; done) | fail) | fail) (by first | exact evv rfl | exact evg rfl (by rw [hp]; rfl) | exact evg rfl hp | exact evg rfl hg | exact evg rfl (by first | (simp_all; done) | (simp [*]; done) | fail) | fail) (by rfl)) rfl rfl ?_
          refine q_give (g_pick (b := false) (evv rfl) (fun h => by cases h) (fun _ => (evv rfl))) rfl rfl ?_
          refine q_give (g_move (evv rfl)) rfl rfl ?_
          refine q_sure rfl (g_move (evv rfl)) rfl rfl ?_
          refine q_sure rfl (g_bin (evv rfl) (evv rfl) (by rfl)) rfl rfl ?_
          refine q_sure rfl (g_move (evv rfl)) rfl rfl ?_
          refine q_sure rfl (g_move (evv rfl)) rfl rfl ?_
          refine q_sure rfl (g_move (evv rfl)) rfl rfl ?_
          refine q_sure rfl (g_nil (evv rfl)) rfl rfl ?_
          refine q_sure rfl (g_fld (evv rfl)) rfl rfl ?_
          refine q_sure rfl (g_idxA (evv rfl) (evv rfl) (by omega) (by omega)) rfl rfl ?_
          refine q_sure rfl (g_load (evv rfl) (by rfl) (by rfl)) rfl rfl ?_
          refine q_sure rfl (g_move (evv rfl)) rfl rfl ?_
          refine q_sure rfl (g_move (evv rfl)) rfl rfl ?_
          refine q_sure rfl (g_nil (evv rfl)) rfl rfl ?_
          refine q_sure rfl (g_fld (evv rfl)) rfl rfl ?_
          refine q_sure rfl (g_idxA (evv rfl) (evv rfl) (by omega) (by omega)) rfl rfl ?_
          refine q_sure rfl (g_load (evv rfl) (by rfl) (by rfl)) rfl rfl ?_
          refine q_sure rfl (g_lenS TyU.h (evv rfl)) rfl rfl ?_
          refine q_sure rfl (g_bin (evv rfl) (evv rfl) (by rfl)) rfl rfl ?_
          refine q_sure rfl (g_pick (b := true) (evv rfl) (fun _ => (evv rfl)) (fun h => by cases h)) rfl rfl ?_
          refine q_give (g_pick (b := false) (evv rfl) (fun h => by cases h) (fun _ => (evv rfl))) rfl rfl ?_
          refine q_nil ?_
          refine c_code ?_
          refine r_cond rfl (fun c3 => ?_) (fun c3 => ?_) <;> (try simp only [decide_eq_true_eq, decide_eq_false_iff_not, Bool.and_eq_true, Bool.or_eq_true, Bool.not_eq_true', Bool.and_eq_false_iff, Bool.or_eq_false_iff, Bool.not_eq_false', Bool.not_eq_true, Bool.not_eq_false, Bool.true_eq_false, Bool.false_eq_true, Int.not_lt, Int.not_le, not_and, not_or, ne_eq] at c3)
          · exfalso; omega
          · clear c3
            refine r_skip ?_
            refine c_code ?_
            refine r_seq ?_
            refine r_region (id := 18) ?_
            refine o_give (g_move (evv rfl)) rfl rfl ?_
            (refine o_call rfl _ (PickR.ent (K := blk _)) (goes_b _ _ _ _ _ _ _ _ (by assumption)) rfl ?_; rintro _ _ ⟨rfl, rfl⟩)
            refine o_give (g_assign (evv rfl)) rfl rfl ?_
            refine o_nil ?_
            refine c_code ?_
            refine r_seq ?_
            refine r_seq ?_
            refine r_region (id := 19) ?_
            refine o_give (g_move (evv rfl)) rfl rfl ?_
            refine o_give (g_bin (evv rfl) (evv rfl) (by rfl)) rfl rfl ?_
            refine o_nil ?_
            refine c_code ?_
            refine r_cond_false rfl ?_
            refine r_skip ?_
            refine c_code ?_
            refine r_seq ?_
            refine r_seq ?_
            refine r_region (id := 21) ?_
            refine o_give (g_move (evv rfl)) rfl rfl ?_
            refine o_nil ?_
            refine c_code ?_
            refine r_cond rfl (fun c5 => ?_) (fun c5 => ?_) <;> (try simp only [decide_eq_true_eq, decide_eq_false_iff_not, Bool.and_eq_true, Bool.or_eq_true, Bool.not_eq_true', Bool.and_eq_false_iff, Bool.or_eq_false_iff, Bool.not_eq_false', Bool.not_eq_true, Bool.not_eq_false, Bool.true_eq_false, Bool.false_eq_true, Int.not_lt, Int.not_le, not_and, not_or, ne_eq] at c5)
            · simp only [if_pos c5]
              rw [if_neg (by decide)]
              refine r_seq ?_
              refine r_region (id := 22) ?_
              refine o_give (g_assign (evv rfl)) rfl rfl ?_
              refine o_nil ?_
              refine c_code ?_
              first | refine r_ret (rs := [.tmp 4]) rfl rfl _ (Lay.ent (L' := blk r (rpB b0 b1 s0 s1 1 (am - 1) (decide (am = 1))) :: F)) ?_ | refine c_end (rs := [.tmp 4]) rfl rfl _ (Lay.ent (L' := blk r (rpB b0 b1 s0 s1 1 (am - 1) (decide (am = 1))) :: F)) ?_
              (refine ⟨?_, ?_⟩ <;> first | rfl | trivial | omega)
            · simp only [if_neg c5]
              rw [if_pos trivial]
              refine r_skip ?_
              refine c_code ?_
              refine r_seq ?_
              refine r_seq ?_
              refine r_region (id := 23) ?_
              refine o_give (g_move (evv rfl)) rfl rfl ?_
              refine o_give (g_bin (evv rfl) (evv rfl) (by rfl)) rfl rfl ?_
              refine o_nil ?_
              refine c_code ?_
              refine r_cond_false rfl ?_
              refine r_skip ?_
              refine c_code ?_
              refine r_seq ?_
              refine r_seq ?_
              refine r_region (id := 25) ?_
              refine o_give (g_move (evv rfl)) rfl rfl ?_
              refine o_give (g_bin (evv rfl) (evv rfl) (by rfl)) rfl rfl ?_
              refine o_nil ?_
              refine c_code ?_
              refine r_cond_false rfl ?_
              refine r_skip ?_
              refine c_code ?_
              refine r_seq ?_
              refine r_seq ?_
              refine r_region (id := 28) ?_
              refine o_give (g_move (evv rfl)) rfl rfl ?_
              refine o_give (g_bin (evv rfl) (evv rfl) (by rfl)) rfl rfl ?_
              refine o_nil ?_
              refine c_code ?_
              refine r_cond_true rfl ?_
              refine r_region (id := 29) ?_
              refine o_give (g_move (evv rfl)) rfl rfl ?_
              refine o_give (g_move (evv rfl)) rfl rfl ?_
              refine o_give (g_nil (evv rfl)) rfl rfl ?_
              refine o_give (g_fld (evv rfl)) rfl rfl ?_
              refine o_store1 (evv rfl) (evv rfl) (by rfl) (by rfl) (by rfl) ?_
              refine o_nil ?_
              refine c_code ?_
              refine r_seq ?_
              refine r_region (id := 30) ?_
              refine o_give (g_assign (evv rfl)) rfl rfl ?_
              refine o_nil ?_
              refine c_code ?_
              first | refine r_ret (rs := [.tmp 4]) rfl rfl _ ((Lay.ent (L' := blk r ⟨[str b0, str b1, .int .i64 (s0 : Int), .int .i64 (s1 : Int), .int .i64 (1 - ((1 : Nat) : Int)), .int .i64 ((am - 1 : Nat) : Int), .bool (decide (am = 1))], 43⟩ :: F))) ?_ | refine c_end (rs := [.tmp 4]) rfl rfl _ ((Lay.ent (L' := blk r ⟨[str b0, str b1, .int .i64 (s0 : Int), .int .i64 (s1 : Int), .int .i64 (1 - ((1 : Nat) : Int)), .int .i64 ((am - 1 : Nat) : Int), .bool (decide (am = 1))], 43⟩ :: F))) ?_
              (refine ⟨?_, ?_⟩ <;> first | rfl | trivial | omega)
  · have hd : doT ⟨b0, s0, b1, s1, lv, am, dn⟩ ⟨kind, area, bv, b, n, kv, ks⟩ = (0, armT ⟨b0, s0, b1, s1, lv, am, dn⟩ n) := by
      simp only [doT, hkc]
      rfl
    rw [hd]
    cases dn with
    | true =>
      refine r_region (id := 2) ?_
      refine o_give (g_move (evv rfl)) rfl rfl ?_
      refine o_give (g_bin (evv rfl) (evv rfl) (by rfl)) rfl rfl ?_
      refine o_nil ?_
      refine c_code ?_
      refine r_cond_true rfl ?_
      refine r_seq ?_
      refine r_seq ?_
      refine r_region (id := 3) ?_
      refine o_give (g_move (evv rfl)) rfl rfl ?_
      refine o_give (g_nil (evv rfl)) rfl rfl ?_
      refine o_give (g_fld (evv rfl)) rfl rfl ?_
      refine o_give (g_load (evv rfl) (by rfl) (by rfl)) rfl rfl ?_
      refine o_give (g_not (evv rfl)) rfl rfl ?_
      refine o_nil ?_
      refine c_code ?_
      refine r_cond_false rfl ?_
      refine r_skip ?_
      refine c_code ?_
      refine r_seq ?_
      refine r_region (id := 7) ?_
      refine o_give (g_assign (evv rfl)) rfl rfl ?_
      refine o_nil ?_
      refine c_code ?_
      first | refine r_ret (rs := [.tmp 4]) rfl rfl _ (Ent.drop) ?_ | refine c_end (rs := [.tmp 4]) rfl rfl _ (Ent.drop) ?_
      (refine ⟨?_, ?_⟩ <;> first | rfl | trivial | omega)
    | false =>
      have e1 : armT ⟨b0, s0, b1, s1, lv, am, false⟩ n = ⟨b0, s0, b1, s1, lv, (max n 0).toNat, false⟩ := rfl
      rw [e1]
      refine r_region (id := 2) ?_
      refine o_give (g_move (evv rfl)) rfl rfl ?_
      refine o_give (g_bin (evv rfl) (evv rfl) (by rfl)) rfl rfl ?_
      refine o_nil ?_
      refine c_code ?_
      refine r_cond_true rfl ?_
      refine r_seq ?_
      refine r_seq ?_
      refine r_region (id := 3) ?_
      refine o_give (g_move (evv rfl)) rfl rfl ?_
      refine o_give (g_nil (evv rfl)) rfl rfl ?_
      refine o_give (g_fld (evv rfl)) rfl rfl ?_
      refine o_give (g_load (evv rfl) (by rfl) (by rfl)) rfl rfl ?_
      refine o_give (g_not (evv rfl)) rfl rfl ?_
      refine o_nil ?_
      refine c_code ?_
      refine r_cond_true rfl ?_
      refine r_seq ?_
      refine r_region (id := 4) ?_
      refine o_give (g_move (evv rfl)) rfl rfl ?_
      refine o_give (g_fld (evv rfl)) rfl rfl ?_
      refine o_give (g_load (evv rfl) (by rfl) (by rfl)) rfl rfl ?_
      refine o_give (g_nil (evv rfl)) rfl rfl ?_
      refine o_give (g_fld (evv rfl)) rfl rfl ?_
      refine o_store1 (evv rfl) (evv rfl) (by rfl) (by rfl) (by rfl) ?_
      refine o_nil ?_
      refine c_code ?_
      refine r_seq ?_
      refine r_region (id := 5) ?_
      refine o_give (g_fld (evv rfl)) rfl rfl ?_
      refine o_give (g_load (evv rfl) (by rfl) (by rfl)) rfl rfl ?_
      refine o_give (g_bin (evv rfl) (evv rfl) (by rfl)) rfl rfl ?_
      refine o_nil ?_
      refine c_code ?_
      refine r_cond rfl (fun c1 => ?_) (fun c1 => ?_) <;> (try simp only [decide_eq_true_eq, decide_eq_false_iff_not, Bool.and_eq_true, Bool.or_eq_true, Bool.not_eq_true', Bool.and_eq_false_iff, Bool.or_eq_false_iff, Bool.not_eq_false', Bool.not_eq_true, Bool.not_eq_false, Bool.true_eq_false, Bool.false_eq_true, Int.not_lt, Int.not_le, not_and, not_or, ne_eq] at c1)
      · have e2 : (max n 0).toNat = 0 := by omega
        rw [e2]
        refine r_region (id := 6) ?_
        refine o_give (g_move (evv rfl)) rfl rfl ?_
        refine o_give (g_nil (evv rfl)) rfl rfl ?_
        refine o_give (g_fld (evv rfl)) rfl rfl ?_
        refine o_store1 (evv rfl) (evv rfl) (by rfl) (by rfl) (by rfl) ?_
        refine o_nil ?_
        refine c_code ?_
        refine r_seq ?_
        refine r_region (id := 7) ?_
        refine o_give (g_assign (evv rfl)) rfl rfl ?_
        refine o_nil ?_
        refine c_code ?_
        first | refine r_ret (rs := [.tmp 4]) rfl rfl _ (Ent.drop) ?_ | refine c_end (rs := [.tmp 4]) rfl rfl _ (Ent.drop) ?_
        (refine ⟨?_, ?_⟩ <;> first | rfl | trivial | omega)
      · have e2 : n = (((max n 0).toNat : Nat) : Int) := by omega
        refine r_skip ?_
        refine c_code ?_
        refine r_seq ?_
        refine r_region (id := 7) ?_
        refine o_give (g_assign (evv rfl)) rfl rfl ?_
        refine o_nil ?_
        refine c_code ?_
        first | refine r_ret (rs := [.tmp 4]) rfl rfl _ (Ent.drop.trans (Ent.of_eq (congrArg (fun z : Int => blk r ⟨[str b0, str b1, .int .i64 (s0 : Int), .int .i64 (s1 : Int), .int .i64 (lv : Int), .int .i64 z, .bool false], 43⟩ :: F) e2))) ?_ | refine c_end (rs := [.tmp 4]) rfl rfl _ (Ent.drop.trans (Ent.of_eq (congrArg (fun z : Int => blk r ⟨[str b0, str b1, .int .i64 (s0 : Int), .int .i64 (s1 : Int), .int .i64 (lv : Int), .int .i64 z, .bool false], 43⟩ :: F) e2))) ?_
        (refine ⟨?_, ?_⟩ <;> first | rfl | trivial | omega)
  · have hd : doT ⟨b0, s0, b1, s1, lv, am, dn⟩ ⟨kind, area, bv, b, n, kv, ks⟩ = (0, cutT ⟨b0, s0, b1, s1, lv, am, dn⟩ ks) := by
      simp only [doT, hkc]
      rfl
    rw [hd]
    refine r_ent (rp r ⟨b0, s0, b1, s1, lv, am, dn⟩ :: blk q ⟨[.int .i64 kind, .int .i64 area, bv, .int .i64 n, kv], 47⟩ :: F) Ent.swap ?_
    refine r_region (id := 2) ?_
    refine o_give (g_move (evv rfl)) rfl rfl ?_
    refine o_give (g_bin (evv rfl) (evv rfl) (by rfl)) rfl rfl ?_
    refine o_nil ?_
    refine c_code ?_
    refine r_cond_false rfl ?_
    refine r_skip ?_
    refine c_code ?_
    refine r_seq ?_
    refine r_seq ?_
    refine r_region (id := 8) ?_
    refine o_give (g_move (evv rfl)) rfl rfl ?_
    refine o_give (g_bin (evv rfl) (evv rfl) (by rfl)) rfl rfl ?_
    refine o_nil ?_
    refine c_code ?_
    refine r_cond_true rfl ?_
    refine r_seq ?_
    refine r_region (id := 9) ?_
    refine o_give (g_move (evv rfl)) rfl rfl ?_
    refine o_give (g_fld (evv rfl)) rfl rfl ?_
    refine o_give (g_load (evv rfl) (by rfl) (by rfl)) rfl rfl ?_
    (refine o_call rfl _ (PickR.ent (K := rp _)) (rcut_c _ _ _ (by assumption) _ _ (by assumption)) rfl ?_; rintro _ _ ⟨rfl, rfl⟩)
    refine o_nil ?_
    refine c_code ?_
    refine r_seq ?_
    refine r_region (id := 10) ?_
    refine o_give (g_assign (evv rfl)) rfl rfl ?_
    refine o_nil ?_
    refine c_code ?_
    first | refine r_ret (rs := [.tmp 4]) rfl rfl _ ((Lay.ent (L' := rp r (cutT ⟨b0, s0, b1, s1, lv, am, dn⟩ ks) :: F))) ?_ | refine c_end (rs := [.tmp 4]) rfl rfl _ ((Lay.ent (L' := rp r (cutT ⟨b0, s0, b1, s1, lv, am, dn⟩ ks) :: F))) ?_
    (refine ⟨?_, ?_⟩ <;> first | rfl | trivial | omega)
end VK
