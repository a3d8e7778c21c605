/- What the proof rests on, part 4 of 6: the walker's lemmas, the walks of the functions and the plain laws. Conditions: none. -/
import Derived.Test.YtafofdcccmidmaaM3
namespace VK
open Go Go.Proofs
set_option linter.unusedSimpArgs false
set_option linter.unusedVariables false
set_option maxRecDepth 100000
set_option maxHeartbeats 40000000
structure RCall where
  kind : Int
  area : Int
  bv : Value
  b : List UInt8
  n : Int
  kv : Value
  ks : List Int
instance : Inhabited RCall := ⟨⟨0, 0, .slice none 0 0, [], 0, .slice none 0 0, []⟩⟩
def rcallC (c : RCall) : List Value := [.int .i64 c.kind, .int .i64 c.area, c.bv, .int .i64 c.n, c.kv]
instance : LenC rcallC 5 := ⟨fun _ => rfl⟩
def kindQ (c : RCall) : Int := c.kind % 18446744073709551616 % 6
def doT (x : Pt) (c : RCall) : Int × Pt :=
  if kindQ c = 4 then (0, armT x c.n) else if kindQ c = 5 then (0, cutT x c.ks) else if kindQ c = 0 then appT x c.area c.b else if kindQ c = 1 then synT x c.area else if kindQ c = 2 then wipT x c.area else flpT x
class RdC (L : List Atom) (c : RCall) : Prop where
  b : Rd L c.bv (bR c.b)
  k : Rd L c.kv (mrow i64v 3 c.ks)
instance {L : List Atom} {c : RCall} [h : RdC L c] : Rd L c.bv (bR c.b) := h.b
instance {L : List Atom} {c : RCall} [h : RdC L c] : Rd L c.kv (mrow i64v 3 c.ks) := h.k
instance (priority := low) {A : Atom} {L : List Atom} {c : RCall} [h : RdC L c] : RdC (A :: L) c := ⟨h.b.ent Ent.drop, h.k.ent Ent.drop⟩
theorem Ent.of_eq {A B : List Atom} (h : A = B) : Ent A B := h ▸ Ent.refl _
theorem goes_b (F : List Atom) (r : Nat) (b0 b1 : List UInt8) (s0 s1 lv am : Nat) (ha : am ≤ 9223372036854775807) :
    Fn Try.prog 57 [.pointer (some ⟨r, 0, none⟩)] (blk r (rpB b0 b1 s0 s1 lv am false) :: F) fun v L' => v = .bool (decide (am = 1)) ∧ L' = blk r (rpB b0 b1 s0 s1 lv (am - 1) (decide (am = 1))) :: F :=
  goes_c F r ⟨b0, s0, b1, s1, lv, am, false⟩ rfl ha
theorem chg_arg {x : Pt} {call at_ : Int} (h : call ≠ 3) (h2 : at_ < 0 ∨ 1 < at_) : chg x call at_ = (1, false, x) := by
  unfold chg; rw [if_pos (by omega)]
theorem chg_down {x : Pt} {call at_ : Int} (h : call = 3 ∨ at_ = 0 ∨ at_ = 1) (hd : x.down = true) : chg x call at_ = (170, false, x) := by
  unfold chg; rw [if_neg (by omega), if_pos hd]
theorem chg_wipe {x : Pt} {at_ : Int} (h : at_ = 0 ∨ at_ = 1) (hd : x.down = false) (hl : at_ = x.live) : chg x 2 at_ = (6, false, x) := by
  unfold chg; rw [if_neg (by omega), if_neg (by simp [hd]), if_pos ⟨rfl, hl⟩]
theorem chg_flip {x : Pt} (hd : x.down = false) (hl : x.s (1 - x.live) < (x.b (1 - x.live)).length) : chg x 3 0 = (6, false, x) := by
  unfold chg; rw [if_neg (by omega), if_neg (by simp [hd]), if_neg (by omega), if_pos ⟨rfl, hl⟩]
theorem chg_go {x : Pt} {call at_ : Int} (h : call = 3 ∨ at_ = 0 ∨ at_ = 1) (hd : x.down = false) (h2 : ¬ (call = 2 ∧ at_ = x.live)) (h3 : ¬ (call = 3 ∧ x.s (1 - x.live) < (x.b (1 - x.live)).length)) : chg x call at_ = (if x.armed = 1 then 170 else 0, true, tick x) := by
  unfold chg; rw [if_neg (by omega), if_neg (by simp [hd]), if_neg h2, if_neg h3]
theorem doT_0 {x : Pt} {c : RCall} (h : kindQ c = 0) : doT x c = appT x c.area c.b := by simp [doT, h]
theorem doT_1 {x : Pt} {c : RCall} (h : kindQ c = 1) : doT x c = synT x c.area := by simp [doT, h]
theorem doT_2 {x : Pt} {c : RCall} (h : kindQ c = 2) : doT x c = wipT x c.area := by simp [doT, h]
theorem doT_3 {x : Pt} {c : RCall} (h : kindQ c = 3) : doT x c = flpT x := by simp [doT, h]
theorem rDo_c (F : List Atom) (r : Nat) (x : Pt) (h : x.ok) (c : RCall) [rd : RdC F c] (hk : ∀ k ∈ c.ks, inR .i64 k) (hb : c.b.length ≤ 1000000000) (hn : inR .i64 c.n) :
    Fn Try.prog 24 [.pointer (some ⟨r, 0, none⟩), agg (rcallC c)] (rp r x :: F) fun v L' => v = .int .i64 (doT x c).1 ∧ L' = rp r (doT x c).2 :: F := by
  have hok := h
  obtain ⟨hl, ha, hbb, hn0, hn1, har⟩ := h
  simp only [inR] at hn
  have rb := rd.b
  have rk := rd.k
  refine fn_intro Try.func24 rfl Try.ntmps24 rfl (fun W0 => ?_)
  simp only [argE]
  have hk5 : c.kind % 18446744073709551616 % 6 = kindQ c := rfl
  refine rS ?_
  refine rR (id := 0) ?_
  refine o_boxA (evv rfl) rfl (fun _ => ?_)
  refine oG (gA (evv rfl)) rfl rfl ?_
  refine oN ?_
  refine cC ?_
  refine rS ?_
  refine rR (id := 1) ?_
  refine oG (g_fld (evv rfl)) rfl rfl ?_
  refine oG (g_load (evv rfl) (by rfl) (by rfl)) rfl rfl ?_
  refine o_giveU (g_conv TyU.h TyU.h (evv rfl)) (by rfl) rfl ?_
  refine oG (g_remP (evv rfl) (evv rfl) (by omega) (by omega)) rfl rfl ?_
  refine o_giveN (g_conv TyU.h TyU.h (evv rfl)) (by simp only [inR]; omega) rfl ?_
  refine oG (gA (evv rfl)) rfl rfl ?_
  refine oN ?_
  refine cC ?_
  refine rS ?_
  refine rS ?_
  rw [hk5]
  rename_i q
  generalize hkc : kindQ c = kc
  have hkr : 0 ≤ kc ∧ kc < 6 := by rw [← hkc]; unfold kindQ; omega
  obtain ⟨kind, area, bv, b, n, kv, ks⟩ := c
  dsimp only at rb rk hk hb hn
  obtain ⟨b0, s0, b1, s1, lv, am, dn⟩ := x
  dsimp only at hl ha hbb hn0 hn1 har
  refine r_ent (blk q ⟨[.int .i64 kind, .int .i64 area, bv, .int .i64 n, kv], 61⟩ :: blk r (rpB b0 b1 s0 s1 lv am dn) :: F) (Ent.refl _) ?_
  rcases (by omega : kc = 0 ∨ kc = 1 ∨ kc = 2 ∨ kc = 3 ∨ kc = 4 ∨ kc = 5) with rfl | rfl | rfl | rfl | rfl | rfl
  · refine rR (id := 2) ?_
    refine oG (gM (evv rfl)) rfl rfl ?_
    refine oG (g_bin (evv rfl) (evv rfl) (by rfl)) rfl rfl ?_
    refine oN ?_
    refine cC ?_
    refine r_cond_false rfl ?_
    refine r_skip ?_
    refine cC ?_
    refine rS ?_
    refine rS ?_
    refine rR (id := 8) ?_
    refine oG (gM (evv rfl)) rfl rfl ?_
    refine oG (g_bin (evv rfl) (evv rfl) (by rfl)) rfl rfl ?_
    refine oN ?_
    refine cC ?_
    refine r_cond_false rfl ?_
    refine r_skip ?_
    refine cC ?_
    refine rS ?_
    refine rS ?_
    refine rR (id := 11) ?_
    refine oG (gM (evv rfl)) rfl rfl ?_
    refine oG (g_bin (evv rfl) (evv rfl) (by rfl)) rfl rfl ?_
    refine oG (gM (evv rfl)) rfl rfl ?_
    refine o_gyes rfl ?_
    refine oG (g_fld (evv rfl)) rfl rfl ?_
    refine o_gyes rfl ?_
    refine oG (g_load (evv rfl) (by rfl) (by rfl)) rfl rfl ?_
    refine o_gyes rfl ?_
    refine oG (g_bin (evv rfl) (evv rfl) (by rfl)) rfl rfl ?_
    refine o_gyes rfl ?_
    refine oG (gM (evv rfl)) rfl rfl ?_
    refine o_lazy rfl (fun hg => g_fld (evv rfl)) rfl rfl ?_
    refine o_lazy rfl (fun hg => g_load (evg rfl hg) (by rfl) (by rfl)) rfl rfl ?_
    refine o_lazy rfl (fun hg => g_bin (by first | exact evv rfl | exact evg rfl (by rw [hp]; rfl) | exact evg rfl hp | exact evg rfl hg | exact evg rfl (by first | (simp_all; done) | (simp [*]; done) | fail) | fail) (by first | exact evv rfl | exact evg rfl (by rw [hp]; rfl) | exact evg rfl hp | exact evg rfl hg | exact evg rfl (by first | (simp_all; done) | (simp [*]; done) | fail) | fail) (by rfl)) rfl rfl ?_
    refine o_gyes rfl ?_
    refine oG (g_pick_or (evv rfl) (evv rfl) (fun hp => (by first | exact evv rfl | exact evg rfl (by rw [hp]; rfl) | exact evg rfl hp | exact evg rfl hg | exact evg rfl (by first | (simp_all; done) | (simp [*]; done) | fail) | fail))) rfl rfl ?_
    refine oG (g_pick (b := true) (evv rfl) (fun _ => (evv rfl)) (fun h => by cases h)) rfl rfl ?_
    refine oN ?_
    refine cC ?_
    refine r_cond rfl (fun c1 => ?_) (fun c1 => ?_) <;> (try simp only [decide_eq_true_eq, decide_eq_false_iff_not, Bool.and_eq_true, Bool.or_eq_true, Bool.not_eq_true', Bool.and_eq_false_iff, Bool.or_eq_false_iff, Bool.not_eq_false', Bool.not_eq_true, Bool.not_eq_false, Bool.true_eq_false, Bool.false_eq_true, Int.not_lt, Int.not_le, not_and, not_or, ne_eq] at c1)
    · have hd : doT ⟨b0, s0, b1, s1, lv, am, dn⟩ ⟨kind, area, bv, b, n, kv, ks⟩ = (1, ⟨b0, s0, b1, s1, lv, am, dn⟩) := by
        rw [doT_0 hkc, appT, chg_arg (by decide) (show area < 0 ∨ 1 < area by omega)]; rfl
      rw [hd]
      refine rS ?_
      refine rR (id := 12) ?_
      refine oG (gA (evv rfl)) rfl rfl ?_
      refine oN ?_
      refine cC ?_
      first | refine r_ret (rs := [.tmp 4]) rfl rfl _ (Ent.drop) ?_ | refine c_end (rs := [.tmp 4]) rfl rfl _ (Ent.drop) ?_
      (refine ⟨?_, ?_⟩ <;> first | rfl | trivial | omega)
    · have hA : area = 0 ∨ area = 1 := by omega
      clear c1
      refine r_skip ?_
      refine cC ?_
      refine rS ?_
      refine rS ?_
      refine rR (id := 13) ?_
      refine oG (gM (evv rfl)) rfl rfl ?_
      refine oG (g_nil (evv rfl)) rfl rfl ?_
      refine oG (g_fld (evv rfl)) rfl rfl ?_
      refine oG (g_load (evv rfl) (by rfl) (by rfl)) rfl rfl ?_
      refine oN ?_
      refine cC ?_
      refine r_cond rfl (fun c2 => ?_) (fun c2 => ?_) <;> (try simp only [decide_eq_true_eq, decide_eq_false_iff_not, Bool.and_eq_true, Bool.or_eq_true, Bool.not_eq_true', Bool.and_eq_false_iff, Bool.or_eq_false_iff, Bool.not_eq_false', Bool.not_eq_true, Bool.not_eq_false, Bool.true_eq_false, Bool.false_eq_true, Int.not_lt, Int.not_le, not_and, not_or, ne_eq] at c2)
      · subst c2
        have hd : doT ⟨b0, s0, b1, s1, lv, am, true⟩ ⟨kind, area, bv, b, n, kv, ks⟩ = (170, ⟨b0, s0, b1, s1, lv, am, true⟩) := by
          rw [doT_0 hkc, appT, chg_down (show (0 : Int) = 3 ∨ area = 0 ∨ area = 1 by omega) rfl]; rfl
        rw [hd]
        refine rS ?_
        refine rR (id := 14) ?_
        refine oG (gA (evv rfl)) rfl rfl ?_
        refine oN ?_
        refine cC ?_
        first | refine r_ret (rs := [.tmp 4]) rfl rfl _ (Ent.drop) ?_ | refine c_end (rs := [.tmp 4]) rfl rfl _ (Ent.drop) ?_
        (refine ⟨?_, ?_⟩ <;> first | rfl | trivial | omega)
      · subst c2
        have hd : doT ⟨b0, s0, b1, s1, lv, am, false⟩ ⟨kind, area, bv, b, n, kv, ks⟩ = (if am = 1 then 170 else 0, (tick ⟨b0, s0, b1, s1, lv, am, false⟩).setB area (((tick ⟨b0, s0, b1, s1, lv, am, false⟩).b area.toNat) ++ b)) := by
          rw [doT_0 hkc, appT, chg_go (show (0 : Int) = 3 ∨ area = 0 ∨ area = 1 by omega) rfl (by omega) (by omega)]; rfl
        rw [hd]
        rcases hA with rfl | rfl
        · refine r_skip ?_
          refine cC ?_
          refine rS ?_
          refine rR (id := 15) ?_
          refine oG (gM (evv rfl)) rfl rfl ?_
          refine oG (g_nil (evv rfl)) rfl rfl ?_
          refine oG (g_fld (evv rfl)) rfl rfl ?_
          refine oG (g_load (evv rfl) (by rfl) (by rfl)) rfl rfl ?_
          refine o_giveN (g_bin (evv rfl) (evv rfl) (by rfl)) (by simp only [inR]; omega) rfl ?_
          refine oG (gA (evv rfl)) rfl rfl ?_
          refine oN ?_
          refine cC ?_
          refine rS ?_
          refine rS ?_
          refine r_quiet (id := 16) Mixed.h (by kernel_rfl) ?_
          refine q_give (gM (evv rfl)) rfl rfl ?_
          refine q_give (g_bin (evv rfl) (evv rfl) (by rfl)) rfl rfl ?_
          refine q_give (gM (evv rfl)) rfl rfl ?_
          refine q_lazy rfl (fun hg => g_fld (evv rfl)) rfl rfl ?_
          refine q_lazy rfl (fun hg => g_load (evg rfl hg) (by rfl) (by rfl)) rfl rfl ?_
          refine q_lazy rfl (fun hg => gM (by first | exact evv rfl | exact evg rfl (by rw [hp]; rfl) | exact evg rfl hp | exact evg rfl hg | exact evg rfl (by first | (simp_all; done) | (simp [*]; done) | fail) | fail)) rfl rfl ?_
          refine q_lazy rfl (fun hg => g_nil (by first | exact evv rfl | exact evg rfl (by rw [hp]; rfl) | exact evg rfl hp | exact evg rfl hg | exact evg rfl (by first | (simp_all; done) | (simp [*]; done) | fail) | fail)) rfl rfl ?_
          refine q_lazy rfl (fun hg => g_fld (evg rfl hg)) rfl rfl ?_
          refine q_lazy rfl (fun hg => g_load (evg rfl hg) (by rfl) (by rfl)) rfl rfl ?_
          refine q_lazy rfl (fun hg => g_bin (by first | exact evv rfl | exact evg rfl (by rw [hp]; rfl) | exact evg rfl hp | exact evg rfl hg | exact evg rfl (by first | (simp_all; done) | (simp [*]; done) | fail) | fail) (by first | exact evv rfl | exact evg rfl (by rw [hp]; rfl) | exact evg rfl hp | exact evg rfl hg | exact evg rfl (by first | (simp_all; done) | (simp [*]; done) | fail) | fail) (by rfl)) rfl rfl ?_
          refine q_give (g_pick (b := false) (evv rfl) (fun h => by cases h) (fun _ => (evv rfl))) rfl rfl ?_
          refine q_give (gM (evv rfl)) rfl rfl ?_
          refine q_sure rfl (gM (evv rfl)) rfl rfl ?_
          refine q_sure rfl (g_bin (evv rfl) (evv rfl) (by rfl)) rfl rfl ?_
          refine q_sure rfl (gM (evv rfl)) rfl rfl ?_
          refine q_lazy rfl (fun hg => gM (by first | exact evv rfl | exact evg rfl (by rw [hp]; rfl) | exact evg rfl hp | exact evg rfl hg | exact evg rfl (by first | (simp_all; done) | (simp [*]; done) | fail) | fail)) rfl rfl ?_
          refine q_lazy rfl (fun hg => gM (by first | exact evv rfl | exact evg rfl (by rw [hp]; rfl) | exact evg rfl hp | exact evg rfl hg | exact evg rfl (by first | (simp_all; done) | (simp [*]; done) | fail) | fail)) rfl rfl ?_
          refine q_lazy rfl (fun hg => g_nil (by first | exact evv rfl | exact evg rfl (by rw [hp]; rfl) | exact evg rfl hp | exact evg rfl hg | exact evg rfl (by first | (simp_all; done) | (simp [*]; done) | fail) | fail)) rfl rfl ?_
          refine q_lazy rfl (fun hg => g_fld (evg rfl hg)) rfl rfl ?_
          refine q_lazy rfl (fun hg => g_idxA (evg rfl hg) (evg rfl hg) (by omega) (by omega)) rfl rfl ?_
          refine q_lazy (v0 := undef) rfl (fun hg => absurd hg (by first | (simp; done) | fail)) rfl rfl ?_
          refine q_lazy rfl (fun hg => gM (by first | exact evv rfl | exact evg rfl (by rw [hp]; rfl) | exact evg rfl hp | exact evg rfl hg | exact evg rfl (by first | (simp_all; done) | (simp [*]; done) | fail) | fail)) rfl rfl ?_
          refine q_lazy rfl (fun hg => gM (by first | exact evv rfl | exact evg rfl (by rw [hp]; rfl) | exact evg rfl hp | exact evg rfl hg | exact evg rfl (by first | (simp_all; done) | (simp [*]; done) | fail) | fail)) rfl rfl ?_
          refine q_lazy rfl (fun hg => g_nil (by first | exact evv rfl | exact evg rfl (by rw [hp]; rfl) | exact evg rfl hp | exact evg rfl hg | exact evg rfl (by first | (simp_all; done) | (simp [*]; done) | fail) | fail)) rfl rfl ?_
          refine q_lazy rfl (fun hg => g_fld (evg rfl hg)) rfl rfl ?_
          refine q_lazy rfl (fun hg => g_idxA (evg rfl hg) (evg rfl hg) (by omega) (by omega)) rfl rfl ?_
          refine q_lazy (v0 := undef) rfl (fun hg => absurd hg (by first | (simp; done) | fail)) rfl rfl ?_
          refine q_lazy (v0 := undef) rfl (fun hg => absurd hg (by first | (simp; done) | fail)) rfl rfl ?_
          refine q_lazy (v0 := undef) rfl (fun hg => absurd hg (by first | (simp; done) | fail)) rfl rfl ?_
          refine q_sure rfl (g_pick (b := false) (evv rfl) (fun h => by cases h) (fun _ => (evv rfl))) rfl rfl ?_
          refine q_give (g_pick (b := false) (evv rfl) (fun h => by cases h) (fun _ => (evv rfl))) rfl rfl ?_
          refine q_nil ?_
          refine cC ?_
          refine r_cond_false rfl ?_
          refine r_skip ?_
          refine cC ?_
          refine rS ?_
          refine rR (id := 18) ?_
          refine oG (gM (evv rfl)) rfl rfl ?_
          (refine o_call rfl _ (PickR.ent (K := blk _)) (goes_b _ _ _ _ _ _ _ _ (by assumption)) rfl ?_; rintro _ _ ⟨rfl, rfl⟩)
          refine oG (gA (evv rfl)) rfl rfl ?_
          refine oN ?_
          refine cC ?_
          refine rS ?_
          refine rS ?_
          refine rR (id := 19) ?_
          refine oG (gM (evv rfl)) rfl rfl ?_
          refine oG (g_bin (evv rfl) (evv rfl) (by rfl)) rfl rfl ?_
          refine oN ?_
          refine cC ?_
          refine r_cond_true rfl ?_
          repeat (first | refine rS ?_ | refine cC ?_ | refine c_blk ?_ | refine r_block ?_ | refine r_skip ?_)
          refine r_held (id := 20) (blk q ⟨[.int .i64 kind, .int .i64 0, bv, .int .i64 n, kv], 61⟩ :: F) Mixed.h ?_
          refine h_give (i := 0) (by kernel_rfl) rfl (gM (evv rfl)) rfl rfl ?_
          refine h_give (i := 1) (by kernel_rfl) rfl (g_fld (evv rfl)) rfl rfl ?_
          refine h_give (i := 2) (by kernel_rfl) rfl (g_load (evv rfl) (by rfl) (by rfl)) rfl rfl ?_
          refine h_give (i := 3) (by kernel_rfl) rfl (gM (evv rfl)) rfl rfl ?_
          refine h_give (i := 4) (by kernel_rfl) rfl (g_fld (evv rfl)) rfl rfl ?_
          refine h_give (i := 5) (by kernel_rfl) rfl (g_load (evv rfl) (by rfl) (by rfl)) rfl rfl ?_
          refine h_give (i := 6) (by kernel_rfl) rfl (g_nil (evv rfl)) rfl rfl ?_
          refine h_give (i := 7) (by kernel_rfl) rfl (g_fld (evv rfl)) rfl rfl ?_
          refine h_give (i := 8) (by kernel_rfl) rfl (g_idxA (evv rfl) (evv rfl) (by omega) (by omega)) rfl rfl ?_
          refine h_give (i := 10) (by kernel_rfl) rfl (g_fld (evv rfl)) rfl rfl ?_
          refine h_give (i := 11) (by kernel_rfl) rfl (g_load (evv rfl) (by rfl) (by rfl)) rfl rfl ?_
          refine h_give (i := 12) (by kernel_rfl) rfl (g_b2sM (evv rfl)) rfl rfl ?_
          refine h_give (i := 14) (by kernel_rfl) rfl (g_nil (evv rfl)) rfl rfl ?_
          refine h_give (i := 15) (by kernel_rfl) rfl (g_fld (evv rfl)) rfl rfl ?_
          refine h_one (i := 9) (by kernel_rfl) rfl (Lay.ent) ?_
          refine oG (g_load (evv rfl) (by rfl) (by rfl)) rfl rfl ?_
          refine oN ?_
          refine h_give (i := 13) (by kernel_rfl) rfl (g_cat (evv rfl) (evv rfl) (by (try simp only [bsOf, List.length_append, List.length_cons, List.length_nil, List.length_take, List.length_drop, List.length_map, List.length_range]); omega)) rfl rfl ?_
          refine h_give (i := 16) (by kernel_rfl) rfl (g_idxA (evv rfl) (evv rfl) (by omega) (by omega)) rfl rfl ?_
          refine h_one (i := 17) (by kernel_rfl) rfl (Lay.ent) ?_
          refine o_store1 (evv rfl) (evv rfl) (by rfl) (by rfl) (by rfl) ?_
          refine oN ?_
          refine h_done (by kernel_rfl) (Lay.ent) ?_
          refine cC ?_
          refine rS ?_
          refine rS ?_
          refine rR (id := 21) ?_
          refine oG (gM (evv rfl)) rfl rfl ?_
          refine oN ?_
          refine cC ?_
          refine r_cond rfl (fun c5 => ?_) (fun c5 => ?_) <;> (try simp only [decide_eq_true_eq, decide_eq_false_iff_not, Bool.and_eq_true, Bool.or_eq_true, Bool.not_eq_true', Bool.and_eq_false_iff, Bool.or_eq_false_iff, Bool.not_eq_false', Bool.not_eq_true, Bool.not_eq_false, Bool.true_eq_false, Bool.false_eq_true, Int.not_lt, Int.not_le, not_and, not_or, ne_eq] at c5)
          · rw [if_pos c5]
            refine rS ?_
            refine rR (id := 22) ?_
            refine oG (gA (evv rfl)) rfl rfl ?_
            refine oN ?_
            refine cC ?_
            first | refine r_ret (rs := [.tmp 4]) rfl rfl _ (Lay.ent (L' := blk r (rpB (b0 ++ b) b1 s0 s1 lv (am - 1) (decide (am = 1))) :: F)) ?_ | refine c_end (rs := [.tmp 4]) rfl rfl _ (Lay.ent (L' := blk r (rpB (b0 ++ b) b1 s0 s1 lv (am - 1) (decide (am = 1))) :: F)) ?_
            (refine ⟨?_, ?_⟩ <;> first | rfl | trivial | omega)
          · rw [if_neg c5]
            refine r_skip ?_
            refine cC ?_
            refine rS ?_
            refine rS ?_
            refine rR (id := 23) ?_
            refine oG (gM (evv rfl)) rfl rfl ?_
            refine oG (g_bin (evv rfl) (evv rfl) (by rfl)) rfl rfl ?_
            refine oN ?_
            refine cC ?_
            refine r_cond_false rfl ?_
            refine r_skip ?_
            refine cC ?_
            refine rS ?_
            refine rS ?_
            refine rR (id := 25) ?_
            refine oG (gM (evv rfl)) rfl rfl ?_
            refine oG (g_bin (evv rfl) (evv rfl) (by rfl)) rfl rfl ?_
            refine oN ?_
            refine cC ?_
            refine r_cond_false rfl ?_
            refine r_skip ?_
            refine cC ?_
            refine rS ?_
            refine rS ?_
            refine rR (id := 28) ?_
            refine oG (gM (evv rfl)) rfl rfl ?_
            refine oG (g_bin (evv rfl) (evv rfl) (by rfl)) rfl rfl ?_
            refine oN ?_
            refine cC ?_
            refine r_cond_false rfl ?_
            refine r_skip ?_
            refine cC ?_
            refine rS ?_
            refine rR (id := 30) ?_
            refine oG (gA (evv rfl)) rfl rfl ?_
            refine oN ?_
            refine cC ?_
            first | refine r_ret (rs := [.tmp 4]) rfl rfl _ (Lay.ent (L' := blk r (rpB (b0 ++ b) b1 s0 s1 lv (am - 1) (decide (am = 1))) :: F)) ?_ | refine c_end (rs := [.tmp 4]) rfl rfl _ (Lay.ent (L' := blk r (rpB (b0 ++ b) b1 s0 s1 lv (am - 1) (decide (am = 1))) :: F)) ?_
            (refine ⟨?_, ?_⟩ <;> first | rfl | trivial | omega)
        · refine r_skip ?_
          refine cC ?_
          refine rS ?_
          refine rR (id := 15) ?_
          refine oG (gM (evv rfl)) rfl rfl ?_
          refine oG (g_nil (evv rfl)) rfl rfl ?_
          refine oG (g_fld (evv rfl)) rfl rfl ?_
          refine oG (g_load (evv rfl) (by rfl) (by rfl)) rfl rfl ?_
          refine o_giveN (g_bin (evv rfl) (evv rfl) (by rfl)) (by simp only [inR]; omega) rfl ?_
          refine oG (gA (evv rfl)) rfl rfl ?_
          refine oN ?_
          refine cC ?_
          refine rS ?_
          refine rS ?_
          refine r_quiet (id := 16) Mixed.h (by kernel_rfl) ?_
          refine q_give (gM (evv rfl)) rfl rfl ?_
          refine q_give (g_bin (evv rfl) (evv rfl) (by rfl)) rfl rfl ?_
          refine q_give (gM (evv rfl)) rfl rfl ?_
          refine q_lazy rfl (fun hg => g_fld (evv rfl)) rfl rfl ?_
          refine q_lazy rfl (fun hg => g_load (evg rfl hg) (by rfl) (by rfl)) rfl rfl ?_
          refine q_lazy rfl (fun hg => gM (by first | exact evv rfl | exact evg rfl (by rw [hp]; rfl) | exact evg rfl hp | exact evg rfl hg | exact evg rfl (by first | (simp_all; done) | (simp [*]; done) | fail) | fail)) rfl rfl ?_
          refine q_lazy rfl (fun hg => g_nil (by first | exact evv rfl | exact evg rfl (by rw [hp]; rfl) | exact evg rfl hp | exact evg rfl hg | exact evg rfl (by first | (simp_all; done) | (simp [*]; done) | fail) | fail)) rfl rfl ?_
          refine q_lazy rfl (fun hg => g_fld (evg rfl hg)) rfl rfl ?_
          refine q_lazy rfl (fun hg => g_load (evg rfl hg) (by rfl) (by rfl)) rfl rfl ?_
          refine q_lazy rfl (fun hg => g_bin (by first | exact evv rfl | exact evg rfl (by rw [hp]; rfl) | exact evg rfl hp | exact evg rfl hg | exact evg rfl (by first | (simp_all; done) | (simp [*]; done) | fail) | fail) (by first | exact evv rfl | exact evg rfl (by rw [hp]; rfl) | exact evg rfl hp | exact evg rfl hg | exact evg rfl (by first | (simp_all; done) | (simp [*]; done) | fail) | fail) (by rfl)) rfl rfl ?_
          refine q_give (g_pick (b := false) (evv rfl) (fun h => by cases h) (fun _ => (evv rfl))) rfl rfl ?_
          refine q_give (gM (evv rfl)) rfl rfl ?_
          refine q_sure rfl (gM (evv rfl)) rfl rfl ?_
          refine q_sure rfl (g_bin (evv rfl) (evv rfl) (by rfl)) rfl rfl ?_
          refine q_sure rfl (gM (evv rfl)) rfl rfl ?_
          refine q_lazy rfl (fun hg => gM (by first | exact evv rfl | exact evg rfl (by rw [hp]; rfl) | exact evg rfl hp | exact evg rfl hg | exact evg rfl (by first | (simp_all; done) | (simp [*]; done) | fail) | fail)) rfl rfl ?_
          refine q_lazy rfl (fun hg => gM (by first | exact evv rfl | exact evg rfl (by rw [hp]; rfl) | exact evg rfl hp | exact evg rfl hg | exact evg rfl (by first | (simp_all; done) | (simp [*]; done) | fail) | fail)) rfl rfl ?_
          refine q_lazy rfl (fun hg => g_nil (by first | exact evv rfl | exact evg rfl (by rw [hp]; rfl) | exact evg rfl hp | exact evg rfl hg | exact evg rfl (by first | (simp_all; done) | (simp [*]; done) | fail) | fail)) rfl rfl ?_
          refine q_lazy rfl (fun hg => g_fld (evg rfl hg)) rfl rfl ?_
          refine q_lazy rfl (fun hg => g_idxA (evg rfl hg) (evg rfl hg) (by omega) (by omega)) rfl rfl ?_
          refine q_lazy (v0 := undef) rfl (fun hg => absurd hg (by first | (simp; done) | fail)) rfl rfl ?_
          refine q_lazy rfl (fun hg => gM (by first | exact evv rfl | exact evg rfl (by rw [hp]; rfl) | exact evg rfl hp | exact evg rfl hg | exact evg rfl (by first | (simp_all; done) | (simp [*]; done) | fail) | fail)) rfl rfl ?_
          refine q_lazy rfl (fun hg => gM (by first | exact evv rfl | exact evg rfl (by rw [hp]; rfl) | exact evg rfl hp | exact evg rfl hg | exact evg rfl (by first | (simp_all; done) | (simp [*]; done) | fail) | fail)) rfl rfl ?_
          refine q_lazy rfl (fun hg => g_nil (by first | exact evv rfl | exact evg rfl (by rw [hp]; rfl) | exact evg rfl hp | exact evg rfl hg | exact evg rfl (by first | (simp_all; done) | (simp [*]; done) | fail) | fail)) rfl rfl ?_
          refine q_lazy rfl (fun hg => g_fld (evg rfl hg)) rfl rfl ?_
          refine q_lazy rfl (fun hg => g_idxA (evg rfl hg) (evg rfl hg) (by omega) (by omega)) rfl rfl ?_
          refine q_lazy (v0 := undef) rfl (fun hg => absurd hg (by first | (simp; done) | fail)) rfl rfl ?_
          refine q_lazy (v0 := undef) rfl (fun hg => absurd hg (by first | (simp; done) | fail)) rfl rfl ?_
          refine q_lazy (v0 := undef) rfl (fun hg => absurd hg (by first | (simp; done) | fail)) rfl rfl ?_
          refine q_sure rfl (g_pick (b := false) (evv rfl) (fun h => by cases h) (fun _ => (evv rfl))) rfl rfl ?_
          refine q_give (g_pick (b := false) (evv rfl) (fun h => by cases h) (fun _ => (evv rfl))) rfl rfl ?_
          refine q_nil ?_
          refine cC ?_
          refine r_cond_false rfl ?_
          refine r_skip ?_
          refine cC ?_
          refine rS ?_
          refine rR (id := 18) ?_
          refine oG (gM (evv rfl)) rfl rfl ?_
          (refine o_call rfl _ (PickR.ent (K := blk _)) (goes_b _ _ _ _ _ _ _ _ (by assumption)) rfl ?_; rintro _ _ ⟨rfl, rfl⟩)
          refine oG (gA (evv rfl)) rfl rfl ?_
          refine oN ?_
          refine cC ?_
          refine rS ?_
          refine rS ?_
          refine rR (id := 19) ?_
          refine oG (gM (evv rfl)) rfl rfl ?_
          refine oG (g_bin (evv rfl) (evv rfl) (by rfl)) rfl rfl ?_
          refine oN ?_
          refine cC ?_
          refine r_cond_true rfl ?_
          repeat (first | refine rS ?_ | refine cC ?_ | refine c_blk ?_ | refine r_block ?_ | refine r_skip ?_)
          refine r_held (id := 20) (blk q ⟨[.int .i64 kind, .int .i64 1, bv, .int .i64 n, kv], 61⟩ :: F) Mixed.h ?_
          refine h_give (i := 0) (by kernel_rfl) rfl (gM (evv rfl)) rfl rfl ?_
          refine h_give (i := 1) (by kernel_rfl) rfl (g_fld (evv rfl)) rfl rfl ?_
          refine h_give (i := 2) (by kernel_rfl) rfl (g_load (evv rfl) (by rfl) (by rfl)) rfl rfl ?_
          refine h_give (i := 3) (by kernel_rfl) rfl (gM (evv rfl)) rfl rfl ?_
          refine h_give (i := 4) (by kernel_rfl) rfl (g_fld (evv rfl)) rfl rfl ?_
          refine h_give (i := 5) (by kernel_rfl) rfl (g_load (evv rfl) (by rfl) (by rfl)) rfl rfl ?_
          refine h_give (i := 6) (by kernel_rfl) rfl (g_nil (evv rfl)) rfl rfl ?_
          refine h_give (i := 7) (by kernel_rfl) rfl (g_fld (evv rfl)) rfl rfl ?_
          refine h_give (i := 8) (by kernel_rfl) rfl (g_idxA (evv rfl) (evv rfl) (by omega) (by omega)) rfl rfl ?_
          refine h_give (i := 10) (by kernel_rfl) rfl (g_fld (evv rfl)) rfl rfl ?_
          refine h_give (i := 11) (by kernel_rfl) rfl (g_load (evv rfl) (by rfl) (by rfl)) rfl rfl ?_
          refine h_give (i := 12) (by kernel_rfl) rfl (g_b2sM (evv rfl)) rfl rfl ?_
          refine h_give (i := 14) (by kernel_rfl) rfl (g_nil (evv rfl)) rfl rfl ?_
          refine h_give (i := 15) (by kernel_rfl) rfl (g_fld (evv rfl)) rfl rfl ?_
          refine h_one (i := 9) (by kernel_rfl) rfl (Lay.ent) ?_
          refine oG (g_load (evv rfl) (by rfl) (by rfl)) rfl rfl ?_
          refine oN ?_
          refine h_give (i := 13) (by kernel_rfl) rfl (g_cat (evv rfl) (evv rfl) (by (try simp only [bsOf, List.length_append, List.length_cons, List.length_nil, List.length_take, List.length_drop, List.length_map, List.length_range]); omega)) rfl rfl ?_
          refine h_give (i := 16) (by kernel_rfl) rfl (g_idxA (evv rfl) (evv rfl) (by omega) (by omega)) rfl rfl ?_
          refine h_one (i := 17) (by kernel_rfl) rfl (Lay.ent) ?_
          refine o_store1 (evv rfl) (evv rfl) (by rfl) (by rfl) (by rfl) ?_
          refine oN ?_
          refine h_done (by kernel_rfl) (Lay.ent) ?_
          refine cC ?_
          refine rS ?_
          refine rS ?_
          refine rR (id := 21) ?_
          refine oG (gM (evv rfl)) rfl rfl ?_
          refine oN ?_
          refine cC ?_
          refine r_cond rfl (fun c5 => ?_) (fun c5 => ?_) <;> (try simp only [decide_eq_true_eq, decide_eq_false_iff_not, Bool.and_eq_true, Bool.or_eq_true, Bool.not_eq_true', Bool.and_eq_false_iff, Bool.or_eq_false_iff, Bool.not_eq_false', Bool.not_eq_true, Bool.not_eq_false, Bool.true_eq_false, Bool.false_eq_true, Int.not_lt, Int.not_le, not_and, not_or, ne_eq] at c5)
          · rw [if_pos c5]
            refine rS ?_
            refine rR (id := 22) ?_
            refine oG (gA (evv rfl)) rfl rfl ?_
            refine oN ?_
            refine cC ?_
            first | refine r_ret (rs := [.tmp 4]) rfl rfl _ (Lay.ent (L' := blk r (rpB b0 (b1 ++ b) s0 s1 lv (am - 1) (decide (am = 1))) :: F)) ?_ | refine c_end (rs := [.tmp 4]) rfl rfl _ (Lay.ent (L' := blk r (rpB b0 (b1 ++ b) s0 s1 lv (am - 1) (decide (am = 1))) :: F)) ?_
            (refine ⟨?_, ?_⟩ <;> first | rfl | trivial | omega)
          · rw [if_neg c5]
            refine r_skip ?_
            refine cC ?_
            refine rS ?_
            refine rS ?_
            refine rR (id := 23) ?_
            refine oG (gM (evv rfl)) rfl rfl ?_
            refine oG (g_bin (evv rfl) (evv rfl) (by rfl)) rfl rfl ?_
            refine oN ?_
            refine cC ?_
            refine r_cond_false rfl ?_
            refine r_skip ?_
            refine cC ?_
            refine rS ?_
            refine rS ?_
            refine rR (id := 25) ?_
            refine oG (gM (evv rfl)) rfl rfl ?_
            refine oG (g_bin (evv rfl) (evv rfl) (by rfl)) rfl rfl ?_
            refine oN ?_
            refine cC ?_
            refine r_cond_false rfl ?_
            refine r_skip ?_
            refine cC ?_
            refine rS ?_
            refine rS ?_
            refine rR (id := 28) ?_
            refine oG (gM (evv rfl)) rfl rfl ?_
            refine oG (g_bin (evv rfl) (evv rfl) (by rfl)) rfl rfl ?_
            refine oN ?_
            refine cC ?_
            refine r_cond_false rfl ?_
            refine r_skip ?_
            refine cC ?_
            refine rS ?_
            refine rR (id := 30) ?_
            refine oG (gA (evv rfl)) rfl rfl ?_
            refine oN ?_
            refine cC ?_
            first | refine r_ret (rs := [.tmp 4]) rfl rfl _ (Lay.ent (L' := blk r (rpB b0 (b1 ++ b) s0 s1 lv (am - 1) (decide (am = 1))) :: F)) ?_ | refine c_end (rs := [.tmp 4]) rfl rfl _ (Lay.ent (L' := blk r (rpB b0 (b1 ++ b) s0 s1 lv (am - 1) (decide (am = 1))) :: F)) ?_
            (refine ⟨?_, ?_⟩ <;> first | rfl | trivial | omega)
  · refine rR (id := 2) ?_
    refine oG (gM (evv rfl)) rfl rfl ?_
    refine oG (g_bin (evv rfl) (evv rfl) (by rfl)) rfl rfl ?_
    refine oN ?_
    refine cC ?_
    refine r_cond_false rfl ?_
    refine r_skip ?_
    refine cC ?_
    refine rS ?_
    refine rS ?_
    refine rR (id := 8) ?_
    refine oG (gM (evv rfl)) rfl rfl ?_
    refine oG (g_bin (evv rfl) (evv rfl) (by rfl)) rfl rfl ?_
    refine oN ?_
    refine cC ?_
    refine r_cond_false rfl ?_
    refine r_skip ?_
    refine cC ?_
    refine rS ?_
    refine rS ?_
    refine rR (id := 11) ?_
    refine oG (gM (evv rfl)) rfl rfl ?_
    refine oG (g_bin (evv rfl) (evv rfl) (by rfl)) rfl rfl ?_
    refine oG (gM (evv rfl)) rfl rfl ?_
    refine o_gyes rfl ?_
    refine oG (g_fld (evv rfl)) rfl rfl ?_
    refine o_gyes rfl ?_
    refine oG (g_load (evv rfl) (by rfl) (by rfl)) rfl rfl ?_
    refine o_gyes rfl ?_
    refine oG (g_bin (evv rfl) (evv rfl) (by rfl)) rfl rfl ?_
    refine o_gyes rfl ?_
    refine oG (gM (evv rfl)) rfl rfl ?_
    refine o_lazy rfl (fun hg => g_fld (evv rfl)) rfl rfl ?_
    refine o_lazy rfl (fun hg => g_load (evg rfl hg) (by rfl) (by rfl)) rfl rfl ?_
    refine o_lazy rfl (fun hg => g_bin (by first | exact evv rfl | exact evg rfl (by rw [hp]; rfl) | exact evg rfl hp | exact evg rfl hg | exact evg rfl (by first | (simp_all; done) | (simp [*]; done) | fail) | fail) (by first | exact evv rfl | exact evg rfl (by rw [hp]; rfl) | exact evg rfl hp | exact evg rfl hg | exact evg rfl (by first | (simp_all; done) | (simp [*]; done) | fail) | fail) (by rfl)) rfl rfl ?_
    refine o_gyes rfl ?_
    refine oG (g_pick_or (evv rfl) (evv rfl) (fun hp => (by first | exact evv rfl | exact evg rfl (by rw [hp]; rfl) | exact evg rfl hp | exact evg rfl hg | exact evg rfl (by first | (simp_all; done) | (simp [*]; done) | fail) | fail))) rfl rfl ?_
    refine oG (g_pick (b := true) (evv rfl) (fun _ => (evv rfl)) (fun h => by cases h)) rfl rfl ?_
    refine oN ?_
    refine cC ?_
    refine r_cond rfl (fun c1 => ?_) (fun c1 => ?_) <;> (try simp only [decide_eq_true_eq, decide_eq_false_iff_not, Bool.and_eq_true, Bool.or_eq_true, Bool.not_eq_true', Bool.and_eq_false_iff, Bool.or_eq_false_iff, Bool.not_eq_false', Bool.not_eq_true, Bool.not_eq_false, Bool.true_eq_false, Bool.false_eq_true, Int.not_lt, Int.not_le, not_and, not_or, ne_eq] at c1)
    · have hd : doT ⟨b0, s0, b1, s1, lv, am, dn⟩ ⟨kind, area, bv, b, n, kv, ks⟩ = (1, ⟨b0, s0, b1, s1, lv, am, dn⟩) := by
        rw [doT_1 hkc, synT, chg_arg (by decide) (show area < 0 ∨ 1 < area by omega)]; rfl
      rw [hd]
      refine rS ?_
      refine rR (id := 12) ?_
      refine oG (gA (evv rfl)) rfl rfl ?_
      refine oN ?_
      refine cC ?_
      first | refine r_ret (rs := [.tmp 4]) rfl rfl _ (Ent.drop) ?_ | refine c_end (rs := [.tmp 4]) rfl rfl _ (Ent.drop) ?_
      (refine ⟨?_, ?_⟩ <;> first | rfl | trivial | omega)
    · have hA : area = 0 ∨ area = 1 := by omega
      clear c1
      refine r_skip ?_
      refine cC ?_
      refine rS ?_
      refine rS ?_
      refine rR (id := 13) ?_
      refine oG (gM (evv rfl)) rfl rfl ?_
      refine oG (g_nil (evv rfl)) rfl rfl ?_
      refine oG (g_fld (evv rfl)) rfl rfl ?_
      refine oG (g_load (evv rfl) (by rfl) (by rfl)) rfl rfl ?_
      refine oN ?_
      refine cC ?_
      refine r_cond rfl (fun c2 => ?_) (fun c2 => ?_) <;> (try simp only [decide_eq_true_eq, decide_eq_false_iff_not, Bool.and_eq_true, Bool.or_eq_true, Bool.not_eq_true', Bool.and_eq_false_iff, Bool.or_eq_false_iff, Bool.not_eq_false', Bool.not_eq_true, Bool.not_eq_false, Bool.true_eq_false, Bool.false_eq_true, Int.not_lt, Int.not_le, not_and, not_or, ne_eq] at c2)
      · subst c2
        have hd : doT ⟨b0, s0, b1, s1, lv, am, true⟩ ⟨kind, area, bv, b, n, kv, ks⟩ = (170, ⟨b0, s0, b1, s1, lv, am, true⟩) := by
          rw [doT_1 hkc, synT, chg_down (show (1 : Int) = 3 ∨ area = 0 ∨ area = 1 by omega) rfl]; rfl
        rw [hd]
        refine rS ?_
        refine rR (id := 14) ?_
        refine oG (gA (evv rfl)) rfl rfl ?_
        refine oN ?_
        refine cC ?_
        first | refine r_ret (rs := [.tmp 4]) rfl rfl _ (Ent.drop) ?_ | refine c_end (rs := [.tmp 4]) rfl rfl _ (Ent.drop) ?_
        (refine ⟨?_, ?_⟩ <;> first | rfl | trivial | omega)
      · subst c2
        have hd : doT ⟨b0, s0, b1, s1, lv, am, false⟩ ⟨kind, area, bv, b, n, kv, ks⟩ = (if am = 1 then 170 else 0, if (if am = 1 then (170 : Int) else 0) = 0 then (tick ⟨b0, s0, b1, s1, lv, am, false⟩).setS area ((tick ⟨b0, s0, b1, s1, lv, am, false⟩).b area.toNat).length else tick ⟨b0, s0, b1, s1, lv, am, false⟩) := by
          rw [doT_1 hkc, synT, chg_go (show (1 : Int) = 3 ∨ area = 0 ∨ area = 1 by omega) rfl (by omega) (by omega)]
        rw [hd]
        rcases hA with rfl | rfl
        · refine r_skip ?_
          refine cC ?_
          refine rS ?_
          refine rR (id := 15) ?_
          refine oG (gM (evv rfl)) rfl rfl ?_
          refine oG (g_nil (evv rfl)) rfl rfl ?_
          refine oG (g_fld (evv rfl)) rfl rfl ?_
          refine oG (g_load (evv rfl) (by rfl) (by rfl)) rfl rfl ?_
          refine o_giveN (g_bin (evv rfl) (evv rfl) (by rfl)) (by simp only [inR]; omega) rfl ?_
          refine oG (gA (evv rfl)) rfl rfl ?_
          refine oN ?_
          refine cC ?_
          refine rS ?_
          refine rS ?_
          refine r_quiet (id := 16) Mixed.h (by kernel_rfl) ?_
          refine q_give (gM (evv rfl)) rfl rfl ?_
          refine q_give (g_bin (evv rfl) (evv rfl) (by rfl)) rfl rfl ?_
          refine q_give (gM (evv rfl)) rfl rfl ?_
          refine q_lazy rfl (fun hg => g_fld (evv rfl)) rfl rfl ?_
          refine q_lazy rfl (fun hg => g_load (evg rfl hg) (by rfl) (by rfl)) rfl rfl ?_
          refine q_lazy rfl (fun hg => gM (by first | exact evv rfl | exact evg rfl (by rw [hp]; rfl) | exact evg rfl hp | exact evg rfl hg | exact evg rfl (by first | (simp_all; done) | (simp [*]; done) | fail) | fail)) rfl rfl ?_
          refine q_lazy rfl (fun hg => g_nil (by first | exact evv rfl | exact evg rfl (by rw [hp]; rfl) | exact evg rfl hp | exact evg rfl hg | exact evg rfl (by first | (simp_all; done) | (simp [*]; done) | fail) | fail)) rfl rfl ?_
          refine q_lazy rfl (fun hg => g_fld (evg rfl hg)) rfl rfl ?_
          refine q_lazy rfl (fun hg => g_load (evg rfl hg) (by rfl) (by rfl)) rfl rfl ?_
          refine q_lazy rfl (fun hg => g_bin (by first | exact evv rfl | exact evg rfl (by rw [hp]; rfl) | exact evg rfl hp | exact evg rfl hg | exact evg rfl (by first | (simp_all; done) | (simp [*]; done) | fail) | fail) (by first | exact evv rfl | exact evg rfl (by rw [hp]; rfl) | exact evg rfl hp | exact evg rfl hg | exact evg rfl (by first | (simp_all; done) | (simp [*]; done) | fail) | fail) (by rfl)) rfl rfl ?_
          refine q_give (g_pick (b := false) (evv rfl) (fun h => by cases h) (fun _ => (evv rfl))) rfl rfl ?_
          refine q_give (gM (evv rfl)) rfl rfl ?_
          refine q_sure rfl (gM (evv rfl)) rfl rfl ?_
          refine q_sure rfl (g_bin (evv rfl) (evv rfl) (by rfl)) rfl rfl ?_
          refine q_sure rfl (gM (evv rfl)) rfl rfl ?_
          refine q_lazy rfl (fun hg => gM (by first | exact evv rfl | exact evg rfl (by rw [hp]; rfl) | exact evg rfl hp | exact evg rfl hg | exact evg rfl (by first | (simp_all; done) | (simp [*]; done) | fail) | fail)) rfl rfl ?_
          refine q_lazy rfl (fun hg => gM (by first | exact evv rfl | exact evg rfl (by rw [hp]; rfl) | exact evg rfl hp | exact evg rfl hg | exact evg rfl (by first | (simp_all; done) | (simp [*]; done) | fail) | fail)) rfl rfl ?_
          refine q_lazy rfl (fun hg => g_nil (by first | exact evv rfl | exact evg rfl (by rw [hp]; rfl) | exact evg rfl hp | exact evg rfl hg | exact evg rfl (by first | (simp_all; done) | (simp [*]; done) | fail) | fail)) rfl rfl ?_
          refine q_lazy rfl (fun hg => g_fld (evg rfl hg)) rfl rfl ?_
          refine q_lazy rfl (fun hg => g_idxA (evg rfl hg) (evg rfl hg) (by omega) (by omega)) rfl rfl ?_
          refine q_lazy (v0 := undef) rfl (fun hg => absurd hg (by first | (simp; done) | fail)) rfl rfl ?_
          refine q_lazy rfl (fun hg => gM (by first | exact evv rfl | exact evg rfl (by rw [hp]; rfl) | exact evg rfl hp | exact evg rfl hg | exact evg rfl (by first | (simp_all; done) | (simp [*]; done) | fail) | fail)) rfl rfl ?_
          refine q_lazy rfl (fun hg => gM (by first | exact evv rfl | exact evg rfl (by rw [hp]; rfl) | exact evg rfl hp | exact evg rfl hg | exact evg rfl (by first | (simp_all; done) | (simp [*]; done) | fail) | fail)) rfl rfl ?_
          refine q_lazy rfl (fun hg => g_nil (by first | exact evv rfl | exact evg rfl (by rw [hp]; rfl) | exact evg rfl hp | exact evg rfl hg | exact evg rfl (by first | (simp_all; done) | (simp [*]; done) | fail) | fail)) rfl rfl ?_
          refine q_lazy rfl (fun hg => g_fld (evg rfl hg)) rfl rfl ?_
          refine q_lazy rfl (fun hg => g_idxA (evg rfl hg) (evg rfl hg) (by omega) (by omega)) rfl rfl ?_
          refine q_lazy (v0 := undef) rfl (fun hg => absurd hg (by first | (simp; done) | fail)) rfl rfl ?_
          refine q_lazy (v0 := undef) rfl (fun hg => absurd hg (by first | (simp; done) | fail)) rfl rfl ?_
          refine q_lazy (v0 := undef) rfl (fun hg => absurd hg (by first | (simp; done) | fail)) rfl rfl ?_
          refine q_sure rfl (g_pick (b := false) (evv rfl) (fun h => by cases h) (fun _ => (evv rfl))) rfl rfl ?_
          refine q_give (g_pick (b := false) (evv rfl) (fun h => by cases h) (fun _ => (evv rfl))) rfl rfl ?_
          refine q_nil ?_
          refine cC ?_
          refine r_cond_false rfl ?_
          refine r_skip ?_
          refine cC ?_
          refine rS ?_
          refine rR (id := 18) ?_
          refine oG (gM (evv rfl)) rfl rfl ?_
          (refine o_call rfl _ (PickR.ent (K := blk _)) (goes_b _ _ _ _ _ _ _ _ (by assumption)) rfl ?_; rintro _ _ ⟨rfl, rfl⟩)
          refine oG (gA (evv rfl)) rfl rfl ?_
          refine oN ?_
          refine cC ?_
          refine rS ?_
          refine rS ?_
          refine rR (id := 19) ?_
          refine oG (gM (evv rfl)) rfl rfl ?_
          refine oG (g_bin (evv rfl) (evv rfl) (by rfl)) rfl rfl ?_
          refine oN ?_
          refine cC ?_
          refine r_cond_false rfl ?_
          refine r_skip ?_
          refine cC ?_
          refine rS ?_
          refine rS ?_
          refine rR (id := 21) ?_
          refine oG (gM (evv rfl)) rfl rfl ?_
          refine oN ?_
          refine cC ?_
          refine r_cond rfl (fun c5 => ?_) (fun c5 => ?_) <;> (try simp only [decide_eq_true_eq, decide_eq_false_iff_not, Bool.and_eq_true, Bool.or_eq_true, Bool.not_eq_true', Bool.and_eq_false_iff, Bool.or_eq_false_iff, Bool.not_eq_false', Bool.not_eq_true, Bool.not_eq_false, Bool.true_eq_false, Bool.false_eq_true, Int.not_lt, Int.not_le, not_and, not_or, ne_eq] at c5)
          · simp only [if_pos c5]
            rw [if_neg (by decide)]
            refine rS ?_
            refine rR (id := 22) ?_
            refine oG (gA (evv rfl)) rfl rfl ?_
            refine oN ?_
            refine cC ?_
            first | refine r_ret (rs := [.tmp 4]) rfl rfl _ (Lay.ent (L' := blk r (rpB b0 b1 s0 s1 lv (am - 1) (decide (am = 1))) :: F)) ?_ | refine c_end (rs := [.tmp 4]) rfl rfl _ (Lay.ent (L' := blk r (rpB b0 b1 s0 s1 lv (am - 1) (decide (am = 1))) :: F)) ?_
            (refine ⟨?_, ?_⟩ <;> first | rfl | trivial | omega)
          · simp only [if_neg c5]
            rw [if_pos trivial]
            refine r_skip ?_
            refine cC ?_
            refine rS ?_
            refine rS ?_
            refine rR (id := 23) ?_
            refine oG (gM (evv rfl)) rfl rfl ?_
            refine oG (g_bin (evv rfl) (evv rfl) (by rfl)) rfl rfl ?_
            refine oN ?_
            refine cC ?_
            refine r_cond_true rfl ?_
            repeat (first | refine rS ?_ | refine cC ?_ | refine c_blk ?_ | refine r_block ?_ | refine r_skip ?_)
            refine r_held (id := 24) (blk q ⟨[.int .i64 kind, .int .i64 0, bv, .int .i64 n, kv], 61⟩ :: F) Mixed.h ?_
            refine h_give (i := 0) (by kernel_rfl) rfl (gM (evv rfl)) rfl rfl ?_
            refine h_give (i := 1) (by kernel_rfl) rfl (g_fld (evv rfl)) rfl rfl ?_
            refine h_give (i := 2) (by kernel_rfl) rfl (g_load (evv rfl) (by rfl) (by rfl)) rfl rfl ?_
            refine h_give (i := 3) (by kernel_rfl) rfl (gM (evv rfl)) rfl rfl ?_
            refine h_give (i := 4) (by kernel_rfl) rfl (g_fld (evv rfl)) rfl rfl ?_
            refine h_give (i := 5) (by kernel_rfl) rfl (g_load (evv rfl) (by rfl) (by rfl)) rfl rfl ?_
            refine h_give (i := 6) (by kernel_rfl) rfl (g_nil (evv rfl)) rfl rfl ?_
            refine h_give (i := 7) (by kernel_rfl) rfl (g_fld (evv rfl)) rfl rfl ?_
            refine h_give (i := 8) (by kernel_rfl) rfl (g_idxA (evv rfl) (evv rfl) (by omega) (by omega)) rfl rfl ?_
            refine h_give (i := 11) (by kernel_rfl) rfl (g_nil (evv rfl)) rfl rfl ?_
            refine h_give (i := 12) (by kernel_rfl) rfl (g_fld (evv rfl)) rfl rfl ?_
            refine h_one (i := 9) (by kernel_rfl) rfl (Lay.ent) ?_
            refine oG (g_load (evv rfl) (by rfl) (by rfl)) rfl rfl ?_
            refine oN ?_
            refine h_give (i := 10) (by kernel_rfl) rfl (g_lenS TyU.h (evv rfl)) rfl rfl ?_
            refine h_give (i := 13) (by kernel_rfl) rfl (g_idxA (evv rfl) (evv rfl) (by omega) (by omega)) rfl rfl ?_
            refine h_one (i := 14) (by kernel_rfl) rfl (Lay.ent) ?_
            refine o_store1 (evv rfl) (evv rfl) (by rfl) (by rfl) (by rfl) ?_
            refine oN ?_
            refine h_done (by kernel_rfl) (Lay.ent) ?_
            refine cC ?_
            refine rS ?_
            refine rS ?_
            refine rR (id := 25) ?_
            refine oG (gM (evv rfl)) rfl rfl ?_
            refine oG (g_bin (evv rfl) (evv rfl) (by rfl)) rfl rfl ?_
            refine oN ?_
            refine cC ?_
            refine r_cond_false rfl ?_
            refine r_skip ?_
            refine cC ?_
            refine rS ?_
            refine rS ?_
            refine rR (id := 28) ?_
            refine oG (gM (evv rfl)) rfl rfl ?_
            refine oG (g_bin (evv rfl) (evv rfl) (by rfl)) rfl rfl ?_
            refine oN ?_
            refine cC ?_
            refine r_cond_false rfl ?_
            refine r_skip ?_
            refine cC ?_
            refine rS ?_
            refine rR (id := 30) ?_
            refine oG (gA (evv rfl)) rfl rfl ?_
            refine oN ?_
            refine cC ?_
            first | refine r_ret (rs := [.tmp 4]) rfl rfl _ (Lay.ent (L' := blk r (rpB b0 b1 b0.length s1 lv (am - 1) (decide (am = 1))) :: F)) ?_ | refine c_end (rs := [.tmp 4]) rfl rfl _ (Lay.ent (L' := blk r (rpB b0 b1 b0.length s1 lv (am - 1) (decide (am = 1))) :: F)) ?_
            (refine ⟨?_, ?_⟩ <;> first | rfl | trivial | omega)
        · refine r_skip ?_
          refine cC ?_
          refine rS ?_
          refine rR (id := 15) ?_
          refine oG (gM (evv rfl)) rfl rfl ?_
          refine oG (g_nil (evv rfl)) rfl rfl ?_
          refine oG (g_fld (evv rfl)) rfl rfl ?_
          refine oG (g_load (evv rfl) (by rfl) (by rfl)) rfl rfl ?_
          refine o_giveN (g_bin (evv rfl) (evv rfl) (by rfl)) (by simp only [inR]; omega) rfl ?_
          refine oG (gA (evv rfl)) rfl rfl ?_
          refine oN ?_
          refine cC ?_
          refine rS ?_
          refine rS ?_
          refine r_quiet (id := 16) Mixed.h (by kernel_rfl) ?_
          refine q_give (gM (evv rfl)) rfl rfl ?_
          refine q_give (g_bin (evv rfl) (evv rfl) (by rfl)) rfl rfl ?_
          refine q_give (gM (evv rfl)) rfl rfl ?_
          refine q_lazy rfl (fun hg => g_fld (evv rfl)) rfl rfl ?_
          refine q_lazy rfl (fun hg => g_load (evg rfl hg) (by rfl) (by rfl)) rfl rfl ?_
          refine q_lazy rfl (fun hg => gM (by first | exact evv rfl | exact evg rfl (by rw [hp]; rfl) | exact evg rfl hp | exact evg rfl hg | exact evg rfl (by first | (simp_all; done) | (simp [*]; done) | fail) | fail)) rfl rfl ?_
          refine q_lazy rfl (fun hg => g_nil (by first | exact evv rfl | exact evg rfl (by rw [hp]; rfl) | exact evg rfl hp | exact evg rfl hg | exact evg rfl (by first | (simp_all; done) | (simp [*]; done) | fail) | fail)) rfl rfl ?_
          refine q_lazy rfl (fun hg => g_fld (evg rfl hg)) rfl rfl ?_
          refine q_lazy rfl (fun hg => g_load (evg rfl hg) (by rfl) (by rfl)) rfl rfl ?_
          refine q_lazy rfl (fun hg => g_bin (by first | exact evv rfl | exact evg rfl (by rw [hp]; rfl) | exact evg rfl hp | exact evg rfl hg | exact evg rfl (by first | (simp_all; done) | (simp [*]; done) | fail) | fail) (by first | exact evv rfl | exact evg rfl (by rw [hp]; rfl) | exact evg rfl hp | exact evg rfl hg | exact evg rfl (by first | (simp_all; done) | (simp [*]; done) | fail) | fail) (by rfl)) rfl rfl ?_
          refine q_give (g_pick (b := false) (evv rfl) (fun h => by cases h) (fun _ => (evv rfl))) rfl rfl ?_
          refine q_give (gM (evv rfl)) rfl rfl ?_
          refine q_sure rfl (gM (evv rfl)) rfl rfl ?_
          refine q_sure rfl (g_bin (evv rfl) (evv rfl) (by rfl)) rfl rfl ?_
          refine q_sure rfl (gM (evv rfl)) rfl rfl ?_
          refine q_lazy rfl (fun hg => gM (by first | exact evv rfl | exact evg rfl (by rw [hp]; rfl) | exact evg rfl hp | exact evg rfl hg | exact evg rfl (by first | (simp_all; done) | (simp [*]; done) | fail) | fail)) rfl rfl ?_
          refine q_lazy rfl (fun hg => gM (by first | exact evv rfl | exact evg rfl (by rw [hp]; rfl) | exact evg rfl hp | exact evg rfl hg | exact evg rfl (by first | (simp_all; done) | (simp [*]; done) | fail) | fail)) rfl rfl ?_
          refine q_lazy rfl (fun hg => g_nil (by first | exact evv rfl | exact evg rfl (by rw [hp]; rfl) | exact evg rfl hp | exact evg rfl hg | exact evg rfl (by first | (simp_all; done) | (simp [*]; done) | fail) | fail)) rfl rfl ?_
          refine q_lazy rfl (fun hg => g_fld (evg rfl hg)) rfl rfl ?_
          refine q_lazy rfl (fun hg => g_idxA (evg rfl hg) (evg rfl hg) (by omega) (by omega)) rfl rfl ?_
          refine q_lazy (v0 := undef) rfl (fun hg => absurd hg (by first | (simp; done) | fail)) rfl rfl ?_
          refine q_lazy rfl (fun hg => gM (by first | exact evv rfl | exact evg rfl (by rw [hp]; rfl) | exact evg rfl hp | exact evg rfl hg | exact evg rfl (by first | (simp_all; done) | (simp [*]; done) | fail) | fail)) rfl rfl ?_
          refine q_lazy rfl (fun hg => gM (by first | exact evv rfl | exact evg rfl (by rw [hp]; rfl) | exact evg rfl hp | exact evg rfl hg | exact evg rfl (by first | (simp_all; done) | (simp [*]; done) | fail) | fail)) rfl rfl ?_
          refine q_lazy rfl (fun hg => g_nil (by first | exact evv rfl | exact evg rfl (by rw [hp]; rfl) | exact evg rfl hp | exact evg rfl hg | exact evg rfl (by first | (simp_all; done) | (simp [*]; done) | fail) | fail)) rfl rfl ?_
          refine q_lazy rfl (fun hg => g_fld (evg rfl hg)) rfl rfl ?_
          refine q_lazy rfl (fun hg => g_idxA (evg rfl hg) (evg rfl hg) (by omega) (by omega)) rfl rfl ?_
          refine q_lazy (v0 := undef) rfl (fun hg => absurd hg (by first | (simp; done) | fail)) rfl rfl ?_
          refine q_lazy (v0 := undef) rfl (fun hg => absurd hg (by first | (simp; done) | fail)) rfl rfl ?_
          refine q_lazy (v0 := undef) rfl (fun hg => absurd hg (by first | (simp; done) | fail)) rfl rfl ?_
          refine q_sure rfl (g_pick (b := false) (evv rfl) (fun h => by cases h) (fun _ => (evv rfl))) rfl rfl ?_
          refine q_give (g_pick (b := false) (evv rfl) (fun h => by cases h) (fun _ => (evv rfl))) rfl rfl ?_
          refine q_nil ?_
          refine cC ?_
          refine r_cond_false rfl ?_
          refine r_skip ?_
          refine cC ?_
          refine rS ?_
          refine rR (id := 18) ?_
          refine oG (gM (evv rfl)) rfl rfl ?_
          (refine o_call rfl _ (PickR.ent (K := blk _)) (goes_b _ _ _ _ _ _ _ _ (by assumption)) rfl ?_; rintro _ _ ⟨rfl, rfl⟩)
          refine oG (gA (evv rfl)) rfl rfl ?_
          refine oN ?_
          refine cC ?_
          refine rS ?_
          refine rS ?_
          refine rR (id := 19) ?_
          refine oG (gM (evv rfl)) rfl rfl ?_
          refine oG (g_bin (evv rfl) (evv rfl) (by rfl)) rfl rfl ?_
          refine oN ?_
          refine cC ?_
          refine r_cond_false rfl ?_
          refine r_skip ?_
          refine cC ?_
          refine rS ?_
          refine rS ?_
          refine rR (id := 21) ?_
          refine oG (gM (evv rfl)) rfl rfl ?_
          refine oN ?_
          refine cC ?_
          refine r_cond rfl (fun c5 => ?_) (fun c5 => ?_) <;> (try simp only [decide_eq_true_eq, decide_eq_false_iff_not, Bool.and_eq_true, Bool.or_eq_true, Bool.not_eq_true', Bool.and_eq_false_iff, Bool.or_eq_false_iff, Bool.not_eq_false', Bool.not_eq_true, Bool.not_eq_false, Bool.true_eq_false, Bool.false_eq_true, Int.not_lt, Int.not_le, not_and, not_or, ne_eq] at c5)
          · simp only [if_pos c5]
            rw [if_neg (by decide)]
            refine rS ?_
            refine rR (id := 22) ?_
            refine oG (gA (evv rfl)) rfl rfl ?_
            refine oN ?_
            refine cC ?_
            first | refine r_ret (rs := [.tmp 4]) rfl rfl _ (Lay.ent (L' := blk r (rpB b0 b1 s0 s1 lv (am - 1) (decide (am = 1))) :: F)) ?_ | refine c_end (rs := [.tmp 4]) rfl rfl _ (Lay.ent (L' := blk r (rpB b0 b1 s0 s1 lv (am - 1) (decide (am = 1))) :: F)) ?_
            (refine ⟨?_, ?_⟩ <;> first | rfl | trivial | omega)
          · simp only [if_neg c5]
            rw [if_pos trivial]
            refine r_skip ?_
            refine cC ?_
            refine rS ?_
            refine rS ?_
            refine rR (id := 23) ?_
            refine oG (gM (evv rfl)) rfl rfl ?_
            refine oG (g_bin (evv rfl) (evv rfl) (by rfl)) rfl rfl ?_
            refine oN ?_
            refine cC ?_
            refine r_cond_true rfl ?_
            repeat (first | refine rS ?_ | refine cC ?_ | refine c_blk ?_ | refine r_block ?_ | refine r_skip ?_)
            refine r_held (id := 24) (blk q ⟨[.int .i64 kind, .int .i64 1, bv, .int .i64 n, kv], 61⟩ :: F) Mixed.h ?_
            refine h_give (i := 0) (by kernel_rfl) rfl (gM (evv rfl)) rfl rfl ?_
            refine h_give (i := 1) (by kernel_rfl) rfl (g_fld (evv rfl)) rfl rfl ?_
            refine h_give (i := 2) (by kernel_rfl) rfl (g_load (evv rfl) (by rfl) (by rfl)) rfl rfl ?_
            refine h_give (i := 3) (by kernel_rfl) rfl (gM (evv rfl)) rfl rfl ?_
            refine h_give (i := 4) (by kernel_rfl) rfl (g_fld (evv rfl)) rfl rfl ?_
            refine h_give (i := 5) (by kernel_rfl) rfl (g_load (evv rfl) (by rfl) (by rfl)) rfl rfl ?_
            refine h_give (i := 6) (by kernel_rfl) rfl (g_nil (evv rfl)) rfl rfl ?_
            refine h_give (i := 7) (by kernel_rfl) rfl (g_fld (evv rfl)) rfl rfl ?_
            refine h_give (i := 8) (by kernel_rfl) rfl (g_idxA (evv rfl) (evv rfl) (by omega) (by omega)) rfl rfl ?_
            refine h_give (i := 11) (by kernel_rfl) rfl (g_nil (evv rfl)) rfl rfl ?_
            refine h_give (i := 12) (by kernel_rfl) rfl (g_fld (evv rfl)) rfl rfl ?_
            refine h_one (i := 9) (by kernel_rfl) rfl (Lay.ent) ?_
            refine oG (g_load (evv rfl) (by rfl) (by rfl)) rfl rfl ?_
            refine oN ?_
            refine h_give (i := 10) (by kernel_rfl) rfl (g_lenS TyU.h (evv rfl)) rfl rfl ?_
            refine h_give (i := 13) (by kernel_rfl) rfl (g_idxA (evv rfl) (evv rfl) (by omega) (by omega)) rfl rfl ?_
            refine h_one (i := 14) (by kernel_rfl) rfl (Lay.ent) ?_
            refine o_store1 (evv rfl) (evv rfl) (by rfl) (by rfl) (by rfl) ?_
            refine oN ?_
            refine h_done (by kernel_rfl) (Lay.ent) ?_
            refine cC ?_
            refine rS ?_
            refine rS ?_
            refine rR (id := 25) ?_
            refine oG (gM (evv rfl)) rfl rfl ?_
            refine oG (g_bin (evv rfl) (evv rfl) (by rfl)) rfl rfl ?_
            refine oN ?_
            refine cC ?_
            refine r_cond_false rfl ?_
            refine r_skip ?_
            refine cC ?_
            refine rS ?_
            refine rS ?_
            refine rR (id := 28) ?_
            refine oG (gM (evv rfl)) rfl rfl ?_
            refine oG (g_bin (evv rfl) (evv rfl) (by rfl)) rfl rfl ?_
            refine oN ?_
            refine cC ?_
            refine r_cond_false rfl ?_
            refine r_skip ?_
            refine cC ?_
            refine rS ?_
            refine rR (id := 30) ?_
            refine oG (gA (evv rfl)) rfl rfl ?_
            refine oN ?_
            refine cC ?_
            first | refine r_ret (rs := [.tmp 4]) rfl rfl _ (Lay.ent (L' := blk r (rpB b0 b1 s0 b1.length lv (am - 1) (decide (am = 1))) :: F)) ?_ | refine c_end (rs := [.tmp 4]) rfl rfl _ (Lay.ent (L' := blk r (rpB b0 b1 s0 b1.length lv (am - 1) (decide (am = 1))) :: F)) ?_
            (refine ⟨?_, ?_⟩ <;> first | rfl | trivial | omega)
  · refine rR (id := 2) ?_
    refine oG (gM (evv rfl)) rfl rfl ?_
    refine oG (g_bin (evv rfl) (evv rfl) (by rfl)) rfl rfl ?_
    refine oN ?_
    refine cC ?_
    refine r_cond_false rfl ?_
    refine r_skip ?_
    refine cC ?_
    refine rS ?_
    refine rS ?_
    refine rR (id := 8) ?_
    refine oG (gM (evv rfl)) rfl rfl ?_
    refine oG (g_bin (evv rfl) (evv rfl) (by rfl)) rfl rfl ?_
    refine oN ?_
    refine cC ?_
    refine r_cond_false rfl ?_
    refine r_skip ?_
    refine cC ?_
    refine rS ?_
    refine rS ?_
    refine rR (id := 11) ?_
    refine oG (gM (evv rfl)) rfl rfl ?_
    refine oG (g_bin (evv rfl) (evv rfl) (by rfl)) rfl rfl ?_
    refine oG (gM (evv rfl)) rfl rfl ?_
    refine o_gyes rfl ?_
    refine oG (g_fld (evv rfl)) rfl rfl ?_
    refine o_gyes rfl ?_
    refine oG (g_load (evv rfl) (by rfl) (by rfl)) rfl rfl ?_
    refine o_gyes rfl ?_
    refine oG (g_bin (evv rfl) (evv rfl) (by rfl)) rfl rfl ?_
    refine o_gyes rfl ?_
    refine oG (gM (evv rfl)) rfl rfl ?_
    refine o_lazy rfl (fun hg => g_fld (evv rfl)) rfl rfl ?_
    refine o_lazy rfl (fun hg => g_load (evg rfl hg) (by rfl) (by rfl)) rfl rfl ?_
    refine o_lazy rfl (fun hg => g_bin (by first | exact evv rfl | exact evg rfl (by rw [hp]; rfl) | exact evg rfl hp | exact evg rfl hg | exact evg rfl (by first | (simp_all; done) | (simp [*]; done) | fail) | fail) (by first | exact evv rfl | exact evg rfl (by rw [hp]; rfl) | exact evg rfl hp | exact evg rfl hg | exact evg rfl (by first | (simp_all; done) | (simp [*]; done) | fail) | fail) (by rfl)) rfl rfl ?_
    refine o_gyes rfl ?_
    refine oG (g_pick_or (evv rfl) (evv rfl) (fun hp => (by first | exact evv rfl | exact evg rfl (by rw [hp]; rfl) | exact evg rfl hp | exact evg rfl hg | exact evg rfl (by first | (simp_all; done) | (simp [*]; done) | fail) | fail))) rfl rfl ?_
    refine oG (g_pick (b := true) (evv rfl) (fun _ => (evv rfl)) (fun h => by cases h)) rfl rfl ?_
    refine oN ?_
    refine cC ?_
    refine r_cond rfl (fun c1 => ?_) (fun c1 => ?_) <;> (try simp only [decide_eq_true_eq, decide_eq_false_iff_not, Bool.and_eq_true, Bool.or_eq_true, Bool.not_eq_true', Bool.and_eq_false_iff, Bool.or_eq_false_iff, Bool.not_eq_false', Bool.not_eq_true, Bool.not_eq_false, Bool.true_eq_false, Bool.false_eq_true, Int.not_lt, Int.not_le, not_and, not_or, ne_eq] at c1)
    · have hd : doT ⟨b0, s0, b1, s1, lv, am, dn⟩ ⟨kind, area, bv, b, n, kv, ks⟩ = (1, ⟨b0, s0, b1, s1, lv, am, dn⟩) := by
        rw [doT_2 hkc, wipT, chg_arg (by decide) (show area < 0 ∨ 1 < area by omega)]; rfl
      rw [hd]
      refine rS ?_
      refine rR (id := 12) ?_
      refine oG (gA (evv rfl)) rfl rfl ?_
      refine oN ?_
      refine cC ?_
      first | refine r_ret (rs := [.tmp 4]) rfl rfl _ (Ent.drop) ?_ | refine c_end (rs := [.tmp 4]) rfl rfl _ (Ent.drop) ?_
      (refine ⟨?_, ?_⟩ <;> first | rfl | trivial | omega)
    · have hA : area = 0 ∨ area = 1 := by omega
      clear c1
      refine r_skip ?_
      refine cC ?_
      refine rS ?_
      refine rS ?_
      refine rR (id := 13) ?_
      refine oG (gM (evv rfl)) rfl rfl ?_
      refine oG (g_nil (evv rfl)) rfl rfl ?_
      refine oG (g_fld (evv rfl)) rfl rfl ?_
      refine oG (g_load (evv rfl) (by rfl) (by rfl)) rfl rfl ?_
      refine oN ?_
      refine cC ?_
      refine r_cond rfl (fun c2 => ?_) (fun c2 => ?_) <;> (try simp only [decide_eq_true_eq, decide_eq_false_iff_not, Bool.and_eq_true, Bool.or_eq_true, Bool.not_eq_true', Bool.and_eq_false_iff, Bool.or_eq_false_iff, Bool.not_eq_false', Bool.not_eq_true, Bool.not_eq_false, Bool.true_eq_false, Bool.false_eq_true, Int.not_lt, Int.not_le, not_and, not_or, ne_eq] at c2)
      · subst c2
        have hd : doT ⟨b0, s0, b1, s1, lv, am, true⟩ ⟨kind, area, bv, b, n, kv, ks⟩ = (170, ⟨b0, s0, b1, s1, lv, am, true⟩) := by
          rw [doT_2 hkc, wipT, chg_down (show (2 : Int) = 3 ∨ area = 0 ∨ area = 1 by omega) rfl]; rfl
        rw [hd]
        refine rS ?_
        refine rR (id := 14) ?_
        refine oG (gA (evv rfl)) rfl rfl ?_
        refine oN ?_
        refine cC ?_
        first | refine r_ret (rs := [.tmp 4]) rfl rfl _ (Ent.drop) ?_ | refine c_end (rs := [.tmp 4]) rfl rfl _ (Ent.drop) ?_
        (refine ⟨?_, ?_⟩ <;> first | rfl | trivial | omega)
      · subst c2
        by_cases hL : area = (lv : Int)
        · have hd : doT ⟨b0, s0, b1, s1, lv, am, false⟩ ⟨kind, area, bv, b, n, kv, ks⟩ = (6, ⟨b0, s0, b1, s1, lv, am, false⟩) := by
            rw [doT_2 hkc, wipT, chg_wipe hA rfl hL]; rfl
          rw [hd]
          refine r_skip ?_
          refine cC ?_
          refine rS ?_
          refine rR (id := 15) ?_
          refine oG (gM (evv rfl)) rfl rfl ?_
          refine oG (g_nil (evv rfl)) rfl rfl ?_
          refine oG (g_fld (evv rfl)) rfl rfl ?_
          refine oG (g_load (evv rfl) (by rfl) (by rfl)) rfl rfl ?_
          refine o_giveN (g_bin (evv rfl) (evv rfl) (by rfl)) (by simp only [inR]; omega) rfl ?_
          refine oG (gA (evv rfl)) rfl rfl ?_
          refine oN ?_
          refine cC ?_
          refine rS ?_
          refine rS ?_
          refine r_quiet (id := 16) Mixed.h (by kernel_rfl) ?_
          refine q_give (gM (evv rfl)) rfl rfl ?_
          refine q_give (g_bin (evv rfl) (evv rfl) (by rfl)) rfl rfl ?_
          refine q_give (gM (evv rfl)) rfl rfl ?_
          refine q_sure rfl (g_fld (evv rfl)) rfl rfl ?_
          refine q_sure rfl (g_load (evv rfl) (by rfl) (by rfl)) rfl rfl ?_
          refine q_sure rfl (gM (evv rfl)) rfl rfl ?_
          refine q_sure rfl (g_nil (evv rfl)) rfl rfl ?_
          refine q_sure rfl (g_fld (evv rfl)) rfl rfl ?_
          refine q_sure rfl (g_load (evv rfl) (by rfl) (by rfl)) rfl rfl ?_
          refine q_sure rfl (g_bin (evv rfl) (evv rfl) (by rfl)) rfl rfl ?_
          refine q_give (g_pick (b := true) (evv rfl) (fun _ => (evv rfl)) (fun h => by cases h)) rfl rfl ?_
          refine q_give (gM (evv rfl)) rfl rfl ?_
          refine q_lazy rfl (fun hg => gM (by first | exact evv rfl | exact evg rfl (by rw [hp]; rfl) | exact evg rfl hp | exact evg rfl hg | exact evg rfl (by first | (simp_all; done) | (simp [*]; done) | fail) | fail)) rfl rfl ?_
          refine q_lazy rfl (fun hg => g_bin (by first | exact evv rfl | exact evg rfl (by rw [hp]; rfl) | exact evg rfl hp | exact evg rfl hg | exact evg rfl (by first | (simp_all; done) | (simp [*]; done) | fail) | fail) (by first | exact evv rfl | exact evg rfl (by rw [hp]; rfl) | exact evg rfl hp | exact evg rfl hg | exact evg rfl (by first | (simp_all; done) | (simp [*]; done) | fail) | fail) (by rfl)) rfl rfl ?_
          refine q_lazy rfl (fun hg => gM (by first | exact evv rfl | exact evg rfl (by rw [hp]; rfl) | exact evg rfl hp | exact evg rfl hg | exact evg rfl (by first | (simp_all; done) | (simp [*]; done) | fail) | fail)) rfl rfl ?_
          refine q_lazy rfl (fun hg => gM (by first | exact evv rfl | exact evg rfl (by rw [hp]; rfl) | exact evg rfl hp | exact evg rfl hg | exact evg rfl (by first | (simp_all; done) | (simp [*]; done) | fail) | fail)) rfl rfl ?_
          refine q_lazy rfl (fun hg => gM (by first | exact evv rfl | exact evg rfl (by rw [hp]; rfl) | exact evg rfl hp | exact evg rfl hg | exact evg rfl (by first | (simp_all; done) | (simp [*]; done) | fail) | fail)) rfl rfl ?_
          refine q_lazy rfl (fun hg => g_nil (by first | exact evv rfl | exact evg rfl (by rw [hp]; rfl) | exact evg rfl hp | exact evg rfl hg | exact evg rfl (by first | (simp_all; done) | (simp [*]; done) | fail) | fail)) rfl rfl ?_
          refine q_lazy rfl (fun hg => g_fld (evg rfl hg)) rfl rfl ?_
          refine q_lazy rfl (fun hg => g_idxA (evg rfl hg) (evg rfl hg) (by omega) (by omega)) rfl rfl ?_
          refine q_lazy (v0 := undef) rfl (fun hg => absurd hg (by first | (simp; done) | fail)) rfl rfl ?_
          refine q_lazy rfl (fun hg => gM (by first | exact evv rfl | exact evg rfl (by rw [hp]; rfl) | exact evg rfl hp | exact evg rfl hg | exact evg rfl (by first | (simp_all; done) | (simp [*]; done) | fail) | fail)) rfl rfl ?_
          refine q_lazy rfl (fun hg => gM (by first | exact evv rfl | exact evg rfl (by rw [hp]; rfl) | exact evg rfl hp | exact evg rfl hg | exact evg rfl (by first | (simp_all; done) | (simp [*]; done) | fail) | fail)) rfl rfl ?_
          refine q_lazy rfl (fun hg => g_nil (by first | exact evv rfl | exact evg rfl (by rw [hp]; rfl) | exact evg rfl hp | exact evg rfl hg | exact evg rfl (by first | (simp_all; done) | (simp [*]; done) | fail) | fail)) rfl rfl ?_
          refine q_lazy rfl (fun hg => g_fld (evg rfl hg)) rfl rfl ?_
          refine q_lazy rfl (fun hg => g_idxA (evg rfl hg) (evg rfl hg) (by omega) (by omega)) rfl rfl ?_
          refine q_lazy (v0 := undef) rfl (fun hg => absurd hg (by first | (simp; done) | fail)) rfl rfl ?_
          refine q_lazy (v0 := undef) rfl (fun hg => absurd hg (by first | (simp; done) | fail)) rfl rfl ?_
          refine q_lazy (v0 := undef) rfl (fun hg => absurd hg (by first | (simp; done) | fail)) rfl rfl ?_
          refine q_lazy rfl (fun hg => g_pick (b := false) (by first | exact evv rfl | exact evg rfl (by rw [hp]; rfl) | exact evg rfl hp | exact evg rfl hg | exact evg rfl (by first | (simp_all; done) | (simp [*]; done) | fail) | fail) (fun h => by cases h) (fun _ => (by first | exact evv rfl | exact evg rfl (by rw [hp]; rfl) | exact evg rfl hp | exact evg rfl hg | exact evg rfl (by first | (simp_all; done) | (simp [*]; done) | fail) | fail))) rfl rfl ?_
          refine q_give (g_pick_or (evv rfl) (evv rfl) (fun hp => (by first | exact evv rfl | exact evg rfl (by rw [hp]; rfl) | exact evg rfl hp | exact evg rfl hg | exact evg rfl (by first | (simp_all; done) | (simp [*]; done) | fail) | fail))) rfl rfl ?_
          refine q_nil ?_
          refine cC ?_
          refine r_cond rfl (fun c3 => ?_) (fun c3 => ?_) <;> (try simp only [decide_eq_true_eq, decide_eq_false_iff_not, Bool.and_eq_true, Bool.or_eq_true, Bool.not_eq_true', Bool.and_eq_false_iff, Bool.or_eq_false_iff, Bool.not_eq_false', Bool.not_eq_true, Bool.not_eq_false, Bool.true_eq_false, Bool.false_eq_true, Int.not_lt, Int.not_le, not_and, not_or, ne_eq] at c3)
          · refine rS ?_
            refine rR (id := 17) ?_
            refine oG (gA (evv rfl)) rfl rfl ?_
            refine oN ?_
            refine cC ?_
            first | refine r_ret (rs := [.tmp 4]) rfl rfl _ (Ent.drop) ?_ | refine c_end (rs := [.tmp 4]) rfl rfl _ (Ent.drop) ?_
            (refine ⟨?_, ?_⟩ <;> first | rfl | trivial | omega)
          · exact absurd hL c3.1
        · have hd : doT ⟨b0, s0, b1, s1, lv, am, false⟩ ⟨kind, area, bv, b, n, kv, ks⟩ = (if am = 1 then 170 else 0, if (if am = 1 then (170 : Int) else 0) = 0 then ((tick ⟨b0, s0, b1, s1, lv, am, false⟩).setB area []).setS area 0 else tick ⟨b0, s0, b1, s1, lv, am, false⟩) := by
            rw [doT_2 hkc, wipT, chg_go (show (2 : Int) = 3 ∨ area = 0 ∨ area = 1 by omega) rfl (fun hh => hL hh.2) (by omega)]
          rw [hd]
          refine r_skip ?_
          refine cC ?_
          refine rS ?_
          refine rR (id := 15) ?_
          refine oG (gM (evv rfl)) rfl rfl ?_
          refine oG (g_nil (evv rfl)) rfl rfl ?_
          refine oG (g_fld (evv rfl)) rfl rfl ?_
          refine oG (g_load (evv rfl) (by rfl) (by rfl)) rfl rfl ?_
          refine o_giveN (g_bin (evv rfl) (evv rfl) (by rfl)) (by simp only [inR]; omega) rfl ?_
          refine oG (gA (evv rfl)) rfl rfl ?_
          refine oN ?_
          refine cC ?_
          refine rS ?_
          refine rS ?_
          refine r_quiet (id := 16) Mixed.h (by kernel_rfl) ?_
          refine q_give (gM (evv rfl)) rfl rfl ?_
          refine q_give (g_bin (evv rfl) (evv rfl) (by rfl)) rfl rfl ?_
          refine q_give (gM (evv rfl)) rfl rfl ?_
          refine q_sure rfl (g_fld (evv rfl)) rfl rfl ?_
          refine q_sure rfl (g_load (evv rfl) (by rfl) (by rfl)) rfl rfl ?_
          refine q_sure rfl (gM (evv rfl)) rfl rfl ?_
          refine q_sure rfl (g_nil (evv rfl)) rfl rfl ?_
          refine q_sure rfl (g_fld (evv rfl)) rfl rfl ?_
          refine q_sure rfl (g_load (evv rfl) (by rfl) (by rfl)) rfl rfl ?_
          refine q_sure rfl (g_bin (evv rfl) (evv rfl) (by rfl)) rfl rfl ?_
          refine q_give (g_pick (b := true) (evv rfl) (fun _ => (evv rfl)) (fun h => by cases h)) rfl rfl ?_
          refine q_give (gM (evv rfl)) rfl rfl ?_
          refine q_lazy rfl (fun hg => gM (by first | exact evv rfl | exact evg rfl (by rw [hp]; rfl) | exact evg rfl hp | exact evg rfl hg | exact evg rfl (by first | (simp_all; done) | (simp [*]; done) | fail) | fail)) rfl rfl ?_
          refine q_lazy rfl (fun hg => g_bin (by first | exact evv rfl | exact evg rfl (by rw [hp]; rfl) | exact evg rfl hp | exact evg rfl hg | exact evg rfl (by first | (simp_all; done) | (simp [*]; done) | fail) | fail) (by first | exact evv rfl | exact evg rfl (by rw [hp]; rfl) | exact evg rfl hp | exact evg rfl hg | exact evg rfl (by first | (simp_all; done) | (simp [*]; done) | fail) | fail) (by rfl)) rfl rfl ?_
          refine q_lazy rfl (fun hg => gM (by first | exact evv rfl | exact evg rfl (by rw [hp]; rfl) | exact evg rfl hp | exact evg rfl hg | exact evg rfl (by first | (simp_all; done) | (simp [*]; done) | fail) | fail)) rfl rfl ?_
          refine q_lazy rfl (fun hg => gM (by first | exact evv rfl | exact evg rfl (by rw [hp]; rfl) | exact evg rfl hp | exact evg rfl hg | exact evg rfl (by first | (simp_all; done) | (simp [*]; done) | fail) | fail)) rfl rfl ?_
          refine q_lazy rfl (fun hg => gM (by first | exact evv rfl | exact evg rfl (by rw [hp]; rfl) | exact evg rfl hp | exact evg rfl hg | exact evg rfl (by first | (simp_all; done) | (simp [*]; done) | fail) | fail)) rfl rfl ?_
          refine q_lazy rfl (fun hg => g_nil (by first | exact evv rfl | exact evg rfl (by rw [hp]; rfl) | exact evg rfl hp | exact evg rfl hg | exact evg rfl (by first | (simp_all; done) | (simp [*]; done) | fail) | fail)) rfl rfl ?_
          refine q_lazy rfl (fun hg => g_fld (evg rfl hg)) rfl rfl ?_
          refine q_lazy rfl (fun hg => g_idxA (evg rfl hg) (evg rfl hg) (by omega) (by omega)) rfl rfl ?_
          refine q_lazy (v0 := undef) rfl (fun hg => absurd hg (by first | (simp; done) | fail)) rfl rfl ?_
          refine q_lazy rfl (fun hg => gM (by first | exact evv rfl | exact evg rfl (by rw [hp]; rfl) | exact evg rfl hp | exact evg rfl hg | exact evg rfl (by first | (simp_all; done) | (simp [*]; done) | fail) | fail)) rfl rfl ?_
          refine q_lazy rfl (fun hg => gM (by first | exact evv rfl | exact evg rfl (by rw [hp]; rfl) | exact evg rfl hp | exact evg rfl hg | exact evg rfl (by first | (simp_all; done) | (simp [*]; done) | fail) | fail)) rfl rfl ?_
          refine q_lazy rfl (fun hg => g_nil (by first | exact evv rfl | exact evg rfl (by rw [hp]; rfl) | exact evg rfl hp | exact evg rfl hg | exact evg rfl (by first | (simp_all; done) | (simp [*]; done) | fail) | fail)) rfl rfl ?_
          refine q_lazy rfl (fun hg => g_fld (evg rfl hg)) rfl rfl ?_
          refine q_lazy rfl (fun hg => g_idxA (evg rfl hg) (evg rfl hg) (by omega) (by omega)) rfl rfl ?_
          refine q_lazy (v0 := undef) rfl (fun hg => absurd hg (by first | (simp; done) | fail)) rfl rfl ?_
          refine q_lazy (v0 := undef) rfl (fun hg => absurd hg (by first | (simp; done) | fail)) rfl rfl ?_
          refine q_lazy (v0 := undef) rfl (fun hg => absurd hg (by first | (simp; done) | fail)) rfl rfl ?_
          refine q_lazy rfl (fun hg => g_pick (b := false) (by first | exact evv rfl | exact evg rfl (by rw [hp]; rfl) | exact evg rfl hp | exact evg rfl hg | exact evg rfl (by first | (simp_all; done) | (simp [*]; done) | fail) | fail) (fun h => by cases h) (fun _ => (by first | exact evv rfl | exact evg rfl (by rw [hp]; rfl) | exact evg rfl hp | exact evg rfl hg | exact evg rfl (by first | (simp_all; done) | (simp [*]; done) | fail) | fail))) rfl rfl ?_
          refine q_give (g_pick_or (evv rfl) (evv rfl) (fun hp => (by first | exact evv rfl | exact evg rfl (by rw [hp]; rfl) | exact evg rfl hp | exact evg rfl hg | exact evg rfl (by first | (simp_all; done) | (simp [*]; done) | fail) | fail))) rfl rfl ?_
          refine q_nil ?_
          refine cC ?_
          refine r_cond rfl (fun c3 => ?_) (fun c3 => ?_) <;> (try simp only [decide_eq_true_eq, decide_eq_false_iff_not, Bool.and_eq_true, Bool.or_eq_true, Bool.not_eq_true', Bool.and_eq_false_iff, Bool.or_eq_false_iff, Bool.not_eq_false', Bool.not_eq_true, Bool.not_eq_false, Bool.true_eq_false, Bool.false_eq_true, Int.not_lt, Int.not_le, not_and, not_or, ne_eq] at c3)
          · exact absurd (c3.resolve_right fun h => h) hL
          · clear c3
            rcases hA with rfl | rfl
            · refine r_skip ?_
              refine cC ?_
              refine rS ?_
              refine rR (id := 18) ?_
              refine oG (gM (evv rfl)) rfl rfl ?_
              (refine o_call rfl _ (PickR.ent (K := blk _)) (goes_b _ _ _ _ _ _ _ _ (by assumption)) rfl ?_; rintro _ _ ⟨rfl, rfl⟩)
              refine oG (gA (evv rfl)) rfl rfl ?_
              refine oN ?_
              refine cC ?_
              refine rS ?_
              refine rS ?_
              refine rR (id := 19) ?_
              refine oG (gM (evv rfl)) rfl rfl ?_
              refine oG (g_bin (evv rfl) (evv rfl) (by rfl)) rfl rfl ?_
              refine oN ?_
              refine cC ?_
              refine r_cond_false rfl ?_
              refine r_skip ?_
              refine cC ?_
              refine rS ?_
              refine rS ?_
              refine rR (id := 21) ?_
              refine oG (gM (evv rfl)) rfl rfl ?_
              refine oN ?_
              refine cC ?_
              refine r_cond rfl (fun c5 => ?_) (fun c5 => ?_) <;> (try simp only [decide_eq_true_eq, decide_eq_false_iff_not, Bool.and_eq_true, Bool.or_eq_true, Bool.not_eq_true', Bool.and_eq_false_iff, Bool.or_eq_false_iff, Bool.not_eq_false', Bool.not_eq_true, Bool.not_eq_false, Bool.true_eq_false, Bool.false_eq_true, Int.not_lt, Int.not_le, not_and, not_or, ne_eq] at c5)
              · simp only [if_pos c5]
                rw [if_neg (by decide)]
                refine rS ?_
                refine rR (id := 22) ?_
                refine oG (gA (evv rfl)) rfl rfl ?_
                refine oN ?_
                refine cC ?_
                first | refine r_ret (rs := [.tmp 4]) rfl rfl _ (Lay.ent (L' := blk r (rpB b0 b1 s0 s1 lv (am - 1) (decide (am = 1))) :: F)) ?_ | refine c_end (rs := [.tmp 4]) rfl rfl _ (Lay.ent (L' := blk r (rpB b0 b1 s0 s1 lv (am - 1) (decide (am = 1))) :: F)) ?_
                (refine ⟨?_, ?_⟩ <;> first | rfl | trivial | omega)
              · simp only [if_neg c5]
                rw [if_pos trivial]
                refine r_skip ?_
                refine cC ?_
                refine rS ?_
                refine rS ?_
                refine rR (id := 23) ?_
                refine oG (gM (evv rfl)) rfl rfl ?_
                refine oG (g_bin (evv rfl) (evv rfl) (by rfl)) rfl rfl ?_
                refine oN ?_
                refine cC ?_
                refine r_cond_false rfl ?_
                refine r_skip ?_
                refine cC ?_
                refine rS ?_
                refine rS ?_
                refine rR (id := 25) ?_
                refine oG (gM (evv rfl)) rfl rfl ?_
                refine oG (g_bin (evv rfl) (evv rfl) (by rfl)) rfl rfl ?_
                refine oN ?_
                refine cC ?_
                refine r_cond_true rfl ?_
                refine rS ?_
                refine r_draw (id := 26) Mixed.h ?_
                refine d_take (i := 0) (by kernel_rfl) rfl (fun W0 => gM (evv rfl)) rfl ?_
                refine d_take (i := 1) (by kernel_rfl) rfl (fun W0 => g_fld (evv rfl)) rfl ?_
                refine d_take (i := 3) (by kernel_rfl) rfl (fun W0 => g_nil (evv rfl)) rfl ?_
                refine d_take (i := 4) (by kernel_rfl) rfl (fun W0 => g_fld (evv rfl)) rfl ?_
                refine d_one (i := 2) (by kernel_rfl) rfl ?_
                refine oG (g_load (evv rfl) (by rfl) (by rfl)) rfl rfl ?_
                refine oN ?_
                refine d_take (i := 5) (by kernel_rfl) rfl (fun W0 => g_idxA (evv rfl) (evv rfl) (by omega) (by omega)) rfl ?_
                refine d_one (i := 6) (by kernel_rfl) rfl ?_
                refine o_store1 (evv rfl) (evv rfl) (by rfl) (by rfl) (by rfl) ?_
                refine oN ?_
                refine d_done (by kernel_rfl) ?_
                refine cC ?_
                refine r_draw (id := 27) Mixed.h ?_
                refine d_take (i := 0) (by kernel_rfl) rfl (fun W0 => gM (evv rfl)) rfl ?_
                refine d_take (i := 1) (by kernel_rfl) rfl (fun W0 => g_fld (evv rfl)) rfl ?_
                refine d_take (i := 3) (by kernel_rfl) rfl (fun W0 => g_nil (evv rfl)) rfl ?_
                refine d_take (i := 4) (by kernel_rfl) rfl (fun W0 => g_fld (evv rfl)) rfl ?_
                refine d_one (i := 2) (by kernel_rfl) rfl ?_
                refine oG (g_load (evv rfl) (by rfl) (by rfl)) rfl rfl ?_
                refine oN ?_
                refine d_take (i := 5) (by kernel_rfl) rfl (fun W0 => g_idxA (evv rfl) (evv rfl) (by omega) (by omega)) rfl ?_
                refine d_one (i := 6) (by kernel_rfl) rfl ?_
                refine o_store1 (evv rfl) (evv rfl) (by rfl) (by rfl) (by rfl) ?_
                refine oN ?_
                refine d_done (by kernel_rfl) ?_
                refine cC ?_
                refine rS ?_
                refine rS ?_
                refine rR (id := 28) ?_
                refine oG (gM (evv rfl)) rfl rfl ?_
                refine oG (g_bin (evv rfl) (evv rfl) (by rfl)) rfl rfl ?_
                refine oN ?_
                refine cC ?_
                refine r_cond_false rfl ?_
                refine r_skip ?_
                refine cC ?_
                refine rS ?_
                refine rR (id := 30) ?_
                refine oG (gA (evv rfl)) rfl rfl ?_
                refine oN ?_
                refine cC ?_
                first | refine r_ret (rs := [.tmp 4]) rfl rfl _ ((Lay.ent (L' := blk r ⟨[.string ⟨#[]⟩, str b1, .int .i64 0, .int .i64 (s1 : Int), .int .i64 (lv : Int), .int .i64 ((am - 1 : Nat) : Int), .bool (decide (am = 1))], 57⟩ :: F))) ?_ | refine c_end (rs := [.tmp 4]) rfl rfl _ ((Lay.ent (L' := blk r ⟨[.string ⟨#[]⟩, str b1, .int .i64 0, .int .i64 (s1 : Int), .int .i64 (lv : Int), .int .i64 ((am - 1 : Nat) : Int), .bool (decide (am = 1))], 57⟩ :: F))) ?_
                (refine ⟨?_, ?_⟩ <;> first | rfl | trivial | omega)
            · refine r_skip ?_
              refine cC ?_
              refine rS ?_
              refine rR (id := 18) ?_
              refine oG (gM (evv rfl)) rfl rfl ?_
              (refine o_call rfl _ (PickR.ent (K := blk _)) (goes_b _ _ _ _ _ _ _ _ (by assumption)) rfl ?_; rintro _ _ ⟨rfl, rfl⟩)
              refine oG (gA (evv rfl)) rfl rfl ?_
              refine oN ?_
              refine cC ?_
              refine rS ?_
              refine rS ?_
              refine rR (id := 19) ?_
              refine oG (gM (evv rfl)) rfl rfl ?_
              refine oG (g_bin (evv rfl) (evv rfl) (by rfl)) rfl rfl ?_
              refine oN ?_
              refine cC ?_
              refine r_cond_false rfl ?_
              refine r_skip ?_
              refine cC ?_
              refine rS ?_
              refine rS ?_
              refine rR (id := 21) ?_
              refine oG (gM (evv rfl)) rfl rfl ?_
              refine oN ?_
              refine cC ?_
              refine r_cond rfl (fun c5 => ?_) (fun c5 => ?_) <;> (try simp only [decide_eq_true_eq, decide_eq_false_iff_not, Bool.and_eq_true, Bool.or_eq_true, Bool.not_eq_true', Bool.and_eq_false_iff, Bool.or_eq_false_iff, Bool.not_eq_false', Bool.not_eq_true, Bool.not_eq_false, Bool.true_eq_false, Bool.false_eq_true, Int.not_lt, Int.not_le, not_and, not_or, ne_eq] at c5)
              · simp only [if_pos c5]
                rw [if_neg (by decide)]
                refine rS ?_
                refine rR (id := 22) ?_
                refine oG (gA (evv rfl)) rfl rfl ?_
                refine oN ?_
                refine cC ?_
                first | refine r_ret (rs := [.tmp 4]) rfl rfl _ (Lay.ent (L' := blk r (rpB b0 b1 s0 s1 lv (am - 1) (decide (am = 1))) :: F)) ?_ | refine c_end (rs := [.tmp 4]) rfl rfl _ (Lay.ent (L' := blk r (rpB b0 b1 s0 s1 lv (am - 1) (decide (am = 1))) :: F)) ?_
                (refine ⟨?_, ?_⟩ <;> first | rfl | trivial | omega)
              · simp only [if_neg c5]
                rw [if_pos trivial]
                refine r_skip ?_
                refine cC ?_
                refine rS ?_
                refine rS ?_
                refine rR (id := 23) ?_
                refine oG (gM (evv rfl)) rfl rfl ?_
                refine oG (g_bin (evv rfl) (evv rfl) (by rfl)) rfl rfl ?_
                refine oN ?_
                refine cC ?_
                refine r_cond_false rfl ?_
                refine r_skip ?_
                refine cC ?_
                refine rS ?_
                refine rS ?_
                refine rR (id := 25) ?_
                refine oG (gM (evv rfl)) rfl rfl ?_
                refine oG (g_bin (evv rfl) (evv rfl) (by rfl)) rfl rfl ?_
                refine oN ?_
                refine cC ?_
                refine r_cond_true rfl ?_
                refine rS ?_
                refine r_draw (id := 26) Mixed.h ?_
                refine d_take (i := 0) (by kernel_rfl) rfl (fun W0 => gM (evv rfl)) rfl ?_
                refine d_take (i := 1) (by kernel_rfl) rfl (fun W0 => g_fld (evv rfl)) rfl ?_
                refine d_take (i := 3) (by kernel_rfl) rfl (fun W0 => g_nil (evv rfl)) rfl ?_
                refine d_take (i := 4) (by kernel_rfl) rfl (fun W0 => g_fld (evv rfl)) rfl ?_
                refine d_one (i := 2) (by kernel_rfl) rfl ?_
                refine oG (g_load (evv rfl) (by rfl) (by rfl)) rfl rfl ?_
                refine oN ?_
                refine d_take (i := 5) (by kernel_rfl) rfl (fun W0 => g_idxA (evv rfl) (evv rfl) (by omega) (by omega)) rfl ?_
                refine d_one (i := 6) (by kernel_rfl) rfl ?_
                refine o_store1 (evv rfl) (evv rfl) (by rfl) (by rfl) (by rfl) ?_
                refine oN ?_
                refine d_done (by kernel_rfl) ?_
                refine cC ?_
                refine r_draw (id := 27) Mixed.h ?_
                refine d_take (i := 0) (by kernel_rfl) rfl (fun W0 => gM (evv rfl)) rfl ?_
                refine d_take (i := 1) (by kernel_rfl) rfl (fun W0 => g_fld (evv rfl)) rfl ?_
                refine d_take (i := 3) (by kernel_rfl) rfl (fun W0 => g_nil (evv rfl)) rfl ?_
                refine d_take (i := 4) (by kernel_rfl) rfl (fun W0 => g_fld (evv rfl)) rfl ?_
                refine d_one (i := 2) (by kernel_rfl) rfl ?_
                refine oG (g_load (evv rfl) (by rfl) (by rfl)) rfl rfl ?_
                refine oN ?_
                refine d_take (i := 5) (by kernel_rfl) rfl (fun W0 => g_idxA (evv rfl) (evv rfl) (by omega) (by omega)) rfl ?_
                refine d_one (i := 6) (by kernel_rfl) rfl ?_
                refine o_store1 (evv rfl) (evv rfl) (by rfl) (by rfl) (by rfl) ?_
                refine oN ?_
                refine d_done (by kernel_rfl) ?_
                refine cC ?_
                refine rS ?_
                refine rS ?_
                refine rR (id := 28) ?_
                refine oG (gM (evv rfl)) rfl rfl ?_
                refine oG (g_bin (evv rfl) (evv rfl) (by rfl)) rfl rfl ?_
                refine oN ?_
                refine cC ?_
                refine r_cond_false rfl ?_
                refine r_skip ?_
                refine cC ?_
                refine rS ?_
                refine rR (id := 30) ?_
                refine oG (gA (evv rfl)) rfl rfl ?_
                refine oN ?_
                refine cC ?_
                first | refine r_ret (rs := [.tmp 4]) rfl rfl _ ((Lay.ent (L' := blk r ⟨[str b0, .string ⟨#[]⟩, .int .i64 (s0 : Int), .int .i64 0, .int .i64 (lv : Int), .int .i64 ((am - 1 : Nat) : Int), .bool (decide (am = 1))], 57⟩ :: F))) ?_ | refine c_end (rs := [.tmp 4]) rfl rfl _ ((Lay.ent (L' := blk r ⟨[str b0, .string ⟨#[]⟩, .int .i64 (s0 : Int), .int .i64 0, .int .i64 (lv : Int), .int .i64 ((am - 1 : Nat) : Int), .bool (decide (am = 1))], 57⟩ :: F))) ?_
                (refine ⟨?_, ?_⟩ <;> first | rfl | trivial | omega)
  · refine rR (id := 2) ?_
    refine oG (gM (evv rfl)) rfl rfl ?_
    refine oG (g_bin (evv rfl) (evv rfl) (by rfl)) rfl rfl ?_
    refine oN ?_
    refine cC ?_
    refine r_cond_false rfl ?_
    refine r_skip ?_
    refine cC ?_
    refine rS ?_
    refine rS ?_
    refine rR (id := 8) ?_
    refine oG (gM (evv rfl)) rfl rfl ?_
    refine oG (g_bin (evv rfl) (evv rfl) (by rfl)) rfl rfl ?_
    refine oN ?_
    refine cC ?_
    refine r_cond_false rfl ?_
    refine r_skip ?_
    refine cC ?_
    refine rS ?_
    refine rS ?_
    refine rR (id := 11) ?_
    refine oG (gM (evv rfl)) rfl rfl ?_
    refine oG (g_bin (evv rfl) (evv rfl) (by rfl)) rfl rfl ?_
    refine oG (gM (evv rfl)) rfl rfl ?_
    refine o_lazy rfl (fun hg => g_fld (evv rfl)) rfl rfl ?_
    refine o_lazy rfl (fun hg => g_load (evg rfl hg) (by rfl) (by rfl)) rfl rfl ?_
    refine o_lazy rfl (fun hg => g_bin (by first | exact evv rfl | exact evg rfl (by rw [hp]; rfl) | exact evg rfl hp | exact evg rfl hg | exact evg rfl (by first | (simp_all; done) | (simp [*]; done) | fail) | fail) (by first | exact evv rfl | exact evg rfl (by rw [hp]; rfl) | exact evg rfl hp | exact evg rfl hg | exact evg rfl (by first | (simp_all; done) | (simp [*]; done) | fail) | fail) (by rfl)) rfl rfl ?_
    refine o_lazy rfl (fun hg => gM (by first | exact evv rfl | exact evg rfl (by rw [hp]; rfl) | exact evg rfl hp | exact evg rfl hg | exact evg rfl (by first | (simp_all; done) | (simp [*]; done) | fail) | fail)) rfl rfl ?_
    refine o_lazy rfl (fun hg => g_fld (evv rfl)) rfl rfl ?_
    refine o_lazy rfl (fun hg => g_load (evg rfl hg) (by rfl) (by rfl)) rfl rfl ?_
    refine o_lazy rfl (fun hg => g_bin (by first | exact evv rfl | exact evg rfl (by rw [hp]; rfl) | exact evg rfl hp | exact evg rfl hg | exact evg rfl (by first | (simp_all; done) | (simp [*]; done) | fail) | fail) (by first | exact evv rfl | exact evg rfl (by rw [hp]; rfl) | exact evg rfl hp | exact evg rfl hg | exact evg rfl (by first | (simp_all; done) | (simp [*]; done) | fail) | fail) (by rfl)) rfl rfl ?_
    refine o_lazy rfl (fun hg => g_pick_or (by first | exact evv rfl | exact evg rfl (by rw [hp]; rfl) | exact evg rfl hp | exact evg rfl hg | exact evg rfl (by first | (simp_all; done) | (simp [*]; done) | fail) | fail) (by first | exact evv rfl | exact evg rfl (by rw [hp]; rfl) | exact evg rfl hp | exact evg rfl hg | exact evg rfl (by first | (simp_all; done) | (simp [*]; done) | fail) | fail) (fun hp => (by first | exact evv rfl | exact evg rfl (by rw [hp]; rfl) | exact evg rfl hp | exact evg rfl hg | exact evg rfl (by first | (simp_all; done) | (simp [*]; done) | fail) | fail))) rfl rfl ?_
    refine oG (g_pick (b := false) (evv rfl) (fun h => by cases h) (fun _ => (evv rfl))) rfl rfl ?_
    refine oN ?_
    refine cC ?_
    refine r_cond_false rfl ?_
    refine r_skip ?_
    refine cC ?_
    refine rS ?_
    refine rS ?_
    refine rR (id := 13) ?_
    refine oG (gM (evv rfl)) rfl rfl ?_
    refine oG (g_nil (evv rfl)) rfl rfl ?_
    refine oG (g_fld (evv rfl)) rfl rfl ?_
    refine oG (g_load (evv rfl) (by rfl) (by rfl)) rfl rfl ?_
    refine oN ?_
    refine cC ?_
    refine r_cond rfl (fun c2 => ?_) (fun c2 => ?_) <;> (try simp only [decide_eq_true_eq, decide_eq_false_iff_not, Bool.and_eq_true, Bool.or_eq_true, Bool.not_eq_true', Bool.and_eq_false_iff, Bool.or_eq_false_iff, Bool.not_eq_false', Bool.not_eq_true, Bool.not_eq_false, Bool.true_eq_false, Bool.false_eq_true, Int.not_lt, Int.not_le, not_and, not_or, ne_eq] at c2)
    · subst c2
      have hd : doT ⟨b0, s0, b1, s1, lv, am, true⟩ ⟨kind, area, bv, b, n, kv, ks⟩ = (170, ⟨b0, s0, b1, s1, lv, am, true⟩) := by
        rw [doT_3 hkc, flpT, chg_down (.inl rfl) rfl]; rfl
      rw [hd]
      refine rS ?_
      refine rR (id := 14) ?_
      refine oG (gA (evv rfl)) rfl rfl ?_
      refine oN ?_
      refine cC ?_
      first | refine r_ret (rs := [.tmp 4]) rfl rfl _ (Ent.drop) ?_ | refine c_end (rs := [.tmp 4]) rfl rfl _ (Ent.drop) ?_
      (refine ⟨?_, ?_⟩ <;> first | rfl | trivial | omega)
    · subst c2
      by_cases hS : (⟨b0, s0, b1, s1, lv, am, false⟩ : Pt).s (1 - lv) < ((⟨b0, s0, b1, s1, lv, am, false⟩ : Pt).b (1 - lv)).length
      · have hd : doT ⟨b0, s0, b1, s1, lv, am, false⟩ ⟨kind, area, bv, b, n, kv, ks⟩ = (6, ⟨b0, s0, b1, s1, lv, am, false⟩) := by
          rw [doT_3 hkc, flpT, chg_flip rfl hS]; rfl
        rw [hd]
        rcases hl with rfl | rfl <;> simp [Pt.s, Pt.b] at hS
        · refine r_skip ?_
          refine cC ?_
          refine rS ?_
          refine rR (id := 15) ?_
          refine oG (gM (evv rfl)) rfl rfl ?_
          refine oG (g_nil (evv rfl)) rfl rfl ?_
          refine oG (g_fld (evv rfl)) rfl rfl ?_
          refine oG (g_load (evv rfl) (by rfl) (by rfl)) rfl rfl ?_
          refine o_giveN (g_bin (evv rfl) (evv rfl) (by rfl)) (by simp only [inR]; omega) rfl ?_
          refine oG (gA (evv rfl)) rfl rfl ?_
          refine oN ?_
          refine cC ?_
          refine rS ?_
          refine rS ?_
          refine r_quiet (id := 16) Mixed.h (by kernel_rfl) ?_
          refine q_give (gM (evv rfl)) rfl rfl ?_
          refine q_give (g_bin (evv rfl) (evv rfl) (by rfl)) rfl rfl ?_
          refine q_give (gM (evv rfl)) rfl rfl ?_
          refine q_lazy rfl (fun hg => g_fld (evv rfl)) rfl rfl ?_
          refine q_lazy rfl (fun hg => g_load (evg rfl hg) (by rfl) (by rfl)) rfl rfl ?_
          refine q_lazy rfl (fun hg => gM (by first | exact evv rfl | exact evg rfl (by rw [hp]; rfl) | exact evg rfl hp | exact evg rfl hg | exact evg rfl (by first | (simp_all; done) | (simp [*]; done) | fail) | fail)) rfl rfl ?_
          refine q_lazy rfl (fun hg => g_nil (by first | exact evv rfl | exact evg rfl (by rw [hp]; rfl) | exact evg rfl hp | exact evg rfl hg | exact evg rfl (by first | (simp_all; done) | (simp [*]; done) | fail) | fail)) rfl rfl ?_
          refine q_lazy rfl (fun hg => g_fld (evg rfl hg)) rfl rfl ?_
          refine q_lazy rfl (fun hg => g_load (evg rfl hg) (by rfl) (by rfl)) rfl rfl ?_
          refine q_lazy rfl (fun hg => g_bin (by first | exact evv rfl | exact evg rfl (by rw [hp]; rfl) | exact evg rfl hp | exact evg rfl hg | exact evg rfl (by first | (simp_all; done) | (simp [*]; done) | fail) | fail) (by first | exact evv rfl | exact evg rfl (by rw [hp]; rfl) | exact evg rfl hp | exact evg rfl hg | exact evg rfl (by first | (simp_all; done) | (simp [*]; done) | fail) | fail) (by rfl)) rfl rfl ?_
          refine q_give (g_pick (b := false) (evv rfl) (fun h => by cases h) (fun _ => (evv rfl))) rfl rfl ?_
          refine q_give (gM (evv rfl)) rfl rfl ?_
          refine q_sure rfl (gM (evv rfl)) rfl rfl ?_
          refine q_sure rfl (g_bin (evv rfl) (evv rfl) (by rfl)) rfl rfl ?_
          refine q_sure rfl (gM (evv rfl)) rfl rfl ?_
          refine q_sure rfl (gM (evv rfl)) rfl rfl ?_
          refine q_sure rfl (gM (evv rfl)) rfl rfl ?_
          refine q_sure rfl (g_nil (evv rfl)) rfl rfl ?_
          refine q_sure rfl (g_fld (evv rfl)) rfl rfl ?_
          refine q_sure rfl (g_idxA (evv rfl) (evv rfl) (by omega) (by omega)) rfl rfl ?_
          refine q_sure rfl (g_load (evv rfl) (by rfl) (by rfl)) rfl rfl ?_
          refine q_sure rfl (gM (evv rfl)) rfl rfl ?_
          refine q_sure rfl (gM (evv rfl)) rfl rfl ?_
          refine q_sure rfl (g_nil (evv rfl)) rfl rfl ?_
          refine q_sure rfl (g_fld (evv rfl)) rfl rfl ?_
          refine q_sure rfl (g_idxA (evv rfl) (evv rfl) (by omega) (by omega)) rfl rfl ?_
          refine q_sure rfl (g_load (evv rfl) (by rfl) (by rfl)) rfl rfl ?_
          refine q_sure rfl (g_lenS TyU.h (evv rfl)) rfl rfl ?_
          refine q_sure rfl (g_bin (evv rfl) (evv rfl) (by rfl)) rfl rfl ?_
          refine q_sure rfl (g_pick (b := true) (evv rfl) (fun _ => (evv rfl)) (fun h => by cases h)) rfl rfl ?_
          refine q_give (g_pick (b := false) (evv rfl) (fun h => by cases h) (fun _ => (evv rfl))) rfl rfl ?_
          refine q_nil ?_
          refine cC ?_
          refine r_cond rfl (fun c3 => ?_) (fun c3 => ?_) <;> (try simp only [decide_eq_true_eq, decide_eq_false_iff_not, Bool.and_eq_true, Bool.or_eq_true, Bool.not_eq_true', Bool.and_eq_false_iff, Bool.or_eq_false_iff, Bool.not_eq_false', Bool.not_eq_true, Bool.not_eq_false, Bool.true_eq_false, Bool.false_eq_true, Int.not_lt, Int.not_le, not_and, not_or, ne_eq] at c3)
          · refine rS ?_
            refine rR (id := 17) ?_
            refine oG (gA (evv rfl)) rfl rfl ?_
            refine oN ?_
            refine cC ?_
            first | refine r_ret (rs := [.tmp 4]) rfl rfl _ (Ent.drop) ?_ | refine c_end (rs := [.tmp 4]) rfl rfl _ (Ent.drop) ?_
            (refine ⟨?_, ?_⟩ <;> first | rfl | trivial | omega)
          · exfalso; omega
        · refine r_skip ?_
          refine cC ?_
          refine rS ?_
          refine rR (id := 15) ?_
          refine oG (gM (evv rfl)) rfl rfl ?_
          refine oG (g_nil (evv rfl)) rfl rfl ?_
          refine oG (g_fld (evv rfl)) rfl rfl ?_
          refine oG (g_load (evv rfl) (by rfl) (by rfl)) rfl rfl ?_
          refine o_giveN (g_bin (evv rfl) (evv rfl) (by rfl)) (by simp only [inR]; omega) rfl ?_
          refine oG (gA (evv rfl)) rfl rfl ?_
          refine oN ?_
          refine cC ?_
          refine rS ?_
          refine rS ?_
          refine r_quiet (id := 16) Mixed.h (by kernel_rfl) ?_
          refine q_give (gM (evv rfl)) rfl rfl ?_
          refine q_give (g_bin (evv rfl) (evv rfl) (by rfl)) rfl rfl ?_
          refine q_give (gM (evv rfl)) rfl rfl ?_
          refine q_lazy rfl (fun hg => g_fld (evv rfl)) rfl rfl ?_
          refine q_lazy rfl (fun hg => g_load (evg rfl hg) (by rfl) (by rfl)) rfl rfl ?_
          refine q_lazy rfl (fun hg => gM (by first | exact evv rfl | exact evg rfl (by rw [hp]; rfl) | exact evg rfl hp | exact evg rfl hg | exact evg rfl (by first | (simp_all; done) | (simp [*]; done) | fail) | fail)) rfl rfl ?_
          refine q_lazy rfl (fun hg => g_nil (by first | exact evv rfl | exact evg rfl (by rw [hp]; rfl) | exact evg rfl hp | exact evg rfl hg | exact evg rfl (by first | (simp_all; done) | (simp [*]; done) | fail) | fail)) rfl rfl ?_
          refine q_lazy rfl (fun hg => g_fld (evg rfl hg)) rfl rfl ?_
          refine q_lazy rfl (fun hg => g_load (evg rfl hg) (by rfl) (by rfl)) rfl rfl ?_
          refine q_lazy rfl (fun hg => g_bin (by first | exact evv rfl | exact evg rfl (by rw [hp]; rfl) | exact evg rfl hp | exact evg rfl hg | exact evg rfl (by first | (simp_all; done) | (simp [*]; done) | fail) | fail) (by first | exact evv rfl | exact evg rfl (by rw [hp]; rfl) | exact evg rfl hp | exact evg rfl hg | exact evg rfl (by first | (simp_all; done) | (simp [*]; done) | fail) | fail) (by rfl)) rfl rfl ?_
          refine q_give (g_pick (b := false) (evv rfl) (fun h => by cases h) (fun _ => (evv rfl))) rfl rfl ?_
          refine q_give (gM (evv rfl)) rfl rfl ?_
          refine q_sure rfl (gM (evv rfl)) rfl rfl ?_
          refine q_sure rfl (g_bin (evv rfl) (evv rfl) (by rfl)) rfl rfl ?_
          refine q_sure rfl (gM (evv rfl)) rfl rfl ?_
          refine q_sure rfl (gM (evv rfl)) rfl rfl ?_
          refine q_sure rfl (gM (evv rfl)) rfl rfl ?_
          refine q_sure rfl (g_nil (evv rfl)) rfl rfl ?_
          refine q_sure rfl (g_fld (evv rfl)) rfl rfl ?_
          refine q_sure rfl (g_idxA (evv rfl) (evv rfl) (by omega) (by omega)) rfl rfl ?_
          refine q_sure rfl (g_load (evv rfl) (by rfl) (by rfl)) rfl rfl ?_
          refine q_sure rfl (gM (evv rfl)) rfl rfl ?_
          refine q_sure rfl (gM (evv rfl)) rfl rfl ?_
          refine q_sure rfl (g_nil (evv rfl)) rfl rfl ?_
          refine q_sure rfl (g_fld (evv rfl)) rfl rfl ?_
          refine q_sure rfl (g_idxA (evv rfl) (evv rfl) (by omega) (by omega)) rfl rfl ?_
          refine q_sure rfl (g_load (evv rfl) (by rfl) (by rfl)) rfl rfl ?_
          refine q_sure rfl (g_lenS TyU.h (evv rfl)) rfl rfl ?_
          refine q_sure rfl (g_bin (evv rfl) (evv rfl) (by rfl)) rfl rfl ?_
          refine q_sure rfl (g_pick (b := true) (evv rfl) (fun _ => (evv rfl)) (fun h => by cases h)) rfl rfl ?_
          refine q_give (g_pick (b := false) (evv rfl) (fun h => by cases h) (fun _ => (evv rfl))) rfl rfl ?_
          refine q_nil ?_
          refine cC ?_
          refine r_cond rfl (fun c3 => ?_) (fun c3 => ?_) <;> (try simp only [decide_eq_true_eq, decide_eq_false_iff_not, Bool.and_eq_true, Bool.or_eq_true, Bool.not_eq_true', Bool.and_eq_false_iff, Bool.or_eq_false_iff, Bool.not_eq_false', Bool.not_eq_true, Bool.not_eq_false, Bool.true_eq_false, Bool.false_eq_true, Int.not_lt, Int.not_le, not_and, not_or, ne_eq] at c3)
          · refine rS ?_
            refine rR (id := 17) ?_
            refine oG (gA (evv rfl)) rfl rfl ?_
            refine oN ?_
            refine cC ?_
            first | refine r_ret (rs := [.tmp 4]) rfl rfl _ (Ent.drop) ?_ | refine c_end (rs := [.tmp 4]) rfl rfl _ (Ent.drop) ?_
            (refine ⟨?_, ?_⟩ <;> first | rfl | trivial | omega)
          · exfalso; omega
      · have hd : doT ⟨b0, s0, b1, s1, lv, am, false⟩ ⟨kind, area, bv, b, n, kv, ks⟩ = (if am = 1 then 170 else 0, if (if am = 1 then (170 : Int) else 0) = 0 then { tick ⟨b0, s0, b1, s1, lv, am, false⟩ with live := 1 - lv } else tick ⟨b0, s0, b1, s1, lv, am, false⟩) := by
          rw [doT_3 hkc, flpT, chg_go (.inl rfl) rfl (by omega) (fun hh => hS hh.2)]
          rfl
        rw [hd]
        rcases hl with rfl | rfl <;> simp [Pt.s, Pt.b] at hS
        · refine r_skip ?_
          refine cC ?_
          refine rS ?_
          refine rR (id := 15) ?_
          refine oG (gM (evv rfl)) rfl rfl ?_
          refine oG (g_nil (evv rfl)) rfl rfl ?_
          refine oG (g_fld (evv rfl)) rfl rfl ?_
          refine oG (g_load (evv rfl) (by rfl) (by rfl)) rfl rfl ?_
          refine o_giveN (g_bin (evv rfl) (evv rfl) (by rfl)) (by simp only [inR]; omega) rfl ?_
          refine oG (gA (evv rfl)) rfl rfl ?_
          refine oN ?_
          refine cC ?_
          refine rS ?_
          refine rS ?_
          refine r_quiet (id := 16) Mixed.h (by kernel_rfl) ?_
          refine q_give (gM (evv rfl)) rfl rfl ?_
          refine q_give (g_bin (evv rfl) (evv rfl) (by rfl)) rfl rfl ?_
          refine q_give (gM (evv rfl)) rfl rfl ?_
          refine q_lazy rfl (fun hg => g_fld (evv rfl)) rfl rfl ?_
          refine q_lazy rfl (fun hg => g_load (evg rfl hg) (by rfl) (by rfl)) rfl rfl ?_
          refine q_lazy rfl (fun hg => gM (by first | exact evv rfl | exact evg rfl (by rw [hp]; rfl) | exact evg rfl hp | exact evg rfl hg | exact evg rfl (by first | (simp_all; done) | (simp [*]; done) | fail) | fail)) rfl rfl ?_
          refine q_lazy rfl (fun hg => g_nil (by first | exact evv rfl | exact evg rfl (by rw [hp]; rfl) | exact evg rfl hp | exact evg rfl hg | exact evg rfl (by first | (simp_all; done) | (simp [*]; done) | fail) | fail)) rfl rfl ?_
          refine q_lazy rfl (fun hg => g_fld (evg rfl hg)) rfl rfl ?_
          refine q_lazy rfl (fun hg => g_load (evg rfl hg) (by rfl) (by rfl)) rfl rfl ?_
          refine q_lazy rfl (fun hg => g_bin (by first | exact evv rfl | exact evg rfl (by rw [hp]; rfl) | exact evg rfl hp | exact evg rfl hg | exact evg rfl (by first | (simp_all; done) | (simp [*]; done) | fail) | fail) (by first | exact evv rfl | exact evg rfl (by rw [hp]; rfl) | exact evg rfl hp | exact evg rfl hg | exact evg rfl (by first | (simp_all; done) | (simp [*]; done) | fail) | fail) (by rfl)) rfl rfl ?_
          refine q_give (g_pick (b := false) (evv rfl) (fun h => by cases h) (fun _ => (evv rfl))) rfl rfl ?_
          refine q_give (gM (evv rfl)) rfl rfl ?_
          refine q_sure rfl (gM (evv rfl)) rfl rfl ?_
          refine q_sure rfl (g_bin (evv rfl) (evv rfl) (by rfl)) rfl rfl ?_
          refine q_sure rfl (gM (evv rfl)) rfl rfl ?_
          refine q_sure rfl (gM (evv rfl)) rfl rfl ?_
          refine q_sure rfl (gM (evv rfl)) rfl rfl ?_
          refine q_sure rfl (g_nil (evv rfl)) rfl rfl ?_
          refine q_sure rfl (g_fld (evv rfl)) rfl rfl ?_
          refine q_sure rfl (g_idxA (evv rfl) (evv rfl) (by omega) (by omega)) rfl rfl ?_
          refine q_sure rfl (g_load (evv rfl) (by rfl) (by rfl)) rfl rfl ?_
          refine q_sure rfl (gM (evv rfl)) rfl rfl ?_
          refine q_sure rfl (gM (evv rfl)) rfl rfl ?_
          refine q_sure rfl (g_nil (evv rfl)) rfl rfl ?_
          refine q_sure rfl (g_fld (evv rfl)) rfl rfl ?_
          refine q_sure rfl (g_idxA (evv rfl) (evv rfl) (by omega) (by omega)) rfl rfl ?_
          refine q_sure rfl (g_load (evv rfl) (by rfl) (by rfl)) rfl rfl ?_
          refine q_sure rfl (g_lenS TyU.h (evv rfl)) rfl rfl ?_
          refine q_sure rfl (g_bin (evv rfl) (evv rfl) (by rfl)) rfl rfl ?_
          refine q_sure rfl (g_pick (b := true) (evv rfl) (fun _ => (evv rfl)) (fun h => by cases h)) rfl rfl ?_
          refine q_give (g_pick (b := false) (evv rfl) (fun h => by cases h) (fun _ => (evv rfl))) rfl rfl ?_
          refine q_nil ?_
          refine cC ?_
          refine r_cond rfl (fun c3 => ?_) (fun c3 => ?_) <;> (try simp only [decide_eq_true_eq, decide_eq_false_iff_not, Bool.and_eq_true, Bool.or_eq_true, Bool.not_eq_true', Bool.and_eq_false_iff, Bool.or_eq_false_iff, Bool.not_eq_false', Bool.not_eq_true, Bool.not_eq_false, Bool.true_eq_false, Bool.false_eq_true, Int.not_lt, Int.not_le, not_and, not_or, ne_eq] at c3)
          · exfalso; omega
          · clear c3
            refine r_skip ?_
            refine cC ?_
            refine rS ?_
            refine rR (id := 18) ?_
            refine oG (gM (evv rfl)) rfl rfl ?_
            (refine o_call rfl _ (PickR.ent (K := blk _)) (goes_b _ _ _ _ _ _ _ _ (by assumption)) rfl ?_; rintro _ _ ⟨rfl, rfl⟩)
            refine oG (gA (evv rfl)) rfl rfl ?_
            refine oN ?_
            refine cC ?_
            refine rS ?_
            refine rS ?_
            refine rR (id := 19) ?_
            refine oG (gM (evv rfl)) rfl rfl ?_
            refine oG (g_bin (evv rfl) (evv rfl) (by rfl)) rfl rfl ?_
            refine oN ?_
            refine cC ?_
            refine r_cond_false rfl ?_
            refine r_skip ?_
            refine cC ?_
            refine rS ?_
            refine rS ?_
            refine rR (id := 21) ?_
            refine oG (gM (evv rfl)) rfl rfl ?_
            refine oN ?_
            refine cC ?_
            refine r_cond rfl (fun c5 => ?_) (fun c5 => ?_) <;> (try simp only [decide_eq_true_eq, decide_eq_false_iff_not, Bool.and_eq_true, Bool.or_eq_true, Bool.not_eq_true', Bool.and_eq_false_iff, Bool.or_eq_false_iff, Bool.not_eq_false', Bool.not_eq_true, Bool.not_eq_false, Bool.true_eq_false, Bool.false_eq_true, Int.not_lt, Int.not_le, not_and, not_or, ne_eq] at c5)
            · simp only [if_pos c5]
              rw [if_neg (by decide)]
              refine rS ?_
              refine rR (id := 22) ?_
              refine oG (gA (evv rfl)) rfl rfl ?_
              refine oN ?_
              refine cC ?_
              first | refine r_ret (rs := [.tmp 4]) rfl rfl _ (Lay.ent (L' := blk r (rpB b0 b1 s0 s1 0 (am - 1) (decide (am = 1))) :: F)) ?_ | refine c_end (rs := [.tmp 4]) rfl rfl _ (Lay.ent (L' := blk r (rpB b0 b1 s0 s1 0 (am - 1) (decide (am = 1))) :: F)) ?_
              (refine ⟨?_, ?_⟩ <;> first | rfl | trivial | omega)
            · simp only [if_neg c5]
              rw [if_pos trivial]
              refine r_skip ?_
              refine cC ?_
              refine rS ?_
              refine rS ?_
              refine rR (id := 23) ?_
              refine oG (gM (evv rfl)) rfl rfl ?_
              refine oG (g_bin (evv rfl) (evv rfl) (by rfl)) rfl rfl ?_
              refine oN ?_
              refine cC ?_
              refine r_cond_false rfl ?_
              refine r_skip ?_
              refine cC ?_
              refine rS ?_
              refine rS ?_
              refine rR (id := 25) ?_
              refine oG (gM (evv rfl)) rfl rfl ?_
              refine oG (g_bin (evv rfl) (evv rfl) (by rfl)) rfl rfl ?_
              refine oN ?_
              refine cC ?_
              refine r_cond_false rfl ?_
              refine r_skip ?_
              refine cC ?_
              refine rS ?_
              refine rS ?_
              refine rR (id := 28) ?_
              refine oG (gM (evv rfl)) rfl rfl ?_
              refine oG (g_bin (evv rfl) (evv rfl) (by rfl)) rfl rfl ?_
              refine oN ?_
              refine cC ?_
              refine r_cond_true rfl ?_
              refine rR (id := 29) ?_
              refine oG (gM (evv rfl)) rfl rfl ?_
              refine oG (gM (evv rfl)) rfl rfl ?_
              refine oG (g_nil (evv rfl)) rfl rfl ?_
              refine oG (g_fld (evv rfl)) rfl rfl ?_
              refine o_store1 (evv rfl) (evv rfl) (by rfl) (by rfl) (by rfl) ?_
              refine oN ?_
              refine cC ?_
              refine rS ?_
              refine rR (id := 30) ?_
              refine oG (gA (evv rfl)) rfl rfl ?_
              refine oN ?_
              refine cC ?_
              first | refine r_ret (rs := [.tmp 4]) rfl rfl _ ((Lay.ent (L' := blk r ⟨[str b0, str b1, .int .i64 (s0 : Int), .int .i64 (s1 : Int), .int .i64 (1 - ((0 : Nat) : Int)), .int .i64 ((am - 1 : Nat) : Int), .bool (decide (am = 1))], 57⟩ :: F))) ?_ | refine c_end (rs := [.tmp 4]) rfl rfl _ ((Lay.ent (L' := blk r ⟨[str b0, str b1, .int .i64 (s0 : Int), .int .i64 (s1 : Int), .int .i64 (1 - ((0 : Nat) : Int)), .int .i64 ((am - 1 : Nat) : Int), .bool (decide (am = 1))], 57⟩ :: F))) ?_
              (refine ⟨?_, ?_⟩ <;> first | rfl | trivial | omega)
        · refine r_skip ?_
          refine cC ?_
          refine rS ?_
          refine rR (id := 15) ?_
          refine oG (gM (evv rfl)) rfl rfl ?_
          refine oG (g_nil (evv rfl)) rfl rfl ?_
          refine oG (g_fld (evv rfl)) rfl rfl ?_
          refine oG (g_load (evv rfl) (by rfl) (by rfl)) rfl rfl ?_
          refine o_giveN (g_bin (evv rfl) (evv rfl) (by rfl)) (by simp only [inR]; omega) rfl ?_
          refine oG (gA (evv rfl)) rfl rfl ?_
          refine oN ?_
          refine cC ?_
          refine rS ?_
          refine rS ?_
          refine r_quiet (id := 16) Mixed.h (by kernel_rfl) ?_
          refine q_give (gM (evv rfl)) rfl rfl ?_
          refine q_give (g_bin (evv rfl) (evv rfl) (by rfl)) rfl rfl ?_
          refine q_give (gM (evv rfl)) rfl rfl ?_
          refine q_lazy rfl (fun hg => g_fld (evv rfl)) rfl rfl ?_
          refine q_lazy rfl (fun hg => g_load (evg rfl hg) (by rfl) (by rfl)) rfl rfl ?_
          refine q_lazy rfl (fun hg => gM (by first | exact evv rfl | exact evg rfl (by rw [hp]; rfl) | exact evg rfl hp | exact evg rfl hg | exact evg rfl (by first | (simp_all; done) | (simp [*]; done) | fail) | fail)) rfl rfl ?_
          refine q_lazy rfl (fun hg => g_nil (by first | exact evv rfl | exact evg rfl (by rw [hp]; rfl) | exact evg rfl hp | exact evg rfl hg | exact evg rfl (by first | (simp_all; done) | (simp [*]; done) | fail) | fail)) rfl rfl ?_
          refine q_lazy rfl (fun hg => g_fld (evg rfl hg)) rfl rfl ?_
          refine q_lazy rfl (fun hg => g_load (evg rfl hg) (by rfl) (by rfl)) rfl rfl ?_
          refine q_lazy rfl (fun hg => g_bin (by first | exact evv rfl | exact evg rfl (by rw [hp]; rfl) | exact evg rfl hp | exact evg rfl hg | exact evg rfl (by first | (simp_all; done) | (simp [*]; done) | fail) | fail) (by first | exact evv rfl | exact evg rfl (by rw [hp]; rfl) | exact evg rfl hp | exact evg rfl hg | exact evg rfl (by first | (simp_all; done) | (simp [*]; done) | fail) | fail) (by rfl)) rfl rfl ?_
          refine q_give (g_pick (b := false) (evv rfl) (fun h => by cases h) (fun _ => (evv rfl))) rfl rfl ?_
          refine q_give (gM (evv rfl)) rfl rfl ?_
          refine q_sure rfl (gM (evv rfl)) rfl rfl ?_
          refine q_sure rfl (g_bin (evv rfl) (evv rfl) (by rfl)) rfl rfl ?_
          refine q_sure rfl (gM (evv rfl)) rfl rfl ?_
          refine q_sure rfl (gM (evv rfl)) rfl rfl ?_
          refine q_sure rfl (gM (evv rfl)) rfl rfl ?_
          refine q_sure rfl (g_nil (evv rfl)) rfl rfl ?_
          refine q_sure rfl (g_fld (evv rfl)) rfl rfl ?_
          refine q_sure rfl (g_idxA (evv rfl) (evv rfl) (by omega) (by omega)) rfl rfl ?_
          refine q_sure rfl (g_load (evv rfl) (by rfl) (by rfl)) rfl rfl ?_
          refine q_sure rfl (gM (evv rfl)) rfl rfl ?_
          refine q_sure rfl (gM (evv rfl)) rfl rfl ?_
          refine q_sure rfl (g_nil (evv rfl)) rfl rfl ?_
          refine q_sure rfl (g_fld (evv rfl)) rfl rfl ?_
          refine q_sure rfl (g_idxA (evv rfl) (evv rfl) (by omega) (by omega)) rfl rfl ?_
          refine q_sure rfl (g_load (evv rfl) (by rfl) (by rfl)) rfl rfl ?_
          refine q_sure rfl (g_lenS TyU.h (evv rfl)) rfl rfl ?_
          refine q_sure rfl (g_bin (evv rfl) (evv rfl) (by rfl)) rfl rfl ?_
          refine q_sure rfl (g_pick (b := true) (evv rfl) (fun _ => (evv rfl)) (fun h => by cases h)) rfl rfl ?_
          refine q_give (g_pick (b := false) (evv rfl) (fun h => by cases h) (fun _ => (evv rfl))) rfl rfl ?_
          refine q_nil ?_
          refine cC ?_
          refine r_cond rfl (fun c3 => ?_) (fun c3 => ?_) <;> (try simp only [decide_eq_true_eq, decide_eq_false_iff_not, Bool.and_eq_true, Bool.or_eq_true, Bool.not_eq_true', Bool.and_eq_false_iff, Bool.or_eq_false_iff, Bool.not_eq_false', Bool.not_eq_true, Bool.not_eq_false, Bool.true_eq_false, Bool.false_eq_true, Int.not_lt, Int.not_le, not_and, not_or, ne_eq] at c3)
          · exfalso; omega
          · clear c3
            refine r_skip ?_
            refine cC ?_
            refine rS ?_
            refine rR (id := 18) ?_
            refine oG (gM (evv rfl)) rfl rfl ?_
            (refine o_call rfl _ (PickR.ent (K := blk _)) (goes_b _ _ _ _ _ _ _ _ (by assumption)) rfl ?_; rintro _ _ ⟨rfl, rfl⟩)
            refine oG (gA (evv rfl)) rfl rfl ?_
            refine oN ?_
            refine cC ?_
            refine rS ?_
            refine rS ?_
            refine rR (id := 19) ?_
            refine oG (gM (evv rfl)) rfl rfl ?_
            refine oG (g_bin (evv rfl) (evv rfl) (by rfl)) rfl rfl ?_
            refine oN ?_
            refine cC ?_
            refine r_cond_false rfl ?_
            refine r_skip ?_
            refine cC ?_
            refine rS ?_
            refine rS ?_
            refine rR (id := 21) ?_
            refine oG (gM (evv rfl)) rfl rfl ?_
            refine oN ?_
            refine cC ?_
            refine r_cond rfl (fun c5 => ?_) (fun c5 => ?_) <;> (try simp only [decide_eq_true_eq, decide_eq_false_iff_not, Bool.and_eq_true, Bool.or_eq_true, Bool.not_eq_true', Bool.and_eq_false_iff, Bool.or_eq_false_iff, Bool.not_eq_false', Bool.not_eq_true, Bool.not_eq_false, Bool.true_eq_false, Bool.false_eq_true, Int.not_lt, Int.not_le, not_and, not_or, ne_eq] at c5)
            · simp only [if_pos c5]
              rw [if_neg (by decide)]
              refine rS ?_
              refine rR (id := 22) ?_
              refine oG (gA (evv rfl)) rfl rfl ?_
              refine oN ?_
              refine cC ?_
              first | refine r_ret (rs := [.tmp 4]) rfl rfl _ (Lay.ent (L' := blk r (rpB b0 b1 s0 s1 1 (am - 1) (decide (am = 1))) :: F)) ?_ | refine c_end (rs := [.tmp 4]) rfl rfl _ (Lay.ent (L' := blk r (rpB b0 b1 s0 s1 1 (am - 1) (decide (am = 1))) :: F)) ?_
              (refine ⟨?_, ?_⟩ <;> first | rfl | trivial | omega)
            · simp only [if_neg c5]
              rw [if_pos trivial]
              refine r_skip ?_
              refine cC ?_
              refine rS ?_
              refine rS ?_
              refine rR (id := 23) ?_
              refine oG (gM (evv rfl)) rfl rfl ?_
              refine oG (g_bin (evv rfl) (evv rfl) (by rfl)) rfl rfl ?_
              refine oN ?_
              refine cC ?_
              refine r_cond_false rfl ?_
              refine r_skip ?_
              refine cC ?_
              refine rS ?_
              refine rS ?_
              refine rR (id := 25) ?_
              refine oG (gM (evv rfl)) rfl rfl ?_
              refine oG (g_bin (evv rfl) (evv rfl) (by rfl)) rfl rfl ?_
              refine oN ?_
              refine cC ?_
              refine r_cond_false rfl ?_
              refine r_skip ?_
              refine cC ?_
              refine rS ?_
              refine rS ?_
              refine rR (id := 28) ?_
              refine oG (gM (evv rfl)) rfl rfl ?_
              refine oG (g_bin (evv rfl) (evv rfl) (by rfl)) rfl rfl ?_
              refine oN ?_
              refine cC ?_
              refine r_cond_true rfl ?_
              refine rR (id := 29) ?_
              refine oG (gM (evv rfl)) rfl rfl ?_
              refine oG (gM (evv rfl)) rfl rfl ?_
              refine oG (g_nil (evv rfl)) rfl rfl ?_
              refine oG (g_fld (evv rfl)) rfl rfl ?_
              refine o_store1 (evv rfl) (evv rfl) (by rfl) (by rfl) (by rfl) ?_
              refine oN ?_
              refine cC ?_
              refine rS ?_
              refine rR (id := 30) ?_
              refine oG (gA (evv rfl)) rfl rfl ?_
              refine oN ?_
              refine cC ?_
              first | refine r_ret (rs := [.tmp 4]) rfl rfl _ ((Lay.ent (L' := blk r ⟨[str b0, str b1, .int .i64 (s0 : Int), .int .i64 (s1 : Int), .int .i64 (1 - ((1 : Nat) : Int)), .int .i64 ((am - 1 : Nat) : Int), .bool (decide (am = 1))], 57⟩ :: F))) ?_ | refine c_end (rs := [.tmp 4]) rfl rfl _ ((Lay.ent (L' := blk r ⟨[str b0, str b1, .int .i64 (s0 : Int), .int .i64 (s1 : Int), .int .i64 (1 - ((1 : Nat) : Int)), .int .i64 ((am - 1 : Nat) : Int), .bool (decide (am = 1))], 57⟩ :: F))) ?_
              (refine ⟨?_, ?_⟩ <;> first | rfl | trivial | omega)
  · have hd : doT ⟨b0, s0, b1, s1, lv, am, dn⟩ ⟨kind, area, bv, b, n, kv, ks⟩ = (0, armT ⟨b0, s0, b1, s1, lv, am, dn⟩ n) := by
      simp only [doT, hkc]
      rfl
    rw [hd]
    cases dn with
    | true =>
      refine rR (id := 2) ?_
      refine oG (gM (evv rfl)) rfl rfl ?_
      refine oG (g_bin (evv rfl) (evv rfl) (by rfl)) rfl rfl ?_
      refine oN ?_
      refine cC ?_
      refine r_cond_true rfl ?_
      refine rS ?_
      refine rS ?_
      refine rR (id := 3) ?_
      refine oG (gM (evv rfl)) rfl rfl ?_
      refine oG (g_nil (evv rfl)) rfl rfl ?_
      refine oG (g_fld (evv rfl)) rfl rfl ?_
      refine oG (g_load (evv rfl) (by rfl) (by rfl)) rfl rfl ?_
      refine oG (g_not (evv rfl)) rfl rfl ?_
      refine oN ?_
      refine cC ?_
      refine r_cond_false rfl ?_
      refine r_skip ?_
      refine cC ?_
      refine rS ?_
      refine rR (id := 7) ?_
      refine oG (gA (evv rfl)) rfl rfl ?_
      refine oN ?_
      refine cC ?_
      first | refine r_ret (rs := [.tmp 4]) rfl rfl _ (Ent.drop) ?_ | refine c_end (rs := [.tmp 4]) rfl rfl _ (Ent.drop) ?_
      (refine ⟨?_, ?_⟩ <;> first | rfl | trivial | omega)
    | false =>
      have e1 : armT ⟨b0, s0, b1, s1, lv, am, false⟩ n = ⟨b0, s0, b1, s1, lv, (max n 0).toNat, false⟩ := rfl
      rw [e1]
      refine rR (id := 2) ?_
      refine oG (gM (evv rfl)) rfl rfl ?_
      refine oG (g_bin (evv rfl) (evv rfl) (by rfl)) rfl rfl ?_
      refine oN ?_
      refine cC ?_
      refine r_cond_true rfl ?_
      refine rS ?_
      refine rS ?_
      refine rR (id := 3) ?_
      refine oG (gM (evv rfl)) rfl rfl ?_
      refine oG (g_nil (evv rfl)) rfl rfl ?_
      refine oG (g_fld (evv rfl)) rfl rfl ?_
      refine oG (g_load (evv rfl) (by rfl) (by rfl)) rfl rfl ?_
      refine oG (g_not (evv rfl)) rfl rfl ?_
      refine oN ?_
      refine cC ?_
      refine r_cond_true rfl ?_
      refine rS ?_
      refine rR (id := 4) ?_
      refine oG (gM (evv rfl)) rfl rfl ?_
      refine oG (g_fld (evv rfl)) rfl rfl ?_
      refine oG (g_load (evv rfl) (by rfl) (by rfl)) rfl rfl ?_
      refine oG (g_nil (evv rfl)) rfl rfl ?_
      refine oG (g_fld (evv rfl)) rfl rfl ?_
      refine o_store1 (evv rfl) (evv rfl) (by rfl) (by rfl) (by rfl) ?_
      refine oN ?_
      refine cC ?_
      refine rS ?_
      refine rR (id := 5) ?_
      refine oG (g_fld (evv rfl)) rfl rfl ?_
      refine oG (g_load (evv rfl) (by rfl) (by rfl)) rfl rfl ?_
      refine oG (g_bin (evv rfl) (evv rfl) (by rfl)) rfl rfl ?_
      refine oN ?_
      refine cC ?_
      refine r_cond rfl (fun c1 => ?_) (fun c1 => ?_) <;> (try simp only [decide_eq_true_eq, decide_eq_false_iff_not, Bool.and_eq_true, Bool.or_eq_true, Bool.not_eq_true', Bool.and_eq_false_iff, Bool.or_eq_false_iff, Bool.not_eq_false', Bool.not_eq_true, Bool.not_eq_false, Bool.true_eq_false, Bool.false_eq_true, Int.not_lt, Int.not_le, not_and, not_or, ne_eq] at c1)
      · have e2 : (max n 0).toNat = 0 := by omega
        rw [e2]
        refine rR (id := 6) ?_
        refine oG (gM (evv rfl)) rfl rfl ?_
        refine oG (g_nil (evv rfl)) rfl rfl ?_
        refine oG (g_fld (evv rfl)) rfl rfl ?_
        refine o_store1 (evv rfl) (evv rfl) (by rfl) (by rfl) (by rfl) ?_
        refine oN ?_
        refine cC ?_
        refine rS ?_
        refine rR (id := 7) ?_
        refine oG (gA (evv rfl)) rfl rfl ?_
        refine oN ?_
        refine cC ?_
        first | refine r_ret (rs := [.tmp 4]) rfl rfl _ (Ent.drop) ?_ | refine c_end (rs := [.tmp 4]) rfl rfl _ (Ent.drop) ?_
        (refine ⟨?_, ?_⟩ <;> first | rfl | trivial | omega)
      · have e2 : n = (((max n 0).toNat : Nat) : Int) := by omega
        refine r_skip ?_
        refine cC ?_
        refine rS ?_
        refine rR (id := 7) ?_
        refine oG (gA (evv rfl)) rfl rfl ?_
        refine oN ?_
        refine cC ?_
        first | refine r_ret (rs := [.tmp 4]) rfl rfl _ (Ent.drop.trans (Ent.of_eq (congrArg (fun z : Int => blk r ⟨[str b0, str b1, .int .i64 (s0 : Int), .int .i64 (s1 : Int), .int .i64 (lv : Int), .int .i64 z, .bool false], 57⟩ :: F) e2))) ?_ | refine c_end (rs := [.tmp 4]) rfl rfl _ (Ent.drop.trans (Ent.of_eq (congrArg (fun z : Int => blk r ⟨[str b0, str b1, .int .i64 (s0 : Int), .int .i64 (s1 : Int), .int .i64 (lv : Int), .int .i64 z, .bool false], 57⟩ :: F) e2))) ?_
        (refine ⟨?_, ?_⟩ <;> first | rfl | trivial | omega)
  · have hd : doT ⟨b0, s0, b1, s1, lv, am, dn⟩ ⟨kind, area, bv, b, n, kv, ks⟩ = (0, cutT ⟨b0, s0, b1, s1, lv, am, dn⟩ ks) := by
      simp only [doT, hkc]
      rfl
    rw [hd]
    refine r_ent (rp r ⟨b0, s0, b1, s1, lv, am, dn⟩ :: blk q ⟨[.int .i64 kind, .int .i64 area, bv, .int .i64 n, kv], 61⟩ :: F) Ent.swap ?_
    refine rR (id := 2) ?_
    refine oG (gM (evv rfl)) rfl rfl ?_
    refine oG (g_bin (evv rfl) (evv rfl) (by rfl)) rfl rfl ?_
    refine oN ?_
    refine cC ?_
    refine r_cond_false rfl ?_
    refine r_skip ?_
    refine cC ?_
    refine rS ?_
    refine rS ?_
    refine rR (id := 8) ?_
    refine oG (gM (evv rfl)) rfl rfl ?_
    refine oG (g_bin (evv rfl) (evv rfl) (by rfl)) rfl rfl ?_
    refine oN ?_
    refine cC ?_
    refine r_cond_true rfl ?_
    refine rS ?_
    refine rR (id := 9) ?_
    refine oG (gM (evv rfl)) rfl rfl ?_
    refine oG (g_fld (evv rfl)) rfl rfl ?_
    refine oG (g_load (evv rfl) (by rfl) (by rfl)) rfl rfl ?_
    (refine o_call rfl _ (PickR.ent (K := rp _)) (rcut_c _ _ _ (by assumption) _ _ (by assumption)) rfl ?_; rintro _ _ ⟨rfl, rfl⟩)
    refine oN ?_
    refine cC ?_
    refine rS ?_
    refine rR (id := 10) ?_
    refine oG (gA (evv rfl)) rfl rfl ?_
    refine oN ?_
    refine cC ?_
    first | refine r_ret (rs := [.tmp 4]) rfl rfl _ ((Lay.ent (L' := rp r (cutT ⟨b0, s0, b1, s1, lv, am, dn⟩ ks) :: F))) ?_ | refine c_end (rs := [.tmp 4]) rfl rfl _ ((Lay.ent (L' := rp r (cutT ⟨b0, s0, b1, s1, lv, am, dn⟩ ks) :: F))) ?_
    (refine ⟨?_, ?_⟩ <;> first | rfl | trivial | omega)
end VK

namespace VK
open Go Go.Proofs
set_option linter.unusedSimpArgs false
set_option linter.unusedVariables false
set_option maxRecDepth 100000
set_option maxHeartbeats 40000000
section
variable {c : Cx} {k : List KI} {E : Env} {L : List Atom} {all rest : List Oper} {ty : TypeId} {pos : String} {aft : Array Edge}
end
def sizeP (x : Pt) : Nat := x.b0.length + x.b1.length
theorem chg_size (x : Pt) (c a : Int) : sizeP (chg x c a).2.2 = sizeP x := by
  unfold chg
  split
  · rfl
  · split
    · rfl
    · split
      · rfl
      · split <;> rfl
theorem setB_ok {x : Pt} (h : x.ok) {i : Int} {b : List UInt8} (h1 : (x.b i.toNat).length ≤ b.length) (hi : i = 0 ∨ i = 1) (h2 : b.length ≤ 1000000000) : (x.setB i b).ok := by
  obtain ⟨a1, a2, a3, a4, a5, a6⟩ := h
  rcases hi with rfl | rfl
  · exact ⟨a1, Nat.le_trans a2 h1, a3, h2, a5, a6⟩
  · exact ⟨a1, a2, Nat.le_trans a3 h1, a4, h2, a6⟩
theorem doT_ok {x : Pt} (h : x.ok) {c : RCall} (hn : inR .i64 c.n) (hs : sizeP x + c.b.length ≤ 1000000000) : (doT x c).2.ok ∧ sizeP (doT x c).2 ≤ sizeP x + c.b.length := by
  have hkr : 0 ≤ kindQ c ∧ kindQ c < 6 := by unfold kindQ; omega
  simp only [inR] at hn
  rcases (by omega : kindQ c = 0 ∨ kindQ c = 1 ∨ kindQ c = 2 ∨ kindQ c = 3 ∨ kindQ c = 4 ∨ kindQ c = 5) with hk | hk | hk | hk | hk | hk
  · rw [doT_0 hk, appT]
    have hc := chg_ok h 0 c.area
    have hz := chg_size x 0 c.area
    have hat := chg_at (x := x) (at_ := c.area) (call := 0) (by decide)
    generalize chg x 0 c.area = r at *
    dsimp only
    split
    · rename_i hd
      have ha := hat hd
      have hb : (r.2.2.b c.area.toNat).length ≤ sizeP r.2.2 := by
        rcases ha with ha | ha <;> rw [ha] <;> simp [Pt.b, sizeP]
      refine ⟨setB_ok hc (by simp) ha (by simp; omega), ?_⟩
      rcases ha with ha | ha <;> rw [ha] <;> simp [Pt.setB, Pt.b, sizeP] at hz ⊢ <;> omega
    · exact ⟨hc, by omega⟩
  · rw [doT_1 hk, synT]
    have hc := chg_ok h 1 c.area
    have hz := chg_size x 1 c.area
    have hat := chg_at0 (x := x) (at_ := c.area) (call := 1) (by decide)
    generalize chg x 1 c.area = r at *
    dsimp only
    split
    · rename_i hd
      have ha := hat hd
      obtain ⟨a1, a2, a3, a4, a5, a6⟩ := hc
      rcases ha with ha | ha <;> rw [ha]
      · exact ⟨⟨a1, Nat.le_refl _, a3, a4, a5, a6⟩, by simp [Pt.setS, sizeP] at hz ⊢; omega⟩
      · exact ⟨⟨a1, a2, Nat.le_refl _, a4, a5, a6⟩, by simp [Pt.setS, sizeP] at hz ⊢; omega⟩
    · exact ⟨hc, by omega⟩
  · rw [doT_2 hk, wipT]
    have hc := chg_ok h 2 c.area
    have hz := chg_size x 2 c.area
    have hat := chg_at0 (x := x) (at_ := c.area) (call := 2) (by decide)
    generalize chg x 2 c.area = r at *
    dsimp only
    split
    · rename_i hd
      have ha := hat hd
      obtain ⟨a1, a2, a3, a4, a5, a6⟩ := hc
      rcases ha with ha | ha <;> rw [ha]
      · exact ⟨⟨a1, Nat.le_refl _, a3, Nat.zero_le _, a5, a6⟩, by simp [Pt.setS, Pt.setB, sizeP] at hz ⊢; omega⟩
      · exact ⟨⟨a1, a2, Nat.le_refl _, a4, Nat.zero_le _, a6⟩, by simp [Pt.setS, Pt.setB, sizeP] at hz ⊢; omega⟩
    · exact ⟨hc, by omega⟩
  · rw [doT_3 hk, flpT]
    have hc := chg_ok h 3 0
    have hz := chg_size x 3 0
    generalize chg x 3 0 = r at *
    dsimp only
    split
    · obtain ⟨a1, a2, a3, a4, a5, a6⟩ := hc
      exact ⟨⟨by simp only; omega, a2, a3, a4, a5, a6⟩, by simp [sizeP] at hz ⊢; omega⟩
    · exact ⟨hc, by omega⟩
  · have e : doT x c = (0, armT x c.n) := by simp [doT, hk]
    rw [e]
    show (armT x c.n).ok ∧ sizeP (armT x c.n) ≤ _
    unfold armT
    split
    · exact ⟨h, by omega⟩
    · obtain ⟨a1, a2, a3, a4, a5, a6⟩ := h
      exact ⟨⟨a1, a2, a3, a4, a5, by simp only; omega⟩, by simp [sizeP]⟩
  · have e : doT x c = (0, cutT x c.ks) := by simp [doT, hk]
    rw [e]
    obtain ⟨a1, a2, a3, a4, a5, a6⟩ := h
    have c0 := cut_le c.ks 0 x.b0 x.s0
    have c1 := cut_le c.ks 1 x.b1 x.s1
    exact ⟨⟨a1, Nat.le_refl _, Nat.le_refl _, Nat.le_trans c0 a4, Nat.le_trans c1 a5, Nat.zero_le _⟩, by simp [cutT, sizeP]; omega⟩
end VK

namespace VK
open Go Go.Proofs
set_option linter.unusedSimpArgs false
set_option linter.unusedVariables false
set_option maxRecDepth 100000
set_option maxHeartbeats 40000000
def writeT (x : Pt) (k : KeptS) (p : List UInt8) : Int × Pt × KeptS :=
  match foldK k p with
  | none => (1, x, k)
  | some k' =>
    if (appT x x.live (frameB p)).1 ≠ 0 then ((appT x x.live (frameB p)).1, (appT x x.live (frameB p)).2, k) else
    if (synT (appT x x.live (frameB p)).2 (appT x x.live (frameB p)).2.live).1 ≠ 0 then ((synT (appT x x.live (frameB p)).2 (appT x x.live (frameB p)).2.live).1, (synT (appT x x.live (frameB p)).2 (appT x x.live (frameB p)).2.live).2, k) else
    (0, (synT (appT x x.live (frameB p)).2 (appT x x.live (frameB p)).2.live).2, k')
def layS (o : Int) (f : List UInt8) (i : Nat) (x : Pt) : Int × Pt := if i = 0 then wipT x o else if i = 1 then appT x o f else if i = 2 then synT x o else if i = 3 then flpT x else wipT x (1 - o)
def layG (o : Int) (f : List UInt8) (x : Pt) : Nat → Int × Pt
  | 0 => (0, x)
  | i + 1 => if (layG o f x i).1 = 0 then layS o f i (layG o f x i).2 else layG o f x i
def layT (x : Pt) (k0 k : KeptS) : Int × Pt × KeptS :=
  if ¬ k.ok then (1, x, k0) else ((layG (1 - x.live) (frameB (payW k)) x 5).1, (layG (1 - x.live) (frameB (payW k)) x 5).2, if (layG (1 - x.live) (frameB (payW k)) x 5).1 = 0 then k else k0)
def openT (x : Pt) : Int × Pt × KeptS :=
  if x.down = true then (170, x, zeroK) else
  match foldsK zeroK (scanR (rdT x x.live)).1 with
  | none => (180, x, zeroK)
  | some k => if (scanR (rdT x x.live)).2 < (rdT x x.live).length then ((layT x k k).1, (layT x k k).2.1, if (layT x k k).1 = 0 then k else zeroK) else (0, x, k)
def KeptS.fine (k : KeptS) : Prop := ∀ e ∈ k.ents, e.ok
theorem zeroK_fine : zeroK.fine := fun e he => by cases he
theorem entR1_ok {s s' : InS} {e : EntS} (h : entR1 s = some (e, s')) : e.ok := by
  unfold entR1 at h
  split at h
  · cases h
  · rename_i o ho
    cases h
    exact ⟨unzig_in (numR_le _), unzig_in (numR_le _), dec_ok ho⟩
theorem entsR_ok : ∀ {n : Nat} {s s' : InS} {l : List EntS}, entsR n s = some (l, s') → ∀ e ∈ l, e.ok
  | 0, s, s', l, h => by cases h; intro e he; cases he
  | n + 1, s, s', l, h => by
    simp only [entsR] at h
    split at h
    · cases h
    · rename_i e1 s1 h1
      split at h
      · cases h
      · rename_i l2 s2 h2
        cases h
        intro e he
        rcases List.mem_cons.1 he with rfl | he
        · exact entR1_ok h1
        · exact entsR_ok h2 e he
theorem entsR_len : ∀ {n : Nat} {s s' : InS} {l : List EntS}, entsR n s = some (l, s') → l.length = n
  | 0, s, s', l, h => by cases h; rfl
  | n + 1, s, s', l, h => by
    simp only [entsR] at h
    split at h
    · cases h
    · split at h
      · cases h
      · rename_i l2 s2 h2
        cases h
        rw [List.length_cons, entsR_len h2]
theorem manyR_ok {s s' : InS} {l : List EntS} (h : manyR s = some (l, s')) : ∀ e ∈ l, e.ok := by
  unfold manyR at h
  split at h
  · cases h
  · exact entsR_ok h
theorem foldK_fine {k k' : KeptS} {p : List UInt8} (hk : k.fine) (h : foldK k p = some k') : k'.fine := by
  unfold foldK at h
  split at h
  · unfold foldV at h
    split at h
    · cases h
    · obtain ⟨rfl, _⟩ := finK_ok h; exact hk
  · split at h
    · unfold foldE at h
      split at h
      · cases h
      · rename_i l s' hl
        obtain ⟨rfl, _⟩ := finK_ok h
        intro e he
        rcases List.mem_append.1 he with he | he
        · exact hk e he
        · exact entsR_ok hl e he
    · split at h
      · unfold foldA at h
        split at h
        · cases h
        · split at h
          · cases h
          · rename_i l s' hl
            obtain ⟨rfl, _⟩ := finK_ok h
            intro e he
            rcases List.mem_append.1 he with he | he
            · exact hk e (List.mem_of_mem_take he)
            · exact manyR_ok hl e he
      · split at h
        · unfold foldW at h
          split at h
          · cases h
          · split at h
            · cases h
            · rename_i l s' hl
              obtain ⟨rfl, _⟩ := finK_ok h
              exact fun e he => manyR_ok hl e he
        · cases h
theorem foldsK_fine : ∀ {ps : List (List UInt8)} {k k' : KeptS}, k.fine → foldsK k ps = some k' → k'.fine
  | [], k, k', h, e => by cases e; exact h
  | p :: ps, k, k', h, e => by
    simp only [foldsK] at e
    split at e
    · cases e
    · rename_i q hq
      exact foldsK_fine (foldK_fine h hq) e
theorem appT_ok {x : Pt} (h : x.ok) {i : Int} {m : List UInt8} (hs : sizeP x + m.length ≤ 1000000000) : (appT x i m).2.ok ∧ sizeP (appT x i m).2 ≤ sizeP x + m.length := by
  have := doT_ok (x := x) (c := ⟨0, i, .slice none 0 0, m, 0, .slice none 0 0, []⟩) h (by simp [inR]) hs
  rw [doT_0 (by rfl)] at this
  exact this
theorem synT_ok {x : Pt} (h : x.ok) {i : Int} (hs : sizeP x ≤ 1000000000) : (synT x i).2.ok ∧ sizeP (synT x i).2 ≤ sizeP x := by
  have := doT_ok (x := x) (c := ⟨1, i, .slice none 0 0, [], 0, .slice none 0 0, []⟩) h (by simp [inR]) (by simpa using hs)
  rw [doT_1 (by rfl)] at this
  exact this
theorem wipT_ok {x : Pt} (h : x.ok) {i : Int} (hs : sizeP x ≤ 1000000000) : (wipT x i).2.ok ∧ sizeP (wipT x i).2 ≤ sizeP x := by
  have := doT_ok (x := x) (c := ⟨2, i, .slice none 0 0, [], 0, .slice none 0 0, []⟩) h (by simp [inR]) (by simpa using hs)
  rw [doT_2 (by rfl)] at this
  exact this
theorem flpT_ok {x : Pt} (h : x.ok) (hs : sizeP x ≤ 1000000000) : (flpT x).2.ok ∧ sizeP (flpT x).2 ≤ sizeP x := by
  have := doT_ok (x := x) (c := ⟨3, 0, .slice none 0 0, [], 0, .slice none 0 0, []⟩) h (by simp [inR]) (by simpa using hs)
  rw [doT_3 (by rfl)] at this
  exact this
theorem writeT_ok {x : Pt} (h : x.ok) {k : KeptS} {p : List UInt8} (hs : sizeP x + p.length + 8 ≤ 1000000000) : (writeT x k p).2.1.ok ∧ sizeP (writeT x k p).2.1 ≤ sizeP x + p.length + 8 := by
  have hl := frame_len p
  have h1 := appT_ok h (i := x.live) (m := frameB p) (by omega)
  have h2 := synT_ok h1.1 (i := (appT x x.live (frameB p)).2.live) (by omega)
  unfold writeT
  split
  · exact ⟨h, by dsimp only; omega⟩
  · split
    · exact ⟨h1.1, by dsimp only; omega⟩
    · split
      · exact ⟨h2.1, by dsimp only; omega⟩
      · exact ⟨h2.1, by dsimp only; omega⟩
theorem layG_ok {x : Pt} (h : x.ok) {o : Int} {f : List UInt8} (hs : sizeP x + f.length ≤ 1000000000) : ∀ i, (layG o f x i).2.ok ∧ sizeP (layG o f x i).2 ≤ sizeP x + if i < 2 then 0 else f.length
  | 0 => ⟨h, by simp [layG]⟩
  | i + 1 => by
    obtain ⟨h1, h2⟩ := layG_ok h hs i
    unfold layG
    split
    · unfold layS
      have a1 := wipT_ok h1 (i := o) (by split at h2 <;> omega)
      have a3 := synT_ok h1 (i := o) (by split at h2 <;> omega)
      have a4 := flpT_ok h1 (by split at h2 <;> omega)
      have a5 := wipT_ok h1 (i := 1 - o) (by split at h2 <;> omega)
      by_cases i0 : i = 0
      · subst i0; simp at h2 ⊢; exact ⟨a1.1, by omega⟩
      · by_cases i1 : i = 1
        · subst i1
          have a2 := appT_ok h1 (i := o) (m := f) (by simp at h2; omega)
          simp at h2 ⊢
          exact ⟨a2.1, by omega⟩
        · rw [if_neg (by omega)] at h2
          rw [if_neg i0, if_neg i1, if_neg (show ¬ i + 1 < 2 by omega)]
          split
          · exact ⟨a3.1, by omega⟩
          · split
            · exact ⟨a4.1, by omega⟩
            · exact ⟨a5.1, by omega⟩
    · exact ⟨h1, by split at h2 <;> split <;> omega⟩
theorem payW_len {k : KeptS} (hk : k.ok) (hf : k.fine) : (payW k).length ≤ 180000 := by
  have hgr : gr = 1099511627776 := rfl
  obtain ⟨a1, a2, a3, a4, a5, a6, a7, a8, a9, a10, a11⟩ := hk
  have e0 := num_le 4 (by omega)
  have e1 := num_le k.view.toNat (by omega)
  have e2 := num_le k.normal.toNat (by omega)
  have e3 := num_le k.base.toNat (by omega)
  have e4 := num_le k.ents.length (by omega)
  have e5 := textB_len (s := k.state) (by omega)
  have e6 := entsB_len hf
  simp only [payW, List.length_append]
  omega
theorem payV_len {v : Nat} (hv : v ≤ 18446744073709551615) : (payV v).length ≤ 180000 := by
  have e0 := num_le 1 (by omega)
  have e1 := num_le v hv
  simp only [payV, List.length_append]
  omega
theorem payE_len {e : EntS} (h : e.ok) : (payE e).length ≤ 180000 := by
  have e0 := num_le 2 (by omega)
  have e1 := entB_len h
  simp only [payE, List.length_append]
  omega
theorem payA_len {v f : Nat} {es : List EntS} (hv : v ≤ 18446744073709551615) (hf : f ≤ 18446744073709551615) (h : ∀ e ∈ es, e.ok) (hn : es.length ≤ 32) : (payA v f es).length ≤ 180000 := by
  have e0 := num_le 3 (by omega)
  have e1 := num_le v hv
  have e2 := num_le f hf
  have e4 := num_le es.length (by omega)
  have e6 := entsB_len h
  simp only [payA, List.length_append]
  omega
theorem layT_ok {x : Pt} (h : x.ok) {k0 k : KeptS} (hf : k.fine) (hs : sizeP x + 180008 ≤ 1000000000) : (layT x k0 k).2.1.ok ∧ sizeP (layT x k0 k).2.1 ≤ sizeP x + 180008 := by
  unfold layT
  split
  · exact ⟨h, by dsimp only; omega⟩
  · rename_i hk
    have hk := Decidable.of_not_not hk
    have hl := payW_len hk hf
    have hfl := frame_len (payW k)
    have := layG_ok h (o := 1 - x.live) (f := frameB (payW k)) (by omega) 5
    rw [if_neg (by omega)] at this
    exact ⟨this.1, by dsimp only; omega⟩
theorem openT_ok {x : Pt} (h : x.ok) (hs : sizeP x + 180008 ≤ 1000000000) : (openT x).2.1.ok ∧ sizeP (openT x).2.1 ≤ sizeP x + 180008 := by
  unfold openT
  split
  · exact ⟨h, by dsimp only; omega⟩
  · split
    · exact ⟨h, by dsimp only; omega⟩
    · rename_i k hk
      have := layT_ok h (k0 := k) (k := k) (foldsK_fine zeroK_fine hk) hs
      split
      · exact this
      · exact ⟨h, by dsimp only; omega⟩
theorem openT_fine {x : Pt} : (openT x).2.2.fine ∧ (openT x).2.2.ok := by
  unfold openT
  split
  · exact ⟨zeroK_fine, zeroK_ok⟩
  · split
    · exact ⟨zeroK_fine, zeroK_ok⟩
    · rename_i k hk
      have h1 := foldsK_fine zeroK_fine hk
      have h2 := foldsK_ok zeroK_ok hk
      split
      · dsimp only
        split
        · exact ⟨h1, h2⟩
        · exact ⟨zeroK_fine, zeroK_ok⟩
      · exact ⟨h1, h2⟩
theorem writeT_fine {x : Pt} {k : KeptS} {p : List UInt8} (h : k.fine ∧ k.ok) : (writeT x k p).2.2.fine ∧ (writeT x k p).2.2.ok := by
  unfold writeT
  split
  · exact h
  · rename_i k' hk
    split
    · exact h
    · split
      · exact h
      · exact ⟨foldK_fine h.1 hk, foldK_ok hk⟩
theorem layT_fine {x : Pt} {k0 k : KeptS} (h0 : k0.fine ∧ k0.ok) (h : k.fine) : (layT x k0 k).2.2.fine ∧ (layT x k0 k).2.2.ok := by
  unfold layT
  split
  · exact h0
  · rename_i hk
    dsimp only
    split
    · exact ⟨h, Decidable.of_not_not hk⟩
    · exact h0
end VK

namespace VK
open Go Go.Proofs
set_option linter.unusedSimpArgs false
set_option linter.unusedVariables false
set_option maxRecDepth 100000
set_option maxHeartbeats 40000000
theorem app_at {x : Pt} {i : Nat} (hi : i = 0 ∨ i = 1) (hd : x.down = false) (m : List UInt8) : appT x (i : Int) m = (if x.armed = 1 then 170 else 0, (tick x).setB (i : Int) (x.b i ++ m)) := by
  rw [appT, chg_go (.inr (by omega)) hd (by omega) (by omega)]
  simp only [if_true, Int.toNat_natCast]
  rfl
theorem syn_at {x : Pt} {i : Nat} (hi : i = 0 ∨ i = 1) (hd : x.down = false) : synT x (i : Int) = if x.armed = 1 then (170, tick x) else (0, (tick x).setS (i : Int) (x.b i).length) := by
  rw [synT, chg_go (.inr (by omega)) hd (by omega) (by omega)]
  by_cases ha : x.armed = 1
  · simp [ha]
  · simp only [ha, if_false, if_true, Int.toNat_natCast]
    rfl
structure InvJ (x : Pt) (k : KeptS) : Prop where
  ok : x.ok
  down : x.down = false
  ps : ∃ ps, (∀ p ∈ ps, List.length p ≤ 262144) ∧ x.b x.live = fr ps ∧ x.s x.live = (fr ps).length ∧ foldsK zeroK ps = some k
structure DownJ (x : Pt) (k k' : KeptS) : Prop where
  ok : x.ok
  down : x.down = true
  ps : ∃ ps, (∀ p ∈ ps, List.length p ≤ 262144) ∧ x.s x.live = (fr ps).length ∧ ((x.b x.live = fr ps ∧ (foldsK zeroK ps = some k ∨ foldsK zeroK ps = some k')) ∨
    ∃ p, List.length p ≤ 262144 ∧ x.b x.live = fr ps ++ frameB p ∧ foldsK zeroK ps = some k ∧ foldK k p = some k')
theorem InvJ.k {x : Pt} {k : KeptS} (h : InvJ x k) : k.ok ∧ k.fine := by
  obtain ⟨ps, _, _, _, h4⟩ := h.ps
  exact ⟨foldsK_ok zeroK_ok h4, foldsK_fine zeroK_fine h4⟩
theorem inv_zero : InvJ zeroPt zeroK := ⟨⟨.inl rfl, Nat.le_refl _, Nat.le_refl _, Nat.zero_le _, Nat.zero_le _, Nat.zero_le _⟩, rfl, [], by simp, rfl, rfl, rfl⟩
theorem writeT_some {x : Pt} {k k' : KeptS} {p : List UInt8} (hf : foldK k p = some k') : writeT x k p = if (appT x x.live (frameB p)).1 ≠ 0 then ((appT x x.live (frameB p)).1, (appT x x.live (frameB p)).2, k) else
    if (synT (appT x x.live (frameB p)).2 (appT x x.live (frameB p)).2.live).1 ≠ 0 then ((synT (appT x x.live (frameB p)).2 (appT x x.live (frameB p)).2.live).1, (synT (appT x x.live (frameB p)).2 (appT x x.live (frameB p)).2.live).2, k) else
    (0, (synT (appT x x.live (frameB p)).2 (appT x x.live (frameB p)).2.live).2, k') := by
  unfold writeT; rw [hf]
theorem writeT_none {x : Pt} {k : KeptS} {p : List UInt8} (hf : foldK k p = none) : writeT x k p = (1, x, k) := by unfold writeT; rw [hf]
theorem write_up {x : Pt} {k k' : KeptS} {p : List UInt8} (h : InvJ x k) (hf : foldK k p = some k') (hl : p.length ≤ 262144) (hs : sizeP x + p.length + 8 ≤ 1000000000) :
    ((writeT x k p).1 = 0 ∧ (writeT x k p).2.2 = k' ∧ InvJ (writeT x k p).2.1 k' ∧ (writeT x k p).2.1.live = x.live ∧ (writeT x k p).2.1.b x.live = x.b x.live ++ frameB p ∧ (writeT x k p).2.1.armed = x.armed - 1 - 1) ∨ ((writeT x k p).1 = 170 ∧ (writeT x k p).2.2 = k ∧ DownJ (writeT x k p).2.1 k k' ∧ x.armed ≠ 0) := by
  have hok := (writeT_ok h.ok (k := k) (p := p) hs).1
  obtain ⟨ok, hd, ps, hp, hb, hsy, hk⟩ := h
  have hlv := ok.l
  have hps : ∀ q ∈ ps ++ [p], List.length q ≤ 262144 := fun q hq => by
    rcases List.mem_append.1 hq with hq | hq
    · exact hp q hq
    · rw [List.mem_singleton.1 hq]; exact hl
  have hfk : foldsK zeroK (ps ++ [p]) = some k' := by rw [foldsK_app, hk]; simp only [Option.bind_some, foldsK, hf]
  rw [writeT_some hf] at hok ⊢
  rw [app_at hlv hd] at hok ⊢
  obtain ⟨b0, s0, b1, s1, lv, am, dn⟩ := x
  dsimp only at hd hb hsy hlv
  subst hd
  by_cases h1 : am = 1
  · subst h1
    refine .inr ?_
    simp only [if_true] at hok ⊢
    rw [if_pos (by decide)] at hok ⊢
    refine ⟨rfl, rfl, ⟨hok, ?_, ps, hp, ?_⟩, by decide⟩
    · rcases hlv with rfl | rfl <;> rfl
    · rcases hlv with rfl | rfl
      · exact ⟨hsy, .inr ⟨p, hl, by rw [← hb]; rfl, hk, hf⟩⟩
      · exact ⟨hsy, .inr ⟨p, hl, by rw [← hb]; rfl, hk, hf⟩⟩
  · simp only [if_neg h1] at hok ⊢
    rw [if_neg (by decide)] at hok ⊢
    by_cases h2 : am = 2
    · subst h2
      refine .inr ?_
      rcases hlv with rfl | rfl
      · rw [show ((tick ⟨b0, s0, b1, s1, 0, 2, false⟩).setB ((0 : Nat) : Int) ((⟨b0, s0, b1, s1, 0, 2, false⟩ : Pt).b 0 ++ frameB p)) = ⟨b0 ++ frameB p, s0, b1, s1, 0, 1, false⟩ from rfl] at hok ⊢
        rw [syn_at (i := 0) (.inl rfl) rfl] at hok ⊢
        rw [if_pos rfl] at hok ⊢
        rw [if_pos (show (170 : Int) ≠ 0 by decide)] at hok ⊢
        exact ⟨rfl, rfl, ⟨hok, rfl, ps, hp, hsy, .inr ⟨p, hl, by rw [← hb]; rfl, hk, hf⟩⟩, by decide⟩
      · rw [show ((tick ⟨b0, s0, b1, s1, 1, 2, false⟩).setB ((1 : Nat) : Int) ((⟨b0, s0, b1, s1, 1, 2, false⟩ : Pt).b 1 ++ frameB p)) = ⟨b0, s0, b1 ++ frameB p, s1, 1, 1, false⟩ from rfl] at hok ⊢
        rw [syn_at (i := 1) (.inr rfl) rfl] at hok ⊢
        rw [if_pos rfl] at hok ⊢
        rw [if_pos (show (170 : Int) ≠ 0 by decide)] at hok ⊢
        exact ⟨rfl, rfl, ⟨hok, rfl, ps, hp, hsy, .inr ⟨p, hl, by rw [← hb]; rfl, hk, hf⟩⟩, by decide⟩
    · refine .inl ?_
      have h3 : decide (am = 1) = false := decide_eq_false h1
      have h4 : am - 1 ≠ 1 := by omega
      have h5 : decide (am - 1 = 1) = false := decide_eq_false h4
      rcases hlv with rfl | rfl
      · rw [show ((tick ⟨b0, s0, b1, s1, 0, am, false⟩).setB ((0 : Nat) : Int) ((⟨b0, s0, b1, s1, 0, am, false⟩ : Pt).b 0 ++ frameB p)) = ⟨b0 ++ frameB p, s0, b1, s1, 0, am - 1, decide (am = 1)⟩ from rfl, h3] at hok ⊢
        rw [syn_at (i := 0) (.inl rfl) rfl] at hok ⊢
        rw [if_neg h4] at hok ⊢
        rw [if_neg (show ¬ (0 : Int) ≠ 0 by decide)] at hok ⊢
        refine ⟨rfl, rfl, ⟨hok, h5, ps ++ [p], hps, ?_, ?_, hfk⟩, rfl, rfl, rfl⟩
        · rw [fr_snoc, ← hb]; rfl
        · rw [fr_snoc, ← hb]; rfl
      · rw [show ((tick ⟨b0, s0, b1, s1, 1, am, false⟩).setB ((1 : Nat) : Int) ((⟨b0, s0, b1, s1, 1, am, false⟩ : Pt).b 1 ++ frameB p)) = ⟨b0, s0, b1 ++ frameB p, s1, 1, am - 1, decide (am = 1)⟩ from rfl, h3] at hok ⊢
        rw [syn_at (i := 1) (.inr rfl) rfl] at hok ⊢
        rw [if_neg h4] at hok ⊢
        rw [if_neg (show ¬ (0 : Int) ≠ 0 by decide)] at hok ⊢
        refine ⟨rfl, rfl, ⟨hok, h5, ps ++ [p], hps, ?_, ?_, hfk⟩, rfl, rfl, rfl⟩
        · rw [fr_snoc, ← hb]; rfl
        · rw [fr_snoc, ← hb]; rfl
theorem scan_fr {ps : List (List UInt8)} (h : ∀ p ∈ ps, p.length ≤ 262144) : scanR (fr ps) = (ps, (fr ps).length) := by
  have h1 := scan_torn (k := (fr ps).length) h
  have h2 : torn ps (fr ps).length = ps.length := by
    rcases Nat.eq_zero_or_pos ps.length with h0 | h0
    · have := List.eq_nil_of_length_eq_zero h0; subst this; rfl
    · have h3 := (torn_iff (ps := ps) (k := (fr ps).length) (n := ps.length - 1) (by omega)).1 (fr_take_le ps _)
      have := torn_le ps (fr ps).length
      omega
  rwa [h2, List.take_length, List.take_length] at h1
theorem rd_live {x : Pt} (h : x.ok) : rdT x x.live = x.b x.live := by
  rcases h.l with e | e <;> rw [e] <;> rfl
theorem open_inv {x : Pt} {k : KeptS} (h : InvJ x k) : openT x = (0, x, k) := by
  obtain ⟨ok, hd, ps, hp, hb, hsy, hks⟩ := h
  unfold openT
  rw [hd, if_neg (by decide), rd_live ok, hb, scan_fr hp]
  dsimp only
  rw [hks]
  dsimp only
  rw [if_neg (by omega)]
theorem cut_ok {x : Pt} (h : x.ok) (ks : List Int) : (cutT x ks).ok ∧ sizeP (cutT x ks) ≤ sizeP x := by
  have c0 := cut_le ks 0 x.b0 x.s0
  have c1 := cut_le ks 1 x.b1 x.s1
  have a4 := h.n0
  have a5 := h.n1
  exact ⟨⟨h.l, Nat.le_refl _, Nat.le_refl _, Nat.le_trans c0 a4, Nat.le_trans c1 a5, Nat.zero_le _⟩, by simp [cutT, sizeP]; omega⟩
end VK

namespace VK
open Go Go.Proofs
set_option linter.unusedSimpArgs false
set_option linter.unusedVariables false
set_option maxRecDepth 100000
set_option maxHeartbeats 40000000
abbrev fkB (k : KeptS) (ve : Value) : Blk := ⟨kC k.view k.normal k.base k.state ve, 121⟩
def FoldR (F : List Atom) (l : List (Value × Row)) (f i : Nat) (r : Option KeptS) : Value → List Atom → Prop := fun v L' => ∃ k' ve' s', v = .tuple #[] ∧ L' = inA i s' :: blk f (fkB k' ve') :: rom ((ve', entR k'.ents) :: l) :: F ∧ r = finK k' s' ∧ k'.fine ∧ k'.ents.length ≤ 64 ∧ k'.state.length ≤ 65536
def FoldP (F : List Atom) (l : List (Value × Row)) (r : Option KeptS) : List PanicEntry → List Atom → Prop := fun ch L' => MisP (rom l :: F) ch L' ∧ r = none
theorem pan_fold {c : Cx} {E : Env} {F F' L : List Atom} {l : List (Value × Row)} {r : Option KeptS} {ch : List PanicEntry} (h : MisP F' ch L) (hE : Ent F' (rom l :: F)) (hp : r = none) (hR : c.RP = FoldP F l r := by rfl) (hD : c.D = [] := by rfl) (hQ : c.Qo = none := by rfl) : Pan c E ch L := pan_here (Ent.refl _) (by rw [hR]; exact ⟨⟨h.1, h.2.trans hE⟩, hp⟩) hD hQ
theorem romDup {x : Value × Row} {l : List (Value × Row)} {L : List Atom} : Ent (rom (x :: l) :: L) (rom (x :: x :: l) :: L) := Ent.romSub fun h q => by
  unfold rom at *
  intro y hy
  rcases List.mem_cons.1 hy with rfl | hy
  · exact q _ (List.mem_cons_self ..)
  · exact q y hy
theorem fV_c (F : List Atom) (l : List (Value × Row)) (f i : Nat) (s : InS) (view normal base : Int) (state : List UInt8) (ve : Value) (es : List EntS) (hf : ∀ e ∈ es, e.ok) (hl : es.length ≤ 32) (hs : state.length ≤ 65536) :
    FnP Try.prog 68 [.pointer (some ⟨f, 0, none⟩), .pointer (some ⟨i, 0, none⟩)] (inA i s :: blk f ⟨kC view normal base state ve, 121⟩ :: rom ((ve, entR es) :: l) :: F)
    (FoldR F ((ve, entR es) :: l) f i (foldV ⟨view, normal, base, state, es⟩ s)) (FoldP F ((ve, entR es) :: l) (foldV ⟨view, normal, base, state, es⟩ s)) := by
  have hgr : gr = 1099511627776 := rfl
  have hN : gr < ((numR s).1 : Int) ∨ ((numR s).1 : Int) ≤ view → foldV ⟨view, normal, base, state, es⟩ s = none := fun h => if_pos h
  have hS : ¬ (gr < ((numR s).1 : Int) ∨ ((numR s).1 : Int) ≤ view) → foldV ⟨view, normal, base, state, es⟩ s = finK ⟨(numR s).1, normal, base, state, es⟩ (numR s).2 := fun h => if_neg h
  refine fn_introP Try.func68 rfl Try.ntmps68 rfl (fun W0 => ?_)
  simp only [argE]
  refine rS ?_
  refine rR (id := 0) ?_
  refine oG (gM (evv rfl)) rfl rfl ?_
  refine o_callP rfl _ (Ent.refl _) (number_c _ i s) rfl (fun ch L' h => pan_fold h.1 Ent.drop (hN (.inl h.2))) ?_
  rintro _ _ ⟨rfl, rfl, hv⟩
  refine oG (gA (evv rfl)) rfl rfl ?_
  refine oN ?_
  refine cC ?_
  refine rS ?_
  refine rR (id := 1) ?_
  refine oG (gM (evv rfl)) rfl rfl ?_
  refine oG (gM (evv rfl)) rfl rfl ?_
  refine oG (g_nil (evv rfl)) rfl rfl ?_
  refine oG (g_fld (evv rfl)) rfl rfl ?_
  refine oG (g_fld (evv rfl)) rfl rfl ?_
  refine oG (g_load (evv rfl) (by rfl) (by rfl)) rfl rfl ?_
  refine oG (g_bin (evv rfl) (evv rfl) (by rfl)) rfl rfl ?_
  by_cases hn : view < ((numR s).1 : Int)
  · simp only [decide_eq_true hn]
    (refine o_callP rfl _ (Ent.refl _) (must_t _ (fun _ _ => False)) rfl (fun _ _ h => h.elim) ?_; rintro _ _ ⟨rfl, rfl⟩)
    refine oN ?_
    refine cC ?_
    refine rR (id := 2) ?_
    refine oG (gM (evv rfl)) rfl rfl ?_
    refine oG (gM (evv rfl)) rfl rfl ?_
    refine oG (g_nil (evv rfl)) rfl rfl ?_
    refine oG (g_fld (evv rfl)) rfl rfl ?_
    refine oG (g_fld (evv rfl)) rfl rfl ?_
    refine o_store1 (evv rfl) (evv rfl) (by rfl) (by rfl) (by rfl) ?_
    refine oN ?_
    first | refine r_ret (rs := []) rfl rfl _ ((Ent.cons (Ent.cons romDup))) ?_ | refine c_end (rs := []) rfl rfl _ ((Ent.cons (Ent.cons romDup))) ?_
    exact ⟨⟨(numR s).1, normal, base, state, es⟩, ve, _, rfl, rfl, hS (by omega), hf, by dsimp only; omega, hs⟩
  · simp only [decide_eq_false hn]
    exact o_callP rfl _ (Ent.refl _) (must_f _ (fun _ _ => False)) rfl (fun ch L' h => pan_fold h (Ent.drop.trans Ent.drop) (hN (by omega))) (fun _ _ h => h.elim)
theorem fE_c (F : List Atom) (l : List (Value × Row)) (f i : Nat) (s : InS) (view normal base : Int) (state : List UInt8) (ve : Value) (es : List EntS) (hf : ∀ e ∈ es, e.ok) (hl : es.length ≤ 32) (hs : state.length ≤ 65536) :
    FnP Try.prog 69 [.pointer (some ⟨f, 0, none⟩), .pointer (some ⟨i, 0, none⟩)] (inA i s :: blk f ⟨kC view normal base state ve, 121⟩ :: rom ((ve, entR es) :: l) :: F)
    (FoldR F ((ve, entR es) :: l) f i (foldE ⟨view, normal, base, state, es⟩ s)) (FoldP F ((ve, entR es) :: l) (foldE ⟨view, normal, base, state, es⟩ s)) := by
  have hN : (32 < 1 ∨ entsR 1 s = none) → foldE ⟨view, normal, base, state, es⟩ s = none := fun h => by
    rcases h with h | h
    · omega
    · unfold foldE; rw [h]
  have hS : ∀ l1 s', entsR 1 s = some (l1, s') → foldE ⟨view, normal, base, state, es⟩ s = finK ⟨view, normal, base, state, es ++ l1⟩ s' := fun l1 s' h => by unfold foldE; rw [h]
  refine fn_introP Try.func69 rfl Try.ntmps69 rfl (fun W0 => ?_)
  simp only [argE]
  haveI hrd : ∀ X Y, Rd (X :: Y :: rom ((ve, entR es) :: l) :: F) ve (entR es) := fun X Y => inferInstance
  refine rR (id := 0) ?_
  refine oG (gM (evv rfl)) rfl rfl ?_
  refine oG (gM (evv rfl)) rfl rfl ?_
  refine oG (g_nil (evv rfl)) rfl rfl ?_
  refine oG (g_fld (evv rfl)) rfl rfl ?_
  refine oG (g_fld (evv rfl)) rfl rfl ?_
  refine oG (g_load (evv rfl) (by rfl) (by rfl)) rfl rfl ?_
  (refine o_call rfl _ (Ent.refl _) (ClE_c _ _ _) rfl ?_; rintro _ _ ⟨rfl, rfl⟩)
  refine oG (gM (evv rfl)) rfl rfl ?_
  refine o_callP rfl _ (Ent.refl _) (getEntries_c _ i s 1 (by omega)) rfl (fun ch L' h => pan_fold h.1 Ent.drop (hN h.2)) ?_
  rintro v1 _ ⟨l1, s', rfl, -, hl1⟩
  have hll := entsR_len hl1
  have hok := entsR_ok hl1
  refine o_appRomF (evv rfl) (evv rfl) (by rfl) (by rfl) (by rfl) (by (try simp only [bsOf, List.length_append, List.length_cons, List.length_nil, List.length_take, List.length_drop, List.length_drop, List.length_map, List.length_range]); omega) rfl (fun _ => ?_)
  refine oG (g_nil (evv rfl)) rfl rfl ?_
  refine oG (g_fld (evv rfl)) rfl rfl ?_
  refine oG (g_fld (evv rfl)) rfl rfl ?_
  refine o_store1 (evv rfl) (evv rfl) (by rfl) (by rfl) (by rfl) ?_
  refine oN ?_
  rename_i v2
  first | refine r_ret (rs := []) rfl rfl _ (Ent.drop) ?_ | refine c_end (rs := []) rfl rfl _ (Ent.drop) ?_
  refine ⟨⟨view, normal, base, state, es ++ l1⟩, v2, s', rfl, rfl, hS _ _ hl1, fun e he => ?_, by simp only [List.length_append]; omega, hs⟩
  rcases List.mem_append.1 he with he | he
  · exact hf e he
  · exact hok e he
theorem fA_c (F : List Atom) (l : List (Value × Row)) (f i : Nat) (s : InS) (view normal base : Int) (state : List UInt8) (ve : Value) (es : List EntS) (hf : ∀ e ∈ es, e.ok) (hl : es.length ≤ 32) (hs : state.length ≤ 65536) (hb0 : 0 ≤ base) (hb1 : base ≤ gr) :
    FnP Try.prog 70 [.pointer (some ⟨f, 0, none⟩), .pointer (some ⟨i, 0, none⟩)] (inA i s :: blk f ⟨kC view normal base state ve, 121⟩ :: rom ((ve, entR es) :: l) :: F)
    (FoldR F ((ve, entR es) :: l) f i (foldA ⟨view, normal, base, state, es⟩ s)) (FoldP F ((ve, entR es) :: l) (foldA ⟨view, normal, base, state, es⟩ s)) := by
  have hgr : gr = 1099511627776 := rfl
  generalize hv : (numR s).1 = v
  generalize hf' : (numR (numR s).2).1 = fr
  have hN : gr < (v : Int) ∨ gr < (fr : Int) ∨ (v : Int) < view ∨ (fr : Int) < base ∨ base + es.length < fr → foldA ⟨view, normal, base, state, es⟩ s = none := fun h => if_pos (by rw [hv, hf']; exact h)
  have hN2 : (32 < (numR (numR (numR s).2).2).1 ∨ entsR (numR (numR (numR s).2).2).1 (numR (numR (numR s).2).2).2 = none) → foldA ⟨view, normal, base, state, es⟩ s = none := fun h => by
    have : manyR (numR (numR s).2).2 = none := by
      unfold manyR
      rcases h with h | h
      · exact if_pos h
      · rw [h]; split <;> rfl
    unfold foldA
    rw [this]
    split <;> rfl
  have hS : ∀ l1 s', ¬ (gr < (v : Int) ∨ gr < (fr : Int) ∨ (v : Int) < view ∨ (fr : Int) < base ∨ base + es.length < fr) → (numR (numR (numR s).2).2).1 ≤ 32 → entsR (numR (numR (numR s).2).2).1 (numR (numR (numR s).2).2).2 = some (l1, s') →
      foldA ⟨view, normal, base, state, es⟩ s = finK ⟨v, v, base, state, es.take ((fr : Int) - base).toNat ++ l1⟩ s' := fun l1 s' h h1 h2 => by
    have : manyR (numR (numR s).2).2 = some (l1, s') := by unfold manyR; rw [if_neg (by omega), h2]
    unfold foldA
    rw [if_neg (by rw [hv, hf']; exact h), this, hv, hf']
  refine fn_introP Try.func70 rfl Try.ntmps70 rfl (fun W0 => ?_)
  simp only [argE]
  refine rS ?_
  refine rR (id := 0) ?_
  refine oG (gM (evv rfl)) rfl rfl ?_
  refine o_callP rfl _ (Ent.refl _) (number_c _ i s) rfl (fun ch L' h => pan_fold h.1 Ent.drop (hN (by have := h.2; omega))) ?_
  rintro _ _ ⟨rfl, rfl, hv1⟩
  refine oG (gM (evv rfl)) rfl rfl ?_
  refine o_callP rfl _ (Ent.refl _) (number_c _ i _) rfl (fun ch L' h => pan_fold h.1 Ent.drop (hN (by have := h.2; omega))) ?_
  rintro _ _ ⟨rfl, rfl, hv2⟩
  rw [hv, hf']
  rw [hv] at hv1
  rw [hf'] at hv2
  refine oG (gA (evv rfl)) rfl rfl ?_
  refine oG (gA (evv rfl)) rfl rfl ?_
  refine oN ?_
  refine cC ?_
  refine rS ?_
  by_cases h1 : view ≤ (v : Int)
  · have d1 := decide_eq_true h1
    by_cases h2 : base ≤ (fr : Int)
    · have d2 := decide_eq_true h2
      refine rR (id := 1) ?_
      refine oG (gM (evv rfl)) rfl rfl ?_
      refine oG (gM (evv rfl)) rfl rfl ?_
      refine oG (g_nil (evv rfl)) rfl rfl ?_
      refine oG (g_fld (evv rfl)) rfl rfl ?_
      refine oG (g_fld (evv rfl)) rfl rfl ?_
      refine oG (g_load (evv rfl) (by rfl) (by rfl)) rfl rfl ?_
      refine oG (g_bin (evv rfl) (evv rfl) (by rfl)) rfl rfl ?_
      refine oG (gM (evv rfl)) rfl rfl ?_
      refine o_lazy rfl (fun hg => gM (by first | exact evv rfl | exact evg rfl (by rw [hp]; rfl) | exact evg rfl hp | exact evg rfl hg | exact evg rfl (by first | (simp_all; done) | (simp [*]; done) | fail) | fail)) rfl rfl ?_
      refine o_lazy rfl (fun hg => gM (by first | exact evv rfl | exact evg rfl (by rw [hp]; rfl) | exact evg rfl hp | exact evg rfl hg | exact evg rfl (by first | (simp_all; done) | (simp [*]; done) | fail) | fail)) rfl rfl ?_
      refine o_lazy rfl (fun hg => g_nil (by first | exact evv rfl | exact evg rfl (by rw [hp]; rfl) | exact evg rfl hp | exact evg rfl hg | exact evg rfl (by first | (simp_all; done) | (simp [*]; done) | fail) | fail)) rfl rfl ?_
      refine o_lazy rfl (fun hg => g_fld (evg rfl hg)) rfl rfl ?_
      refine o_lazy rfl (fun hg => g_fld (evg rfl hg)) rfl rfl ?_
      refine o_lazy rfl (fun hg => g_load (evg rfl hg) (by rfl) (by rfl)) rfl rfl ?_
      refine o_lazy rfl (fun hg => g_bin (by first | exact evv rfl | exact evg rfl (by rw [hp]; rfl) | exact evg rfl hp | exact evg rfl hg | exact evg rfl (by first | (simp_all; done) | (simp [*]; done) | fail) | fail) (by first | exact evv rfl | exact evg rfl (by rw [hp]; rfl) | exact evg rfl hp | exact evg rfl hg | exact evg rfl (by first | (simp_all; done) | (simp [*]; done) | fail) | fail) (by rfl)) rfl rfl ?_
      refine oG (g_pick_and (evv rfl) (evv rfl) (fun hp => (by first | exact evv rfl | exact evg rfl (by rw [hp]; rfl) | exact evg rfl hp | exact evg rfl hg | exact evg rfl (by first | (simp_all; done) | (simp [*]; done) | fail) | fail))) rfl rfl ?_
      refine oG (gM (evv rfl)) rfl rfl ?_
      refine o_lazy rfl (fun hg => gM (by first | exact evv rfl | exact evg rfl (by rw [hp]; rfl) | exact evg rfl hp | exact evg rfl hg | exact evg rfl (by first | (simp_all; done) | (simp [*]; done) | fail) | fail)) rfl rfl ?_
      refine o_lazy rfl (fun hg => gM (by first | exact evv rfl | exact evg rfl (by rw [hp]; rfl) | exact evg rfl hp | exact evg rfl hg | exact evg rfl (by first | (simp_all; done) | (simp [*]; done) | fail) | fail)) rfl rfl ?_
      refine o_lazy rfl (fun hg => g_nil (by first | exact evv rfl | exact evg rfl (by rw [hp]; rfl) | exact evg rfl hp | exact evg rfl hg | exact evg rfl (by first | (simp_all; done) | (simp [*]; done) | fail) | fail)) rfl rfl ?_
      refine o_lazy rfl (fun hg => g_fld (evg rfl hg)) rfl rfl ?_
      refine o_lazy rfl (fun hg => g_loadF (evg rfl hg) (by rfl) (by rfl)) rfl rfl ?_
      simp only [d1, d2, Bool.and_self]
      refine o_sure (t := 31) rfl rfl ?_
      refine o_gyes rfl ?_
      (refine o_call rfl _ (Ent.refl _) (jLast_c _ _ _ _ _ _ _ (by first | assumption | omega) (by first | assumption | omega) (by first | assumption | omega)) rfl ?_; rintro _ _ ⟨rfl, hLz⟩; obtain rfl := hLz.symm; clear hLz)
      refine o_lazy rfl (fun hg => g_bin (by first | exact evv rfl | exact evg rfl (by rw [hp]; rfl) | exact evg rfl hp | exact evg rfl hg | exact evg rfl (by first | (simp_all; done) | (simp [*]; done) | fail) | fail) (by first | exact evv rfl | exact evg rfl (by rw [hp]; rfl) | exact evg rfl hp | exact evg rfl hg | exact evg rfl (by first | (simp_all; done) | (simp [*]; done) | fail) | fail) (by rfl)) rfl rfl ?_
      refine oG (g_pick_and (evv rfl) (evv rfl) (fun hp => (by first | exact evv rfl | exact evg rfl (by rw [hp]; rfl) | exact evg rfl hp | exact evg rfl hg | exact evg rfl (by first | (simp_all; done) | (simp [*]; done) | fail) | fail))) rfl rfl ?_
      by_cases h3 : (fr : Int) ≤ base + es.length
      · simp only [decide_eq_true h3]
        (refine o_callP rfl _ (Ent.refl _) (must_t _ (fun _ _ => False)) rfl (fun _ _ h => h.elim) ?_; rintro _ _ ⟨rfl, rfl⟩)
        refine oN ?_
        refine cC ?_
        refine rS ?_
        refine rR (id := 2) ?_
        refine oG (gM (evv rfl)) rfl rfl ?_
        refine oG (gM (evv rfl)) rfl rfl ?_
        refine oG (gM (evv rfl)) rfl rfl ?_
        refine oG (gM (evv rfl)) rfl rfl ?_
        refine oG (g_nil (evv rfl)) rfl rfl ?_
        refine oG (g_fld (evv rfl)) rfl rfl ?_
        refine oG (g_fld (evv rfl)) rfl rfl ?_
        refine o_store1 (evv rfl) (evv rfl) (by rfl) (by rfl) (by rfl) ?_
        refine oG (g_nil (evv rfl)) rfl rfl ?_
        refine oG (g_fld (evv rfl)) rfl rfl ?_
        refine oG (g_fld (evv rfl)) rfl rfl ?_
        refine o_store1 (evv rfl) (evv rfl) (by rfl) (by rfl) (by rfl) ?_
        refine oN ?_
        refine cC ?_
        have hpan := hN2
        have hlen : (es.take ((fr : Int) - base).toNat).length ≤ 32 := by rw [List.length_take]; omega
        repeat (first | refine rS ?_ | refine cC ?_ | refine c_blk ?_ | refine r_block ?_ | refine r_skip ?_)
        refine r_heldz (id := 3) 23 [blk f ⟨kC v v base state ve, 121⟩, rom ((ve, entR es) :: l)] Mixed.h ?_
        refine z_give (U := [23]) (i := 0) (by kernel_rfl) rfl (gM (evv rfl)) rfl rfl ?_
        refine z_give (U := [23]) (i := 1) (by kernel_rfl) rfl (gM (evv rfl)) rfl rfl ?_
        refine z_give (U := [23]) (i := 2) (by kernel_rfl) rfl (g_nil (evv rfl)) rfl rfl ?_
        refine z_give (U := [23]) (i := 3) (by kernel_rfl) rfl (g_fld (evv rfl)) rfl rfl ?_
        refine z_give (U := [23]) (i := 4) (by kernel_rfl) rfl (g_fld (evv rfl)) rfl rfl ?_
        refine z_give (U := [23]) (i := 5) (by kernel_rfl) rfl (g_load (evv rfl) (by rfl) (by rfl)) rfl rfl ?_
        refine z_give (U := [23]) (i := 6) (by kernel_rfl) rfl (gM (evv rfl)) rfl rfl ?_
        refine z_give (U := [23]) (i := 7) (by kernel_rfl) rfl (gM (evv rfl)) rfl rfl ?_
        refine z_give (U := [23]) (i := 8) (by kernel_rfl) rfl (g_nil (evv rfl)) rfl rfl ?_
        refine z_give (U := [23]) (i := 9) (by kernel_rfl) rfl (g_fld (evv rfl)) rfl rfl ?_
        refine z_give (U := [23]) (i := 10) (by kernel_rfl) rfl (g_fld (evv rfl)) rfl rfl ?_
        refine z_give (U := [23]) (i := 11) (by kernel_rfl) rfl (g_load (evv rfl) (by rfl) (by rfl)) rfl rfl ?_
        refine z_giveN (U := [23]) (i := 12) (by kernel_rfl) rfl (g_bin (evv rfl) (evv rfl) (by rfl)) (by simp only [inR]; omega) rfl ?_
        refine z_give (U := [23]) (i := 13) (by kernel_rfl) rfl (g_subF (evv rfl) _ _ bnd_none (bnd_to (evv rfl) (by omega)) (by rfl) (by omega) (by first | omega | (simp only [List.length_append, List.length_cons, List.length_nil, List.length_set, List.length_map]; omega))) rfl rfl ?_
        refine z_give (U := [23]) (i := 15) (by kernel_rfl) rfl (gM (evv rfl)) rfl rfl ?_
        refine z_give (U := [23]) (i := 16) (by kernel_rfl) rfl (gM (evv rfl)) rfl rfl ?_
        refine z_one (i := 14) (by kernel_rfl) rfl (Lay.ent) ?_
        (refine o_call rfl _ (Ent.refl _) (CoE_c _ _ _ (by first | assumption | omega | (simp only [List.length_take, List.length_drop]; omega))) rfl ?_; rintro _ _ rfl)
        refine oN ?_
        refine z_one (i := 17) (by kernel_rfl) rfl (Lay.ent) ?_
        (refine o_call rfl _ (Ent.refl _) inNum_l rfl ?_; rintro _ _ ⟨rfl, rfl⟩)
        refine oN ?_
        refine z_one (i := 18) (by kernel_rfl) rfl (Lay.ent) ?_
        (refine o_callP rfl _ (PickR.ent (K := inA _)) (getEntries_c _ _ _ _ (numR_le _)) rfl (fun ch L' h => pan_fold h.1 Lay.ent (hpan h.2)) ?_; rintro ev _ ⟨el, es', rfl, hn32, hes⟩; have hel := entsR_len hes)
        refine oN ?_
        refine z_one (i := 19) (by kernel_rfl) rfl (Lay.ent) ?_
        refine o_appF (evv rfl) (evv rfl) (by rfl) (by rfl) (by rfl) (by (try simp only [bsOf, List.length_append, List.length_cons, List.length_nil, List.length_take, List.length_drop, List.length_drop, List.length_map, List.length_range]); omega) rfl (fun _ => ?_)
        refine oN ?_
        refine z_give (U := [23, 22, 21]) (i := 20) (by kernel_rfl) rfl (g_nil (evv rfl)) rfl rfl ?_
        refine z_give (U := [23, 22]) (i := 21) (by kernel_rfl) rfl (g_fld (evv rfl)) rfl rfl ?_
        refine z_give (U := [23]) (i := 22) (by kernel_rfl) rfl (g_fld (evv rfl)) rfl rfl ?_
        refine z_one (i := 23) (by kernel_rfl) rfl (Lay.ent) ?_
        refine o_store1 (evv rfl) (evv rfl) (by rfl) (by rfl) (by rfl) ?_
        refine oN ?_
        refine z_done (by kernel_rfl) (by kernel_rfl) ?_
        rename_i v9
        have hok := entsR_ok hes
        have hSS := hS el es' (by omega) hn32 hes
        rw [Nat.sub_zero, List.drop_zero]
        refine c_end (rs := []) rfl rfl _ ((Lay.ent (L' := sl v9 (entR (es.take ((fr : Int) - base).toNat ++ el)) :: rom ((ve, entR es) :: l) :: inA i es' :: blk f ⟨kC v v base state v9, 121⟩ :: F)).trans (Ent.romIn.trans (Lay.ent (L' := inA i es' :: blk f ⟨kC v v base state v9, 121⟩ :: rom ((v9, entR (es.take ((fr : Int) - base).toNat ++ el)) :: (ve, entR es) :: l) :: F)))) ?_
        refine ⟨⟨v, v, base, state, es.take ((fr : Int) - base).toNat ++ el⟩, v9, es', rfl, rfl, hSS, fun e he => ?_, by simp only [List.length_append]; omega, hs⟩
        rcases List.mem_append.1 he with he | he
        · exact hf e (List.mem_of_mem_take he)
        · exact hok e he
      · simp only [decide_eq_false h3]
        exact o_callP rfl _ (Ent.refl _) (must_f _ (fun _ _ => False)) rfl (fun ch L' h => pan_fold h (Lay.ent) (hN (by omega))) (fun _ _ h => h.elim)
    · refine rR (id := 1) ?_
      refine oG (gM (evv rfl)) rfl rfl ?_
      refine oG (gM (evv rfl)) rfl rfl ?_
      refine oG (g_nil (evv rfl)) rfl rfl ?_
      refine oG (g_fld (evv rfl)) rfl rfl ?_
      refine oG (g_fld (evv rfl)) rfl rfl ?_
      refine oG (g_load (evv rfl) (by rfl) (by rfl)) rfl rfl ?_
      refine oG (g_bin (evv rfl) (evv rfl) (by rfl)) rfl rfl ?_
      refine oG (gM (evv rfl)) rfl rfl ?_
      refine o_lazy rfl (fun hg => gM (by first | exact evv rfl | exact evg rfl (by rw [hp]; rfl) | exact evg rfl hp | exact evg rfl hg | exact evg rfl (by first | (simp_all; done) | (simp [*]; done) | fail) | fail)) rfl rfl ?_
      refine o_lazy rfl (fun hg => gM (by first | exact evv rfl | exact evg rfl (by rw [hp]; rfl) | exact evg rfl hp | exact evg rfl hg | exact evg rfl (by first | (simp_all; done) | (simp [*]; done) | fail) | fail)) rfl rfl ?_
      refine o_lazy rfl (fun hg => g_nil (by first | exact evv rfl | exact evg rfl (by rw [hp]; rfl) | exact evg rfl hp | exact evg rfl hg | exact evg rfl (by first | (simp_all; done) | (simp [*]; done) | fail) | fail)) rfl rfl ?_
      refine o_lazy rfl (fun hg => g_fld (evg rfl hg)) rfl rfl ?_
      refine o_lazy rfl (fun hg => g_fld (evg rfl hg)) rfl rfl ?_
      refine o_lazy rfl (fun hg => g_load (evg rfl hg) (by rfl) (by rfl)) rfl rfl ?_
      refine o_lazy rfl (fun hg => g_bin (by first | exact evv rfl | exact evg rfl (by rw [hp]; rfl) | exact evg rfl hp | exact evg rfl hg | exact evg rfl (by first | (simp_all; done) | (simp [*]; done) | fail) | fail) (by first | exact evv rfl | exact evg rfl (by rw [hp]; rfl) | exact evg rfl hp | exact evg rfl hg | exact evg rfl (by first | (simp_all; done) | (simp [*]; done) | fail) | fail) (by rfl)) rfl rfl ?_
      refine oG (g_pick_and (evv rfl) (evv rfl) (fun hp => (by first | exact evv rfl | exact evg rfl (by rw [hp]; rfl) | exact evg rfl hp | exact evg rfl hg | exact evg rfl (by first | (simp_all; done) | (simp [*]; done) | fail) | fail))) rfl rfl ?_
      refine oG (gM (evv rfl)) rfl rfl ?_
      refine o_lazy rfl (fun hg => gM (by first | exact evv rfl | exact evg rfl (by rw [hp]; rfl) | exact evg rfl hp | exact evg rfl hg | exact evg rfl (by first | (simp_all; done) | (simp [*]; done) | fail) | fail)) rfl rfl ?_
      refine o_lazy rfl (fun hg => gM (by first | exact evv rfl | exact evg rfl (by rw [hp]; rfl) | exact evg rfl hp | exact evg rfl hg | exact evg rfl (by first | (simp_all; done) | (simp [*]; done) | fail) | fail)) rfl rfl ?_
      refine o_lazy rfl (fun hg => g_nil (by first | exact evv rfl | exact evg rfl (by rw [hp]; rfl) | exact evg rfl hp | exact evg rfl hg | exact evg rfl (by first | (simp_all; done) | (simp [*]; done) | fail) | fail)) rfl rfl ?_
      refine o_lazy rfl (fun hg => g_fld (evg rfl hg)) rfl rfl ?_
      refine o_lazy rfl (fun hg => g_loadF (evg rfl hg) (by rfl) (by rfl)) rfl rfl ?_
      simp only [d1, decide_eq_false h2, Bool.and_false]
      refine o_lazy (v0 := undef) rfl (fun hg => absurd hg (by first | (simp; done) | fail)) rfl rfl ?_
      refine o_lazy (v0 := undef) rfl (fun hg => absurd hg (by first | (simp; done) | fail)) rfl rfl ?_
      refine oG (g_pick (b := false) (evv rfl) (fun h => by cases h) (fun _ => (evv rfl))) rfl rfl ?_
      exact o_callP rfl _ (Ent.refl _) (must_f _ (fun _ _ => False)) rfl (fun ch L' h => pan_fold h (Lay.ent) (hN (by omega))) (fun _ _ h => h.elim)
  · refine rR (id := 1) ?_
    refine oG (gM (evv rfl)) rfl rfl ?_
    refine oG (gM (evv rfl)) rfl rfl ?_
    refine oG (g_nil (evv rfl)) rfl rfl ?_
    refine oG (g_fld (evv rfl)) rfl rfl ?_
    refine oG (g_fld (evv rfl)) rfl rfl ?_
    refine oG (g_load (evv rfl) (by rfl) (by rfl)) rfl rfl ?_
    refine oG (g_bin (evv rfl) (evv rfl) (by rfl)) rfl rfl ?_
    refine oG (gM (evv rfl)) rfl rfl ?_
    refine o_lazy rfl (fun hg => gM (by first | exact evv rfl | exact evg rfl (by rw [hp]; rfl) | exact evg rfl hp | exact evg rfl hg | exact evg rfl (by first | (simp_all; done) | (simp [*]; done) | fail) | fail)) rfl rfl ?_
    refine o_lazy rfl (fun hg => gM (by first | exact evv rfl | exact evg rfl (by rw [hp]; rfl) | exact evg rfl hp | exact evg rfl hg | exact evg rfl (by first | (simp_all; done) | (simp [*]; done) | fail) | fail)) rfl rfl ?_
    refine o_lazy rfl (fun hg => g_nil (by first | exact evv rfl | exact evg rfl (by rw [hp]; rfl) | exact evg rfl hp | exact evg rfl hg | exact evg rfl (by first | (simp_all; done) | (simp [*]; done) | fail) | fail)) rfl rfl ?_
    refine o_lazy rfl (fun hg => g_fld (evg rfl hg)) rfl rfl ?_
    refine o_lazy rfl (fun hg => g_fld (evg rfl hg)) rfl rfl ?_
    refine o_lazy rfl (fun hg => g_load (evg rfl hg) (by rfl) (by rfl)) rfl rfl ?_
    refine o_lazy rfl (fun hg => g_bin (by first | exact evv rfl | exact evg rfl (by rw [hp]; rfl) | exact evg rfl hp | exact evg rfl hg | exact evg rfl (by first | (simp_all; done) | (simp [*]; done) | fail) | fail) (by first | exact evv rfl | exact evg rfl (by rw [hp]; rfl) | exact evg rfl hp | exact evg rfl hg | exact evg rfl (by first | (simp_all; done) | (simp [*]; done) | fail) | fail) (by rfl)) rfl rfl ?_
    refine oG (g_pick_and (evv rfl) (evv rfl) (fun hp => (by first | exact evv rfl | exact evg rfl (by rw [hp]; rfl) | exact evg rfl hp | exact evg rfl hg | exact evg rfl (by first | (simp_all; done) | (simp [*]; done) | fail) | fail))) rfl rfl ?_
    refine oG (gM (evv rfl)) rfl rfl ?_
    refine o_lazy rfl (fun hg => gM (by first | exact evv rfl | exact evg rfl (by rw [hp]; rfl) | exact evg rfl hp | exact evg rfl hg | exact evg rfl (by first | (simp_all; done) | (simp [*]; done) | fail) | fail)) rfl rfl ?_
    refine o_lazy rfl (fun hg => gM (by first | exact evv rfl | exact evg rfl (by rw [hp]; rfl) | exact evg rfl hp | exact evg rfl hg | exact evg rfl (by first | (simp_all; done) | (simp [*]; done) | fail) | fail)) rfl rfl ?_
    refine o_lazy rfl (fun hg => g_nil (by first | exact evv rfl | exact evg rfl (by rw [hp]; rfl) | exact evg rfl hp | exact evg rfl hg | exact evg rfl (by first | (simp_all; done) | (simp [*]; done) | fail) | fail)) rfl rfl ?_
    refine o_lazy rfl (fun hg => g_fld (evg rfl hg)) rfl rfl ?_
    refine o_lazy rfl (fun hg => g_loadF (evg rfl hg) (by rfl) (by rfl)) rfl rfl ?_
    simp only [decide_eq_false h1, Bool.false_and]
    refine o_lazy (v0 := undef) rfl (fun hg => absurd hg (by first | (simp; done) | fail)) rfl rfl ?_
    refine o_lazy (v0 := undef) rfl (fun hg => absurd hg (by first | (simp; done) | fail)) rfl rfl ?_
    refine oG (g_pick (b := false) (evv rfl) (fun h => by cases h) (fun _ => (evv rfl))) rfl rfl ?_
    exact o_callP rfl _ (Ent.refl _) (must_f _ (fun _ _ => False)) rfl (fun ch L' h => pan_fold h (Lay.ent) (hN (by omega))) (fun _ _ h => h.elim)
theorem fW_c (F : List Atom) (l : List (Value × Row)) (f i : Nat) (s : InS) (view normal base : Int) (state : List UInt8) (ve : Value) (es : List EntS) [ov : ∀ X Y, Rd (X :: Y :: rom l :: F) ve (entR es)] :
    FnP Try.prog 71 [.pointer (some ⟨f, 0, none⟩), .pointer (some ⟨i, 0, none⟩)] (inA i s :: blk f ⟨kC view normal base state ve, 121⟩ :: rom l :: F)
    (FoldR F l f i (foldW s)) (FoldP F l (foldW s)) := by
  have hgr : gr = 1099511627776 := rfl
  generalize hv : (numR s).1 = v
  generalize hn' : (numR (numR s).2).1 = n
  generalize hb' : (numR (numR (numR s).2).2).1 = b
  generalize hS3 : (numR (numR (numR s).2).2).2 = s3
  generalize ht' : (textR 65536 s3).1 = t
  have hN : gr < (v : Int) ∨ gr < (n : Int) ∨ gr < (b : Int) → foldW s = none := fun h => if_pos (by rw [hv, hn', hb']; exact h)
  have hN2 : (32 < (numR (textR 65536 s3).2).1 ∨ entsR (numR (textR 65536 s3).2).1 (numR (textR 65536 s3).2).2 = none) → foldW s = none := fun h => by
    have : manyR (textR 65536 s3).2 = none := by
      unfold manyR
      rcases h with h | h
      · exact if_pos h
      · rw [h]; split <;> rfl
    unfold foldW
    rw [hS3, this]
    split <;> rfl
  have hSS : ∀ l1 s', ¬ (gr < (v : Int) ∨ gr < (n : Int) ∨ gr < (b : Int)) → (numR (textR 65536 s3).2).1 ≤ 32 → entsR (numR (textR 65536 s3).2).1 (numR (textR 65536 s3).2).2 = some (l1, s') →
      foldW s = finK ⟨v, n, b, t, l1⟩ s' := fun l1 s' h h1 h2 => by
    have : manyR (textR 65536 s3).2 = some (l1, s') := by unfold manyR; rw [if_neg (by omega), h2]
    unfold foldW
    rw [if_neg (by rw [hv, hn', hb']; exact h), hS3, this, hv, hn', hb', ht']
  have htl : (t.length : Int) ≤ 65536 := by rw [← ht']; exact text_len (by omega)
  refine fn_introP Try.func71 rfl Try.ntmps71 rfl (fun W0 => ?_)
  simp only [argE]
  refine rS ?_
  refine rR (id := 0) ?_
  refine oG (gM (evv rfl)) rfl rfl ?_
  refine oG (gM (evv rfl)) rfl rfl ?_
  refine o_callP rfl _ (Ent.refl _) (number_c _ i s) rfl (fun ch L' h => pan_fold h.1 Ent.drop (hN (by have := h.2; omega))) ?_
  rintro _ _ ⟨rfl, rfl, hv1⟩
  rw [hv] at hv1 ⊢
  refine oG (gM (evv rfl)) rfl rfl ?_
  refine o_callP rfl _ (Ent.refl _) (number_c _ i _) rfl (fun ch L' h => pan_fold h.1 Ent.drop (hN (by have := h.2; omega))) ?_
  rintro _ _ ⟨rfl, rfl, hv2⟩
  rw [hn'] at hv2 ⊢
  refine oG (gM (evv rfl)) rfl rfl ?_
  refine o_callP rfl _ (Ent.refl _) (number_c _ i _) rfl (fun ch L' h => pan_fold h.1 Ent.drop (hN (by have := h.2; omega))) ?_
  rintro _ _ ⟨rfl, rfl, hv3⟩
  rw [hb'] at hv3 ⊢
  rw [hS3]
  have hpan := hN2
  refine oG (gM (evv rfl)) rfl rfl ?_
  (refine o_call rfl _ (Ent.refl _) (inText_l _ (by omega)) rfl ?_; rintro _ _ ⟨rfl, rfl⟩)
  refine oG (g_buildC rfl (by rfl)) rfl rfl ?_
  refine oG (g_nil (evv rfl)) rfl rfl ?_
  refine oG (g_fld (evv rfl)) rfl rfl ?_
  refine o_storeW (evv rfl) (evv rfl) (by first | rfl | assumption | exact LenC.h _ | (simp [bys, *]; done) | fail) (by first | (intro _ _ _; exact bys_one _) | exact AllOne.h | (intro _ _ _ u hu; simp at hu; rcases hu with rfl | rfl | rfl | rfl | rfl | rfl | rfl | rfl <;> rfl) | fail) (by first | rfl | exact (LenC.h _).trans rfl | exact (LenC.h _).trans (LenC.h _).symm | (simp [bys, *]; done) | (simp only [bys, List.length_map, *]; rfl) | fail) ?_
  refine oN ?_
  refine cC ?_
  rw [ht']
  refine rR (id := 1) ?_
  refine oG (gM (evv rfl)) rfl rfl ?_
  refine oG (gM (evv rfl)) rfl rfl ?_
  refine oG (gM (evv rfl)) rfl rfl ?_
  (refine o_call rfl _ (Ent.refl _) inNum_l rfl ?_; rintro _ _ ⟨rfl, rfl⟩)
  (refine o_callP rfl _ (PickR.ent (K := inA _)) (getEntries_c _ _ _ _ (numR_le _)) rfl (fun ch L' h => pan_fold h.1 Lay.ent (hpan h.2)) ?_; rintro ev _ ⟨el, es', rfl, hn32, hes⟩; have hel := entsR_len hes)
  refine oG (g_nil (evv rfl)) rfl rfl ?_
  refine oG (g_fld (evv rfl)) rfl rfl ?_
  refine oG (g_fld (evv rfl)) rfl rfl ?_
  refine o_store1 (evv rfl) (evv rfl) (by rfl) (by rfl) (by rfl) ?_
  refine oN ?_
  have hok := entsR_ok hes
  refine c_end (rs := []) rfl rfl _ ((Lay.ent (L' := sl ev (entR el) :: rom l :: inA i es' :: blk f ⟨kC v n b t ev, 121⟩ :: F)).trans (Ent.romIn.trans (Lay.ent (L' := inA i es' :: blk f ⟨kC v n b t ev, 121⟩ :: rom ((ev, entR el) :: l) :: F)))) ?_
  exact ⟨⟨v, n, b, t, el⟩, ev, es', rfl, rfl, hSS el es' (by omega) hn32 hes, hok, by dsimp only; omega, by dsimp only; omega⟩
end VK

namespace VK
open Go Go.Proofs
set_option linter.unusedSimpArgs false
set_option linter.unusedVariables false
set_option maxRecDepth 100000
set_option maxHeartbeats 40000000
def RecU (u : FrameMode) (v : Value) (u' : FrameMode) : Prop := (∃ v0 older, u = .panicking ({ v := v0, recovered := false } :: older) ∧ v = v0 ∧ u' = .panicking ({ v := v0, recovered := true } :: older)) ∨ (u = .returning ∧ v = .nilIface ∧ u' = .returning)
def sPost (P : Program) (fn : Func) (W0 : World) (c₀ : Frame) (cs : List Frame) (u' : FrameMode) (R : List Atom → Prop) : Exit → Act → World → Prop := fun e a w =>
  bodyPostS P fn c₀ cs (fun e u'' w' => ∃ v L', e = .returned v ∧ (u'' = u' ∧ R L') ∧ St W0 L' w') e a ({ c₀ with mode := u' } :: cs) w
theorem fnD_intro {P : Program} {f : FuncId} {fn : Func} {n id t x : Nat} {ty ty' : TypeId} {pos pos' : String} {aft aft' : Array Edge} {ats : Array TypeId} {rest : Code} {args : List Value} {u u' : FrameMode} {v : Value} {L : List Atom} {R : List Atom → Prop} (hf : P.funcs[f]? = some fn)
    (hb : fn.body = some (.seq (.region id #[⟨some t, .call { callee := .builtin .recover, args := #[], argTypes := ats }, ty, pos, aft, none⟩, ⟨some x, .assign (.tmp t), ty', pos', aft', none⟩] false) rest))
    (hn : fn.ntmps = n) (ha : Nat.ble args.length n = true) (ht : Nat.blt t n = true) (hx : Nat.blt x n = true) (hu : RecU u v u')
    (h : ∀ W0 c₀ cs, Run { P := P, n := n, fn := fn, R := fun _ L' => R L', W0 := W0, Qo := some (sPost P fn W0 c₀ cs u' R) } rest [] ((x, .v v) :: (t, .v v) :: argE 0 args) L) : FnD P f args u L (fun u'' L' => u'' = u' ∧ R L') := by
  unfold FnD
  intro W0 w hs
  refine callsD_of_wpS hf hb fun c₀ cs hc => ?_
  apply wpS_seq
  apply wpS_region
  have hE : EnvOk [] n (argE 0 args) { tmps := args.toArray ++ Array.replicate (fn.ntmps - args.toArray.size) undef, defers := [] } := by
    refine ⟨?_, rfl, fun t v hv => ?_⟩
    · have : args.length ≤ n := by simpa using ha
      simp only [hn, Array.size_append, List.size_toArray, Array.size_replicate]
      omega
    · obtain ⟨_, h2⟩ := lk_argE hv
      simp only [Nat.sub_zero] at h2
      have hlt : t < args.length := (List.getElem?_eq_some_iff.1 h2).1
      simp only [Array.getD_eq_getD_getElem?]
      rw [Array.getElem?_append_left (by simpa using hlt)]
      simp [h2]
  generalize ({ tmps := args.toArray ++ Array.replicate (fn.ntmps - args.toArray.size) undef, defers := [] } : Act) = a at hE
  have h2 := hE.put t (.v v) ht
  have h3 := h2.put x (.v v) hx
  have h4 := h W0 c₀ cs
  unfold Run at h4
  have h4 := h4 _ w h3 hs
  have hev : (a.put (some t) v).eval (.tmp t) = v := h2.ev (x := .tmp t) (by simp [VK.ev, VK.lk])
  have h5 : rest.wpS P (bodyPostS P fn c₀ cs (fun e u'' w' => ∃ v L', e = .returned v ∧ (u'' = u' ∧ R L') ∧ St W0 L' w')) ((a.put (some t) v).put (some x) v) ({ c₀ with mode := u' } :: cs) w := wpS_of_wp h4
  clear h4 h
  generalize (bodyPostS P fn c₀ cs (fun e u'' w' => ∃ v L', e = .returned v ∧ (u'' = u' ∧ R L') ∧ St W0 L' w')) = RR at h5 ⊢
  rcases hu with ⟨v0, older, e1, rfl, rfl⟩ | ⟨e1, rfl, rfl⟩
  · rw [e1] at hc
    have hr : recoverD (c₀ :: cs) = some (v, { c₀ with mode := .panicking ({ v := v, recovered := true } :: older) } :: cs) := by simp [recoverD, hc]
    simp [wpOpsS, List.range, List.range.loop, execOp, resolve, invoke, builtin, hr, Region.wanted, Exit.thenS]
    simp [Oper.upon]
    rw [hev]
    exact h5
  · rw [e1] at hc
    have hr : recoverD (c₀ :: cs) = none := by simp [recoverD, hc]
    have hc0 : ({ c₀ with mode := .returning } : Frame) = c₀ := by cases c₀; simp_all
    rw [hc0] at h5
    simp [wpOpsS, List.range, List.range.loop, execOp, resolve, invoke, builtin, hr, Region.wanted, Exit.thenS]
    simp [Oper.upon]
    rw [hev]
    exact h5
theorem c_endS {P : Program} {n : Nat} {fn : Func} {W0 : World} {c₀ : Frame} {cs : List Frame} {u' : FrameMode} {R : List Atom → Prop} {R2 : Value → List Atom → Prop} {E : Env} {L : List Atom} {rs : List ResultVar} {vs : List Value} (hr : fn.results = rs.toArray) (hv : resV E rs = some vs) (L' : List Atom) (hL : Ent L L') (h : R L') : Cont { P := P, n := n, fn := fn, R := R2, W0 := W0, Qo := some (sPost P fn W0 c₀ cs u' R) } [] E L := by
  unfold Cont
  intro a w he hs
  show sPost P fn W0 c₀ cs u' R .normal a w
  exact ⟨he.defers, u', rfl, _, run_results (D := []) hr hv he, _, L', rfl, ⟨rfl, h⟩, hs.ent hL⟩
theorem g_ifnil {c : Cx} {E : Env} {L : List Atom} {d : Option Nat} {ty : TypeId} {pos : String} {aft : Array Edge} {gd : Option (Nat × Bool)} {t t' : TypeId} {ms : Array (String × TypeId)} {x : Operand} {v : Value} {b : Bool} [tu : TyU c.P t (.interface ms)] (hx : Evs c E x v) (hv : (v = .nilIface ∧ b = false) ∨ (∃ t v', v = .iface t v' ∧ b = true)) :
    Gives c E L ⟨d, .binOp .neq t x (.const .nilIface) t', ty, pos, aft, gd⟩ (.bool b) := by
  unfold Gives Evs at *
  intro a w he _
  have hy : a.eval (.const .nilIface) = .nilIface := rfl
  have hgd : ∀ u, (eqGuard .neq t x (.const .nilIface) u .nilIface).run c.P w = .ok () w := fun u => by cases u <;> simp [eqGuard]
  rcases hv with ⟨rfl, rfl⟩ | ⟨t2, v', rfl, rfl⟩
  · have h1 : ∀ d, (Op.equalIn (d + 1) t .nilIface .nilIface).run c.P w = .ok true w := fun d => by simp [Op.equalIn, run_underlying tu.h]
    have h2 : (Op.equal t .nilIface .nilIface).run c.P w = .ok true w := h1 9999
    simp [execOp, hx a he, hy, hgd, binOp, h2]
  · have h1 : ∀ d, (Op.equalIn (d + 1) t (.iface t2 v') .nilIface).run c.P w = .ok false w := fun d => by simp [Op.equalIn, run_underlying tu.h]
    have h2 : (Op.equal t (.iface t2 v') .nilIface).run c.P w = .ok false w := h1 9999
    simp [execOp, hx a he, hy, hgd, binOp, h2]
theorem foldD_ret (F : List Atom) (o b : Nat) : FnD Try.prog 66 [.pointer (some ⟨o, 0, none⟩), .pointer (some ⟨b, 0, none⟩)] .returning F (fun u' L' => u' = .returning ∧ L' = F) := by
  refine fnD_intro Try.func66 rfl Try.ntmps66 rfl rfl rfl (.inr ⟨rfl, rfl, rfl⟩) fun W0 c₀ cs => ?_
  simp only [argE]
  refine rS ?_
  refine rR (id := 1) ?_
  refine oG (gM (evv rfl)) rfl rfl ?_
  refine oG (g_ifnil (b := false) (evv rfl) (.inl ⟨rfl, rfl⟩)) rfl rfl ?_
  refine oN ?_
  refine cC ?_
  refine r_cond_false rfl ?_
  refine r_skip ?_
  exact c_endS (rs := []) rfl rfl _ (Ent.refl _) rfl
theorem foldD_mis (F : List Atom) (o b : Nat) : FnD Try.prog 66 [.pointer (some ⟨o, 0, none⟩), .pointer (some ⟨b, 0, none⟩)] (.panicking misCh) (blk o ⟨kC 0 0 0 [] (.slice none 0 0), 28⟩ :: blk b ⟨[.bool false], 4⟩ :: F) (fun u' L' => u' = .panicking [{ v := .iface 117 (agg []), recovered := true }] ∧ L' = blk o ⟨kC 0 0 0 [] (.slice none 0 0), 28⟩ :: blk b ⟨[.bool false], 4⟩ :: F) := by
  refine fnD_intro Try.func66 rfl Try.ntmps66 rfl rfl rfl (.inl ⟨_, [], rfl, rfl, rfl⟩) fun W0 c₀ cs => ?_
  simp only [argE]
  refine rS ?_
  refine rR (id := 1) ?_
  refine oG (gM (evv rfl)) rfl rfl ?_
  refine oG (g_ifnil (b := true) (evv rfl) (.inr ⟨_, _, rfl, rfl⟩)) rfl rfl ?_
  refine oN ?_
  refine cC ?_
  refine r_cond_true rfl ?_
  refine rS ?_
  refine rS ?_
  refine rR (id := 2) ?_
  refine oG (gM (evv rfl)) rfl rfl ?_
  refine oG (g_assert (evv rfl) (by rfl)) rfl rfl ?_
  refine oG (gM (evv rfl)) rfl rfl ?_
  refine oG (g_extract (evv rfl) (by rfl)) rfl rfl ?_
  refine oG (g_extract (evv rfl) (by rfl)) rfl rfl ?_
  refine o_alloc rfl rfl (fun _ => ?_)
  refine o_storeW (evv rfl) (evv rfl) (by first | rfl | assumption | exact LenC.h _ | (simp [bys, *]; done) | fail) (by first | (intro _ _ _; exact bys_one _) | exact AllOne.h | (intro _ _ _ u hu; simp at hu; rcases hu with rfl | rfl | rfl | rfl | rfl | rfl | rfl | rfl <;> rfl) | fail) (by first | rfl | exact (LenC.h _).trans rfl | exact (LenC.h _).trans (LenC.h _).symm | (simp [bys, *]; done) | (simp only [bys, List.length_map, *]; rfl) | fail) ?_
  refine oG (gA (evv rfl)) rfl rfl ?_
  refine oN ?_
  refine cC ?_
  refine rS ?_
  refine rR (id := 3) ?_
  refine oG (gM (evv rfl)) rfl rfl ?_
  refine oG (g_not (evv rfl)) rfl rfl ?_
  refine oN ?_
  refine cC ?_
  refine r_cond_false rfl ?_
  refine r_skip ?_
  refine cC ?_
  refine rR (id := 5) ?_
  refine oG (v := agg [(Go.Value.int Go.IntKind.i64 0), (Go.Value.int Go.IntKind.i64 0), (Go.Value.int Go.IntKind.i64 0), (Go.Value.string { data := #[] }), (Go.Value.slice none 0 0)]) (g_buildC rfl (by rfl)) rfl rfl ?_
  refine o_storeW (evv rfl) (evv rfl) (by first | rfl | assumption | exact LenC.h _ | (simp [bys, *]; done) | fail) (by first | (intro _ _ _; exact bys_one _) | exact AllOne.h | (intro _ _ _ u hu; simp at hu; rcases hu with rfl | rfl | rfl | rfl | rfl | rfl | rfl | rfl <;> rfl) | fail) (by first | rfl | exact (LenC.h _).trans rfl | exact (LenC.h _).trans (LenC.h _).symm | (simp [bys, *]; done) | (simp only [bys, List.length_map, *]; rfl) | fail) ?_
  refine o_store1 (evv rfl) (evv rfl) (by rfl) (by rfl) (by rfl) ?_
  refine oN ?_
  exact c_endS (rs := []) rfl rfl _ Ent.drop rfl
end VK

namespace VK
open Go Go.Proofs
set_option linter.unusedSimpArgs false
set_option linter.unusedVariables false
set_option maxRecDepth 100000
set_option maxHeartbeats 40000000
instance (L : List Atom) (f : Go.Fn) (a b : Array Value) : OneC L (.func f a b) := ⟨fun _ _ _ => rfl⟩
instance : Inhabited Value := ⟨.nilIface⟩
theorem FnD.mono {P : Program} {f : FuncId} {args : List Value} {u : FrameMode} {L : List Atom} {R R' : FrameMode → List Atom → Prop} (h : FnD P f args u L R) (hr : ∀ u' L', R u' L' → R' u' L') : FnD P f args u L R' := by
  unfold FnD at *
  exact fun W0 w hs => (h W0 w hs).mono fun e u' w' ⟨v, L', he, hR, hS⟩ => ⟨v, L', he, hr _ _ hR, hS⟩
theorem foldD_r (F : List Atom) (o b : Nat) : FnD Try.prog 66 [.pointer (some ⟨o, 0, none⟩), .pointer (some ⟨b, 0, none⟩)] .returning F (fun u' L' => settle u' = .returning ∧ L' = F) := (foldD_ret F o b).mono fun _ _ h => ⟨by rw [h.1]; rfl, h.2⟩
theorem foldD_m (F : List Atom) (o b : Nat) : FnD Try.prog 66 [.pointer (some ⟨o, 0, none⟩), .pointer (some ⟨b, 0, none⟩)] (.panicking misCh) (blk o ⟨kC 0 0 0 [] (.slice none 0 0), 28⟩ :: blk b ⟨[.bool false], 4⟩ :: F) (fun u' L' => settle u' = .returning ∧ L' = blk o ⟨kC 0 0 0 [] (.slice none 0 0), 28⟩ :: blk b ⟨[.bool false], 4⟩ :: F) := (foldD_mis F o b).mono fun _ _ h => ⟨by rw [h.1]; rfl, h.2⟩
theorem o_deferF {c : Cx} {k : List KI} {E : Env} {L : List Atom} {all rest : List Oper} {ty : TypeId} {pos : String} {aft : Array Edge} {x : Operand} {g : FuncId} {cap : List Value} (hx : ev E x = some (.func (.func g) #[] cap.toArray))
    (hk : Ops { c with D := { target := .fn (.func g) cap.toArray, args := #[] } :: c.D } all rest k E L) (hm : c.mode = none := by rfl) : Ops c all (⟨none, .defer { callee := .value x, args := #[], argTypes := #[] }, ty, pos, aft, none⟩ :: rest) k E L :=
  o_defer (df := { target := .fn (.func g) cap.toArray, args := #[] }) (fun a w he => by
    have hx' := he.ev hx
    simp [resolve, hx', Deferred.ofValue]) hk hm
theorem romTail {x : Value × Row} {l : List (Value × Row)} {L : List Atom} : Ent (rom (x :: l) :: L) (rom l :: L) := Ent.romSub fun h q => by
  unfold rom at *
  exact fun y hy => q y (List.mem_cons_of_mem _ hy)
def foldV' (r : Option KeptS) (ve : Value) : Value := .tuple #[agg (kC (r.getD zeroK).view (r.getD zeroK).normal (r.getD zeroK).base (r.getD zeroK).state ve), .bool r.isSome]
def FoldO (F : List Atom) (l : List (Value × Row)) (r : Option KeptS) : Value → List Atom → Prop := fun v L' => ∃ ve', v = foldV' r ve' ∧ L' = rom ((ve', entR (r.getD zeroK).ents) :: l) :: F
theorem pan_out {c : Cx} {E : Env} {F L : List Atom} {l : List (Value × Row)} {o b : Nat} {r : Option KeptS} {ch : List PanicEntry} [co : CallOk c.P 66] (hP : c.P = Try.prog) (h : MisP (blk o ⟨kC 0 0 0 [] (.slice none 0 0), 28⟩ :: blk b ⟨[.bool false], 4⟩ :: rom l :: F) ch L) (hr : r = none)
    (hR : c.R = FoldO F l r) (h4 : lk E 4 = some (.v (.pointer (some ⟨o, 0, none⟩)))) (h5 : lk E 5 = some (.v (.pointer (some ⟨b, 0, none⟩)))) (hres : c.fn.results = #[.cell 4 28, .cell 5 4])
    (hD : c.D = [{ target := .fn (.func 66) #[.pointer (some ⟨o, 0, none⟩), .pointer (some ⟨b, 0, none⟩)], args := #[] }]) (hQ : c.Qo = some (bodyPostD c.P c.fn (endR c.R c.W0))) : Pan c E ch L := by
  obtain ⟨rfl, hE⟩ := h
  subst hr
  obtain ⟨P, n, fn, R, W0, D, mode, Qo, RP⟩ := c
  dsimp only at hP hR hres hD hQ co
  subst hP hR
  refine pan_F (rs := [.cell 4 28, .cell 5 4]) (vs := [agg (kC 0 0 0 [] (.slice none 0 0)), .bool false]) hE (foldD_m _ o b) hres ?_ _ ((Lay.ent (L' := rom l :: F)).trans ((Ent.nilsl 50 8).trans Ent.romIn)) ⟨.slice none 0 0, rfl, rfl⟩ hD hQ
  exact ro_agg h4 rfl rfl (ro_cell h5 rfl rfl ro_nil)
theorem fold_c (F : List Atom) (l : List (Value × Row)) (view normal base : Int) (state : List UInt8) (ve : Value) (es : List EntS) (pv : Value) (p : List UInt8) [rp' : Rd (rom ((ve, entR es) :: l) :: F) pv (bR p)] (hp : p.length ≤ 140737488355000) (hf : ∀ e ∈ es, e.ok) (hk : KeptS.ok ⟨view, normal, base, state, es⟩) :
    Fn Try.prog 34 [agg (kC view normal base state ve), pv] (rom ((ve, entR es) :: l) :: F) (FoldO F ((ve, entR es) :: l) (foldK ⟨view, normal, base, state, es⟩ p)) := by
  have hgr : gr = 1099511627776 := rfl
  obtain ⟨a1, a2, a3, a4, a5, a6, a7, a8, a9, a10, a11⟩ := hk
  dsimp only at a1 a2 a3 a4 a5 a6 a7 a8 a9 a10 a11
  refine fn_introD Try.func34 rfl Try.ntmps34 rfl (fun W0 => ?_)
  simp only [argE]
  refine rS ?_
  refine rR (id := 0) ?_
  refine o_boxA (evv rfl) rfl (fun _ => ?_)
  refine o_alloc rfl rfl (fun _ => ?_)
  refine o_alloc rfl rfl (fun _ => ?_)
  refine oN ?_
  refine cC ?_
  refine rS ?_
  refine rR (id := 1) ?_
  refine oG (g_func rfl rfl) rfl rfl ?_
  refine o_deferF rfl ?_
  dsimp only
  generalize hr : foldK ⟨view, normal, base, state, es⟩ p = r
  refine oN ?_
  refine cC ?_
  refine rS ?_
  refine rR (id := 2) ?_
  refine oG (g_loadF (evv rfl) (by rfl) (by rfl)) rfl rfl ?_
  refine oG (g_buildC rfl (by rfl)) rfl rfl ?_
  refine o_boxA (evv rfl) rfl (fun _ => ?_)
  refine oG (gA (evv rfl)) rfl rfl ?_
  refine oN ?_
  refine cC ?_
  refine rS ?_
  refine rR (id := 3) ?_
  refine oG (gM (evv rfl)) rfl rfl ?_
  (refine o_call rfl _ (Ent.refl _) (Read_c _ _ _ (by (try simp only [bsOf, List.length_append, List.length_cons, List.length_nil]); omega)) rfl ?_; rintro _ _ ⟨i, rfl, rfl⟩)
  refine oG (gA (evv rfl)) rfl rfl ?_
  refine oN ?_
  refine cC ?_
  refine rS ?_
  refine rR (id := 4) ?_
  refine oG (gM (evv rfl)) rfl rfl ?_
  refine oG (g_func rfl rfl) rfl rfl ?_
  refine oG (gM (evv rfl)) rfl rfl ?_
  refine oG (g_func rfl rfl) rfl rfl ?_
  refine oG (gM (evv rfl)) rfl rfl ?_
  refine oG (g_func rfl rfl) rfl rfl ?_
  refine oG (gM (evv rfl)) rfl rfl ?_
  refine oG (g_func rfl rfl) rfl rfl ?_
  refine o_litV rfl rfl rfl (by rfl) rfl rfl (fun _ => ?_)
  refine oG (gA (evv rfl)) rfl rfl ?_
  refine oN ?_
  refine cC ?_
  refine rS ?_
  refine rR (id := 5) ?_
  refine oG (gM (evv rfl)) rfl rfl ?_
  (refine o_call rfl _ (Ent.refl _) inNum_l rfl ?_; rintro _ _ ⟨rfl, rfl⟩)
  refine oG (gA (evv rfl)) rfl rfl ?_
  refine oN ?_
  refine cC ?_
  refine rS ?_
  generalize hn : (numR ⟨p, 0⟩).1 = n
  generalize hs1 : (numR ⟨p, 0⟩).2 = s1
  have hno : (n = 0 ∨ 4 < n) → r = none := fun h => by
    rw [← hr]
    unfold foldK
    rw [hn, if_neg (by omega), if_neg (by omega), if_neg (by omega), if_neg (by omega)]
  rename_i bx o b f kv
  refine r_ent (sl kv (mrow id 124 [.func (.func 68) #[.pointer (some ⟨f, 0, none⟩)] #[], .func (.func 69) #[.pointer (some ⟨f, 0, none⟩)] #[], .func (.func 70) #[.pointer (some ⟨f, 0, none⟩)] #[], .func (.func 71) #[.pointer (some ⟨f, 0, none⟩)] #[]]) :: inA i s1 :: blk f ⟨kC view normal base state ve, 121⟩ :: blk b ⟨[.bool false], 4⟩ :: blk o ⟨kC 0 0 0 [] (.slice none 0 0), 28⟩ :: blk bx ⟨kC view normal base state ve, 28⟩ :: rom ((ve, entR es) :: l) :: F) (Ent.refl _) ?_
  by_cases h1 : 1 ≤ (n : Int)
  · have d1 := decide_eq_true h1
    by_cases h4 : (n : Int) ≤ 4
    · have d4 := decide_eq_true h4
      refine rR (id := 6) ?_
      refine oG (gM (evv rfl)) rfl rfl ?_
      refine oG (g_bin (evv rfl) (evv rfl) (by rfl)) rfl rfl ?_
      refine oG (gM (evv rfl)) rfl rfl ?_
      refine o_lazy rfl (fun hg => gM (by first | exact evv rfl | exact evg rfl (by rw [hp]; rfl) | exact evg rfl hp | exact evg rfl hg | exact evg rfl (by first | (simp_all; done) | (simp [*]; done) | fail) | fail)) rfl rfl ?_
      refine o_lazy rfl (fun hg => g_bin (by first | exact evv rfl | exact evg rfl (by rw [hp]; rfl) | exact evg rfl hp | exact evg rfl hg | exact evg rfl (by first | (simp_all; done) | (simp [*]; done) | fail) | fail) (by first | exact evv rfl | exact evg rfl (by rw [hp]; rfl) | exact evg rfl hp | exact evg rfl hg | exact evg rfl (by first | (simp_all; done) | (simp [*]; done) | fail) | fail) (by rfl)) rfl rfl ?_
      refine oG (g_pick_and (evv rfl) (evv rfl) (fun hp => (by first | exact evv rfl | exact evg rfl (by rw [hp]; rfl) | exact evg rfl hp | exact evg rfl hg | exact evg rfl (by first | (simp_all; done) | (simp [*]; done) | fail) | fail))) rfl rfl ?_
      simp only [d1, d4, Bool.and_self]
      refine o_callP rfl _ (Ent.refl _) (must_t _ (fun _ _ => False)) rfl (fun _ _ h => h.elim) ?_
      rintro _ _ ⟨rfl, rfl⟩
      refine oN ?_
      refine cC ?_
      refine rS ?_
      have hg : ∃ g : FuncId, CallOk Try.prog g ∧ (id ([Value.func (.func 68) #[.pointer (some ⟨f, 0, none⟩)] #[], .func (.func 69) #[.pointer (some ⟨f, 0, none⟩)] #[], .func (.func 70) #[.pointer (some ⟨f, 0, none⟩)] #[], .func (.func 71) #[.pointer (some ⟨f, 0, none⟩)] #[]].getD ((n : Int) - 1).toNat default) : Value) = .func (.func g) #[.pointer (some ⟨f, 0, none⟩)] #[] ∧
          FnP Try.prog g [.pointer (some ⟨f, 0, none⟩), .pointer (some ⟨i, 0, none⟩)] (inA i s1 :: blk f ⟨kC view normal base state ve, 121⟩ :: rom ((ve, entR es) :: l) :: blk b ⟨[.bool false], 4⟩ :: blk o ⟨kC 0 0 0 [] (.slice none 0 0), 28⟩ :: F) (FoldR (blk b ⟨[.bool false], 4⟩ :: blk o ⟨kC 0 0 0 [] (.slice none 0 0), 28⟩ :: F) ((ve, entR es) :: l) f i r) (FoldP (blk b ⟨[.bool false], 4⟩ :: blk o ⟨kC 0 0 0 [] (.slice none 0 0), 28⟩ :: F) ((ve, entR es) :: l) r) := by
        rw [← hr]
        unfold foldK
        rw [hn, hs1]
        rcases (by omega : n = 1 ∨ n = 2 ∨ n = 3 ∨ n = 4) with rfl | rfl | rfl | rfl
        · rw [if_pos rfl]
          exact ⟨_, inferInstance, rfl, fV_c _ l f i s1 view normal base state ve es hf a10 a8⟩
        · rw [if_neg (by decide), if_pos rfl]
          exact ⟨_, inferInstance, rfl, fE_c _ l f i s1 view normal base state ve es hf a10 a8⟩
        · rw [if_neg (by decide), if_neg (by decide), if_pos rfl]
          exact ⟨_, inferInstance, rfl, fA_c _ l f i s1 view normal base state ve es hf a10 a8 a5 a6⟩
        · rw [if_neg (by decide), if_neg (by decide), if_neg (by decide), if_pos rfl]
          exact ⟨_, inferInstance, rfl, fW_c _ ((ve, entR es) :: l) f i s1 view normal base state ve es⟩
      obtain ⟨g, hco, hg, hfn⟩ := hg
      refine rR (id := 7) ?_
      refine oG (gM (evv rfl)) rfl rfl ?_
      refine oG (gM (evv rfl)) rfl rfl ?_
      refine o_giveN (g_bin (evv rfl) (evv rfl) (by rfl)) (by simp only [inR]; omega) rfl ?_
      refine oG (g_idxM (evv rfl) (evv rfl) (by rfl) (by omega) (by first | omega | (have := of_decide_eq_true hg; omega) | (simp at hg; omega) | (simp only [List.length_set, List.length_append, List.length_cons, List.length_nil, List.length_map, List.length_take, List.length_drop, List.length_replicate]; omega))) rfl rfl ?_
      refine oG (g_loadM (evv rfl) (by rfl) (by first | omega | (have := of_decide_eq_true hg; omega) | (simp at hg; omega) | (simp only [List.length_set, List.length_append, List.length_cons, List.length_nil, List.length_map, List.length_take, List.length_drop, List.length_replicate]; omega))) rfl rfl ?_
      refine oG (gM (evv rfl)) rfl rfl ?_
      rw [hg]
      refine o_callVP (co := hco) rfl rfl _ (Lay.ent) hfn rfl (fun ch L' h => pan_out (F := F) (l := (ve, entR es) :: l) (o := o) (b := b) rfl ⟨h.1.1, h.1.2.trans (Lay.ent)⟩ h.2 rfl rfl rfl rfl rfl rfl) ?_
      rintro _ _ ⟨k', ve', s', rfl, rfl, hfin, hfine, hlen, hst⟩
      have hlen2 : k'.ents.length ≤ 1048576 := by omega
      have hst2 : k'.state.length ≤ 140737488355000 := by omega
      refine oN ?_
      refine cC ?_
      refine rS ?_
      have hfe : ∀ e ∈ k'.ents, e.ok := hfine
      refine rR (id := 8) ?_
      refine oG (gM (evv rfl)) rfl rfl ?_
      (refine o_call rfl _ (Ent.refl _) inEnd_l rfl ?_; rintro _ _ ⟨rfl, rfl⟩)
      refine oG (gM (evv rfl)) rfl rfl ?_
      refine o_lazy rfl (fun hg => gM (by first | exact evv rfl | exact evg rfl (by rw [hp]; rfl) | exact evg rfl hp | exact evg rfl hg | exact evg rfl (by first | (simp_all; done) | (simp [*]; done) | fail) | fail)) rfl rfl ?_
      refine o_lazy rfl (fun hg => g_nil (by first | exact evv rfl | exact evg rfl (by rw [hp]; rfl) | exact evg rfl hp | exact evg rfl hg | exact evg rfl (by first | (simp_all; done) | (simp [*]; done) | fail) | fail)) rfl rfl ?_
      refine o_lazy rfl (fun hg => g_fld (evg rfl hg)) rfl rfl ?_
      refine o_lazy rfl (fun hg => g_loadF (evg rfl hg) (by rfl) (by rfl)) rfl rfl ?_
      by_cases he : s'.err = 0 ∧ s'.bs.length = 0
      · simp only [decide_eq_true he]
        refine o_sure (t := 47) rfl rfl ?_
        refine o_gyes rfl ?_
        (refine o_call rfl _ (Ent.refl _) (jCheck_c _ _ _ _ _ _ _ (by first | assumption | omega) (by first | assumption | omega) (by assumption)) rfl ?_; rintro _ _ ⟨rfl, hLz⟩; obtain rfl := hLz.symm; clear hLz)
        refine o_gyes rfl ?_
        refine oG (g_bin (evv rfl) (evv rfl) (by rfl)) rfl rfl ?_
        refine oG (g_pick (b := true) (evv rfl) (fun _ => (evv rfl)) (fun h => by cases h)) rfl rfl ?_
        by_cases hok : KeptS.ok ⟨k'.view, k'.normal, k'.base, k'.state, k'.ents⟩
        · have hrs : r = some k' := by rw [hfin]; exact if_pos ⟨he.1, List.eq_nil_of_length_eq_zero he.2, hok⟩
          simp only [if_pos hok, decide_true, Bool.and_self]
          refine o_callP rfl _ (Ent.refl _) (must_t _ (fun _ _ => False)) rfl (fun _ _ h => h.elim) ?_
          rintro _ _ ⟨rfl, rfl⟩
          refine oN ?_
          refine cC ?_
          refine rS ?_
          refine rR (id := 9) ?_
          refine oG (gM (evv rfl)) rfl rfl ?_
          refine oG (g_nil (evv rfl)) rfl rfl ?_
          refine oG (g_fld (evv rfl)) rfl rfl ?_
          refine oG (g_loadF (evv rfl) (by rfl) (by rfl)) rfl rfl ?_
          refine o_storeW (evv rfl) (evv rfl) (by first | rfl | assumption | exact LenC.h _ | (simp [bys, *]; done) | fail) (by first | (intro _ _ _; exact bys_one _) | exact AllOne.h | (intro _ _ _ u hu; simp at hu; rcases hu with rfl | rfl | rfl | rfl | rfl | rfl | rfl | rfl <;> rfl) | fail) (by first | rfl | exact (LenC.h _).trans rfl | exact (LenC.h _).trans (LenC.h _).symm | (simp [bys, *]; done) | (simp only [bys, List.length_map, *]; rfl) | fail) ?_
          refine o_store1 (evv rfl) (evv rfl) (by rfl) (by rfl) (by rfl) ?_
          refine oN ?_
          refine cC ?_
          subst hrs
          refine r_retF (rs := [.cell 4 28, .cell 5 4]) (vs := [agg (kC k'.view k'.normal k'.base k'.state ve'), .bool true]) (L1 := rom ((ve', entR k'.ents) :: (ve, entR es) :: l) :: blk o ⟨kC k'.view k'.normal k'.base k'.state ve', 28⟩ :: blk b ⟨[.bool true], 4⟩ :: F) (Lay.ent) (foldD_r _ o b) rfl (ro_agg rfl rfl rfl (ro_cell rfl rfl rfl ro_nil)) _ (Lay.ent (L' := rom ((ve', entR k'.ents) :: (ve, entR es) :: l) :: F)) ⟨ve', rfl, rfl⟩
        · have hrn : r = none := by rw [hfin]; exact if_neg (fun h => hok h.2.2)
          simp only [if_neg hok]
          refine o_callP rfl _ (Ent.refl _) (must_f _ (fun _ _ => False)) rfl (fun ch L' h => pan_out (F := F) (l := (ve, entR es) :: l) (o := o) (b := b) rfl ⟨h.1, (h.2.trans ((Lay.ent (L' := rom ((ve', entR k'.ents) :: (ve, entR es) :: l) :: blk o ⟨kC 0 0 0 [] (.slice none 0 0), 28⟩ :: blk b ⟨[.bool false], 4⟩ :: F)).trans romTail)).trans (Lay.ent)⟩ hrn rfl rfl rfl rfl rfl rfl) (fun _ _ h => h.elim)
      · have hrn : r = none := by rw [hfin]; exact if_neg (fun h => he ⟨h.1, by rw [h.2.1]; rfl⟩)
        simp only [decide_eq_false he]
        refine o_lazy (v0 := undef) rfl (fun hg => absurd hg (by first | (simp; done) | fail)) rfl rfl ?_
        refine o_lazy (v0 := undef) rfl (fun hg => absurd hg (by first | (simp; done) | fail)) rfl rfl ?_
        refine oG (g_pick (b := false) (evv rfl) (fun h => by cases h) (fun _ => (evv rfl))) rfl rfl ?_
        refine o_callP rfl _ (Ent.refl _) (must_f _ (fun _ _ => False)) rfl (fun ch L' h => pan_out (F := F) (l := (ve, entR es) :: l) (o := o) (b := b) rfl ⟨h.1, (h.2.trans ((Lay.ent (L' := rom ((ve', entR k'.ents) :: (ve, entR es) :: l) :: blk o ⟨kC 0 0 0 [] (.slice none 0 0), 28⟩ :: blk b ⟨[.bool false], 4⟩ :: F)).trans romTail)).trans (Lay.ent)⟩ hrn rfl rfl rfl rfl rfl rfl) (fun _ _ h => h.elim)
    · refine rR (id := 6) ?_
      refine oG (gM (evv rfl)) rfl rfl ?_
      refine oG (g_bin (evv rfl) (evv rfl) (by rfl)) rfl rfl ?_
      refine oG (gM (evv rfl)) rfl rfl ?_
      refine o_lazy rfl (fun hg => gM (by first | exact evv rfl | exact evg rfl (by rw [hp]; rfl) | exact evg rfl hp | exact evg rfl hg | exact evg rfl (by first | (simp_all; done) | (simp [*]; done) | fail) | fail)) rfl rfl ?_
      refine o_lazy rfl (fun hg => g_bin (by first | exact evv rfl | exact evg rfl (by rw [hp]; rfl) | exact evg rfl hp | exact evg rfl hg | exact evg rfl (by first | (simp_all; done) | (simp [*]; done) | fail) | fail) (by first | exact evv rfl | exact evg rfl (by rw [hp]; rfl) | exact evg rfl hp | exact evg rfl hg | exact evg rfl (by first | (simp_all; done) | (simp [*]; done) | fail) | fail) (by rfl)) rfl rfl ?_
      refine oG (g_pick_and (evv rfl) (evv rfl) (fun hp => (by first | exact evv rfl | exact evg rfl (by rw [hp]; rfl) | exact evg rfl hp | exact evg rfl hg | exact evg rfl (by first | (simp_all; done) | (simp [*]; done) | fail) | fail))) rfl rfl ?_
      simp only [d1, decide_eq_false h4, Bool.and_false]
      refine o_callP rfl _ (Ent.refl _) (must_f _ (fun _ _ => False)) rfl (fun ch L' h => pan_out (F := F) (l := (ve, entR es) :: l) (o := o) (b := b) rfl ⟨h.1, h.2.trans (Lay.ent)⟩ (hno (by omega)) rfl rfl rfl rfl rfl rfl) (fun _ _ h => h.elim)
  · refine rR (id := 6) ?_
    refine oG (gM (evv rfl)) rfl rfl ?_
    refine oG (g_bin (evv rfl) (evv rfl) (by rfl)) rfl rfl ?_
    refine oG (gM (evv rfl)) rfl rfl ?_
    refine o_lazy rfl (fun hg => gM (by first | exact evv rfl | exact evg rfl (by rw [hp]; rfl) | exact evg rfl hp | exact evg rfl hg | exact evg rfl (by first | (simp_all; done) | (simp [*]; done) | fail) | fail)) rfl rfl ?_
    refine o_lazy rfl (fun hg => g_bin (by first | exact evv rfl | exact evg rfl (by rw [hp]; rfl) | exact evg rfl hp | exact evg rfl hg | exact evg rfl (by first | (simp_all; done) | (simp [*]; done) | fail) | fail) (by first | exact evv rfl | exact evg rfl (by rw [hp]; rfl) | exact evg rfl hp | exact evg rfl hg | exact evg rfl (by first | (simp_all; done) | (simp [*]; done) | fail) | fail) (by rfl)) rfl rfl ?_
    refine oG (g_pick_and (evv rfl) (evv rfl) (fun hp => (by first | exact evv rfl | exact evg rfl (by rw [hp]; rfl) | exact evg rfl hp | exact evg rfl hg | exact evg rfl (by first | (simp_all; done) | (simp [*]; done) | fail) | fail))) rfl rfl ?_
    simp only [decide_eq_false h1, Bool.false_and]
    refine o_callP rfl _ (Ent.refl _) (must_f _ (fun _ _ => False)) rfl (fun ch L' h => pan_out (F := F) (l := (ve, entR es) :: l) (o := o) (b := b) rfl ⟨h.1, h.2.trans (Lay.ent)⟩ (hno (by omega)) rfl rfl rfl rfl rfl rfl) (fun _ _ h => h.elim)
end VK

namespace VK
open Go Go.Proofs
set_option linter.unusedSimpArgs false
set_option linter.unusedVariables false
set_option maxRecDepth 100000
set_option maxHeartbeats 40000000
theorem entsB_snoc {es : List EntS} {i : Nat} (h : i < es.length) : entsB (es.take (i + 1)) = entsB (es.take i) ++ entB (es.getD i default) := by
  rw [List.take_succ_eq_append_getElem h, entsB, entsB, List.flatMap_append]
  simp [h]
theorem opB_eq (o : OpS) : (if longOp o then [] else encOp o) = opB o := rfl
theorem putEntries_c (F : List Atom) (o : Nat) (b : List UInt8) (ve : Value) (es : List EntS) [rd : Rd F ve (entR es)] (hf : ∀ e ∈ es, e.ok) (hl : es.length ≤ 1048576) (hb : b.length ≤ 1000000000) :
    Fn Try.prog 38 [.pointer (some ⟨o, 0, none⟩), ve] (outA o b :: F) fun v L' => v = .tuple #[] ∧ L' = outA o (b ++ entsB es) :: F := by
  haveI rd' : Rd (outA o b :: F) ve (entR es) := rd.ent Ent.drop
  refine fn_intro Try.func38 rfl Try.ntmps38 rfl (fun W0 => ?_)
  simp only [argE]
  refine rS ?_
  refine rR (id := 0) ?_
  refine oG (gM (evv rfl)) rfl rfl ?_
  refine oG (g_lenF (evv rfl)) rfl rfl ?_
  refine oG (gM (evv rfl)) rfl rfl ?_
  refine oN ?_
  refine cC ?_
  refine r_block ?_
  refine r_loopE (σ := Nat) (fun i => i ≤ es.length) (fun i => es.length - i) (fun i => [(10, .v (.int .i64 i))]) [0, 8, 9] (fun i => outA o (b ++ entsB (es.take i)) :: F) 0 (by dsimp only [pickE, pick1, lk2, Nat.reduceBEq, Nat.reduceAdd, Nat.zero_add, cond_true, cond_false] <;> exact rfl) ?_ (by repeat (first | exact trivial | refine ⟨rfl, ?_⟩ | refine envsub_v rfl (by first | rfl | (refine int_eq ?_; first | omega | (simp; omega) | (simp; done)) | (refine bool_eq ?_; first | (simp [*]; done) | (simp; done)) | (refine str_eq ?_; simp; done) | (refine ptr_eq ?_; omega) | fail) ?_)) ?_ ?_
  · exact Nat.zero_le _
  · rw [List.take_zero]; simp only [entsB, List.flatMap_nil, List.append_nil]; exact Ent.refl _
  rintro i hi; (try dsimp only at hi); dsimp only [List.cons_append, List.nil_append]
  haveI rd2 : ∀ A, Rd (A :: F) ve (entR es) := fun A => rd.ent Ent.drop
  refine rS ?_
  refine rR (id := 1) ?_
  refine oG (g_bin (evv rfl) (evv rfl) (by rfl)) rfl rfl ?_
  refine oN ?_
  refine cC ?_
  refine rS ?_
  refine r_cond rfl (fun hc => ?_) (fun hc => ?_) <;> (try simp only [decide_eq_true_eq, decide_eq_false_iff_not, Bool.and_eq_true, Bool.or_eq_true, Bool.not_eq_true', Bool.and_eq_false_iff, Bool.or_eq_false_iff, Bool.not_eq_false', Bool.not_eq_true, Bool.not_eq_false, Bool.true_eq_false, Bool.false_eq_true, Int.not_lt, Int.not_le, not_and, not_or, ne_eq] at hc)
  · have hi2 : i < es.length := by omega
    have hmem : es.getD i default ∈ es := by rw [List.getD_eq_getElem?_getD, List.getElem?_eq_getElem hi2]; exact List.getElem_mem hi2
    obtain ⟨he1, he2, he3⟩ := hf _ hmem
    have hop := opB_len he3
    have hsz := entsB_len (l := es.take i) (fun e he => hf e (List.mem_of_mem_take he))
    rw [List.length_take] at hsz
    have hsnoc := entsB_snoc hi2
    refine r_skip ?_
    refine cC ?_
    refine rS ?_
    refine r_block ?_
    refine rS ?_
    refine rR (id := 2) ?_
    refine oG (g_idxFN (evv rfl) (evv rfl) (by rfl) (by rfl) (by first | omega | (have := of_decide_eq_true hg; omega) | (simp at hg; omega) | (simp only [List.length_set, List.length_append, List.length_cons, List.length_nil, List.length_map, List.length_take, List.length_drop, List.length_replicate]; omega))) rfl rfl ?_
    refine oG (g_loadFr (evv rfl) (by rfl) (by first | (intro; rfl) | exact LenC.h) (by rfl) (by rfl) (by first | omega | (have := of_decide_eq_true hg; omega) | (simp at hg; omega) | (simp only [List.length_set, List.length_append, List.length_cons, List.length_nil, List.length_map, List.length_take, List.length_drop, List.length_replicate]; omega))) rfl rfl ?_
    refine o_alloc rfl rfl (fun _ => ?_)
    refine o_storeW (evv rfl) (evv rfl) (by first | rfl | assumption | exact LenC.h _ | (simp [bys, *]; done) | fail) (by first | (intro _ _ _; exact bys_one _) | exact AllOne.h | (intro _ _ _ u hu; simp at hu; rcases hu with rfl | rfl | rfl | rfl | rfl | rfl | rfl | rfl <;> rfl) | fail) (by first | rfl | exact (LenC.h _).trans rfl | exact (LenC.h _).trans (LenC.h _).symm | (simp [bys, *]; done) | (simp only [bys, List.length_map, *]; rfl) | fail) ?_
    refine oN ?_
    refine cC ?_
    refine rS ?_
    generalize es.getD i default = e at *
    generalize entsB (es.take i) = eb at *
    have hbi1 := intB_len he1
    have hbi2 := intB_len he2
    simp only [inR] at he1 he2
    refine rR (id := 3) ?_
    refine oG (g_fld (evv rfl)) rfl rfl ?_
    refine oG (g_loadF (evv rfl) (by rfl) (by rfl)) rfl rfl ?_
    (refine o_call rfl _ (Ent.refl _) (OpEnc_c _ _ (by assumption)) rfl ?_; rintro _ _ ⟨v, rfl, rfl⟩)
    refine oG (gM (evv rfl)) rfl rfl ?_
    refine oG (g_extract (evv rfl) (by rfl)) rfl rfl ?_
    refine oG (g_extract (evv rfl) (by rfl)) rfl rfl ?_
    refine oG (gA (evv rfl)) rfl rfl ?_
    refine oG (gA (evv rfl)) rfl rfl ?_
    refine oN ?_
    refine cC ?_
    refine rS ?_
    rw [opB_eq]
    refine rR (id := 4) ?_
    refine oG (gM (evv rfl)) rfl rfl ?_
    refine oG (g_fld (evv rfl)) rfl rfl ?_
    refine oG (g_load (evv rfl) (by rfl) (by rfl)) rfl rfl ?_
    (refine o_call rfl _ (Ent.refl _) (Int_l _ (by omega) (by (try simp only [bsOf, List.length_append, List.length_cons, List.length_nil]); omega)) rfl ?_; rintro _ _ ⟨rfl, rfl⟩)
    refine oN ?_
    refine cC ?_
    refine rS ?_
    refine rR (id := 5) ?_
    refine oG (gM (evv rfl)) rfl rfl ?_
    refine oG (g_fld (evv rfl)) rfl rfl ?_
    refine oG (g_load (evv rfl) (by rfl) (by rfl)) rfl rfl ?_
    (refine o_call rfl _ (Ent.refl _) (Int_l _ (by omega) (by (try simp only [bsOf, List.length_append, List.length_cons, List.length_nil]); omega)) rfl ?_; rintro _ _ ⟨rfl, rfl⟩)
    refine oN ?_
    refine cC ?_
    refine rR (id := 6) ?_
    refine oG (gM (evv rfl)) rfl rfl ?_
    refine oG (gM (evv rfl)) rfl rfl ?_
    refine oG (g_b2sM (evv rfl)) rfl rfl ?_
    (refine o_call rfl _ (Ent.refl _) (Text_l (by (try simp only [bsOf, List.length_append, List.length_cons, List.length_nil]); omega)) rfl ?_; rintro _ _ ⟨rfl, rfl⟩)
    refine oN ?_
    refine c_blk ?_
    refine cC ?_
    refine rR (id := 7) ?_
    refine o_giveN (g_bin (evv rfl) (evv rfl) (by rfl)) (by simp only [inR]; omega) rfl ?_
    refine oG (gM (evv rfl)) rfl rfl ?_
    refine oN ?_
    refine c_loop (i + 1) ?_ ?_ (by repeat (first | exact trivial | refine ⟨rfl, ?_⟩ | refine envsub_v rfl (by first | rfl | (refine int_eq ?_; first | omega | (simp; omega) | (simp; done)) | (refine bool_eq ?_; first | (simp [*]; done) | (simp; done)) | (refine str_eq ?_; simp; done) | (refine ptr_eq ?_; omega) | fail) ?_)) ?_ <;> (try dsimp only)
    · omega
    · omega
    · rw [hsnoc]; simp only [entB, List.append_assoc]; exact Lay.ent
  · obtain rfl : i = es.length := by omega
    rw [List.take_length]
    refine r_exit rfl ?_
    first | refine r_ret (rs := []) rfl rfl _ (Ent.refl _) ?_ | refine c_end (rs := []) rfl rfl _ (Ent.refl _) ?_
    exact ⟨rfl, rfl⟩
theorem right_c (L : List Atom) (ve vn : Value) (es : List EntS) (ns : List Int) [rd : Rd L ve (entR es)] [rn : Rd L vn (mrow i64v 2 ns)] (hf : ∀ e ∈ es, e.ok) (hl : es.length ≤ 1048576) :
    Fn Try.prog 54 [ve, vn] L fun v L' => v = .bool (decide ((∀ n ∈ ns, 0 ≤ n) ∧ es.length ≤ 32 ∧ ∀ e ∈ es, ¬ longOp e.op)) ∧ L' = L := by
  have hgr : gr = 1099511627776 := rfl
  refine fn_lenM rn fun hln => ?_
  have hln : ns.length ≤ 2 ^ 63 - 1 := hln
  have hk : KeptS.ok ⟨0, 0, 0, [], es⟩ ↔ (es.length ≤ 32 ∧ ∀ e ∈ es, ¬ longOp e.op) := by
    rw [ok_num]
    constructor
    · rintro ⟨⟨_, _, _, _, _, _, _, _, _, h⟩, h2⟩; exact ⟨h, h2⟩
    · rintro ⟨h, h2⟩; exact ⟨⟨by omega, by omega, by omega, by omega, by omega, by omega, by omega, by simp, fun _ => rfl, h⟩, h2⟩
  refine fn_intro Try.func54 rfl Try.ntmps54 rfl (fun W0 => ?_)
  simp only [argE]
  refine rS ?_
  refine rR (id := 0) ?_
  refine oG (gA (evv rfl)) rfl rfl ?_
  refine oN ?_
  refine cC ?_
  refine rS ?_
  refine rS ?_
  refine rR (id := 1) ?_
  refine oG (gM (evv rfl)) rfl rfl ?_
  refine oG (g_lenM (evv rfl)) rfl rfl ?_
  refine oG (gM (evv rfl)) rfl rfl ?_
  refine oN ?_
  refine cC ?_
  refine r_block ?_
  refine r_loopE (σ := Nat) (fun i => i ≤ ns.length ∧ ∀ n ∈ ns.take i, 0 ≤ n) (fun i => ns.length - i) (fun i => [(9, .v (.int .i64 i))]) [0, 7, 8] (fun i => L) 0 (by dsimp only [pickE, pick1, lk2, Nat.reduceBEq, Nat.reduceAdd, Nat.zero_add, cond_true, cond_false] <;> exact rfl) ?_ (by repeat (first | exact trivial | refine ⟨rfl, ?_⟩ | refine envsub_v rfl (by first | rfl | (refine int_eq ?_; first | omega | (simp; omega) | (simp; done)) | (refine bool_eq ?_; first | (simp [*]; done) | (simp; done)) | (refine str_eq ?_; simp; done) | (refine ptr_eq ?_; omega) | fail) ?_)) ?_ ?_
  · exact ⟨Nat.zero_le _, fun n hn => by simp at hn⟩
  · exact Ent.refl _
  rintro i ⟨hi, hI⟩; dsimp only [List.cons_append, List.nil_append]
  refine rS ?_
  refine rR (id := 2) ?_
  refine oG (g_bin (evv rfl) (evv rfl) (by rfl)) rfl rfl ?_
  refine oN ?_
  refine cC ?_
  refine rS ?_
  refine r_cond rfl (fun hc => ?_) (fun hc => ?_) <;> (try simp only [decide_eq_true_eq, decide_eq_false_iff_not, Bool.and_eq_true, Bool.or_eq_true, Bool.not_eq_true', Bool.and_eq_false_iff, Bool.or_eq_false_iff, Bool.not_eq_false', Bool.not_eq_true, Bool.not_eq_false, Bool.true_eq_false, Bool.false_eq_true, Int.not_lt, Int.not_le, not_and, not_or, ne_eq] at hc)
  · have hi2 : i < ns.length := by omega
    have hg : ns.getD i default = ns[i] := by simp [hi2]
    have hmem : ns.getD i default ∈ ns := by rw [hg]; exact List.getElem_mem hi2
    refine r_skip ?_
    refine cC ?_
    refine rS ?_
    refine r_block ?_
    refine rS ?_
    refine rR (id := 3) ?_
    refine oG (g_idxMN (evv rfl) (evv rfl) (by rfl) (by first | omega | (have := of_decide_eq_true hg; omega) | (simp at hg; omega) | (simp only [List.length_set, List.length_append, List.length_cons, List.length_nil, List.length_map, List.length_take, List.length_drop, List.length_replicate]; omega))) rfl rfl ?_
    refine oG (g_loadM (evv rfl) (by rfl) (by first | omega | (have := of_decide_eq_true hg; omega) | (simp at hg; omega) | (simp only [List.length_set, List.length_append, List.length_cons, List.length_nil, List.length_map, List.length_take, List.length_drop, List.length_replicate]; omega))) rfl rfl ?_
    refine oG (gA (evv rfl)) rfl rfl ?_
    refine oN ?_
    refine cC ?_
    refine rS ?_
    refine rR (id := 4) ?_
    refine oG (gM (evv rfl)) rfl rfl ?_
    refine oG (g_bin (evv rfl) (evv rfl) (by rfl)) rfl rfl ?_
    refine oN ?_
    refine cC ?_
    refine r_cond rfl (fun hneg => ?_) (fun hneg => ?_) <;> (try simp only [decide_eq_true_eq, decide_eq_false_iff_not, Bool.and_eq_true, Bool.or_eq_true, Bool.not_eq_true', Bool.and_eq_false_iff, Bool.or_eq_false_iff, Bool.not_eq_false', Bool.not_eq_true, Bool.not_eq_false, Bool.true_eq_false, Bool.false_eq_true, Int.not_lt, Int.not_le, not_and, not_or, ne_eq] at hneg)
    · rw [decide_eq_false (fun h => by have := h.1 _ hmem; unfold i64v at *; omega)]
      refine rS ?_
      refine rR (id := 5) ?_
      refine oG (gA (evv rfl)) rfl rfl ?_
      refine oN ?_
      refine cC ?_
      first | refine r_ret (rs := [.tmp 4]) rfl rfl _ (Ent.refl _) ?_ | refine c_end (rs := [.tmp 4]) rfl rfl _ (Ent.refl _) ?_
      exact ⟨rfl, rfl⟩
    · refine r_skip ?_
      refine c_blk ?_
      refine cC ?_
      refine rR (id := 6) ?_
      refine o_giveN (g_bin (evv rfl) (evv rfl) (by rfl)) (by simp only [inR]; omega) rfl ?_
      refine oG (gM (evv rfl)) rfl rfl ?_
      refine oN ?_
      refine c_loop (i + 1) ?_ ?_ (by repeat (first | exact trivial | refine ⟨rfl, ?_⟩ | refine envsub_v rfl (by first | rfl | (refine int_eq ?_; first | omega | (simp; omega) | (simp; done)) | (refine bool_eq ?_; first | (simp [*]; done) | (simp; done)) | (refine str_eq ?_; simp; done) | (refine ptr_eq ?_; omega) | fail) ?_)) ?_ <;> (try dsimp only)
      · refine ⟨by omega, fun n hn => ?_⟩
        rw [List.take_succ_eq_append_getElem hi2, List.mem_append, List.mem_singleton] at hn
        rcases hn with hn | rfl
        · exact hI n hn
        · rw [← hg]; exact hneg
      · omega
      · exact Ent.refl _
  · obtain rfl : i = ns.length := by omega
    rw [List.take_length] at hI
    have hs0 : ([] : List UInt8).length ≤ 140737488355000 := by simp
    refine r_exit rfl ?_
    refine cC ?_
    refine rS ?_
    refine rR (id := 7) ?_
    refine oG (gM (evv rfl)) rfl rfl ?_
    refine oG (g_buildC rfl (by rfl)) rfl rfl ?_
    (refine o_call rfl _ (Ent.refl _) (jCheck_c _ _ _ _ _ _ _ (by first | assumption | omega) (by first | assumption | omega) (by assumption)) rfl ?_; rintro _ _ ⟨rfl, hLz⟩; obtain rfl := hLz.symm; clear hLz)
    refine oG (g_bin (evv rfl) (evv rfl) (by rfl)) rfl rfl ?_
    refine oG (gA (evv rfl)) rfl rfl ?_
    refine oN ?_
    refine cC ?_
    first | refine r_ret (rs := [.tmp 4]) rfl rfl _ (Ent.refl _) ?_ | refine c_end (rs := [.tmp 4]) rfl rfl _ (Ent.refl _) ?_
    refine ⟨?_, rfl⟩
    by_cases h : KeptS.ok ⟨0, 0, 0, [], es⟩
    · have h2 := hk.1 h
      rw [if_pos h, decide_eq_true (p := (∀ n ∈ ns, 0 ≤ n) ∧ es.length ≤ 32 ∧ ∀ e ∈ es, ¬ longOp e.op) ⟨hI, h2⟩]; rfl
    · rw [if_neg h, decide_eq_false (p := (∀ n ∈ ns, 0 ≤ n) ∧ es.length ≤ 32 ∧ ∀ e ∈ es, ¬ longOp e.op) (fun q => h (hk.2 q.2))]; rfl
end VK

namespace VK
open Go Go.Proofs
set_option linter.unusedSimpArgs false
set_option linter.unusedVariables false
set_option maxRecDepth 100000
set_option maxHeartbeats 40000000
abbrev jrX (j p : Nat) (k : KeptS) (ve : Value) : List Atom := [blk j ⟨.pointer (some ⟨p, 0, none⟩) :: kC k.view k.normal k.base k.state ve, 74⟩, rom [(ve, entR k.ents)]]
def jr (j : Nat) (q : Nat × KeptS) : Atom := exA (jrX j q.1 q.2)
theorem romOne {l : List (Value × Row)} {v : Value} {r : Row} {L : List Atom} [k : InR l v r] : Ent (rom l :: L) (rom [(v, r)] :: L) := Ent.romSub fun h q => by
  have := k.h h q
  unfold rom
  intro x hx
  rw [List.mem_singleton] at hx
  subst hx
  exact this
theorem jr_shut {j p : Nat} {view normal base : Int} {state : List UInt8} {es : List EntS} {ve : Value} {l : List (Value × Row)} {F : List Atom} [k : InR l ve (entR es)] : Ent (blk j ⟨[.pointer (some ⟨p, 0, none⟩), .int .i64 view, .int .i64 normal, .int .i64 base, str state, ve], 74⟩ :: rom l :: F) (jr j (p, ⟨view, normal, base, state, es⟩) :: F) := (Ent.cons romOne).trans (Ent.shut (X := jrX j p ⟨view, normal, base, state, es⟩) ve)
theorem write_c (F : List Atom) (j p o : Nat) (x : Pt) (k : KeptS) (b : List UInt8) (hx : x.ok) (hk : k.ok) (hf : k.fine) (hb : b.length ≤ 262144) (hs : sizeP x + 262152 ≤ 1000000000) :
    Fn Try.prog 53 [.pointer (some ⟨j, 0, none⟩), .pointer (some ⟨o, 0, none⟩)] (jr j (p, k) :: pt p x :: outA o b :: F) fun v L' => v = .int .i64 (writeT x k b).1 ∧ L' = jr j (p, (writeT x k b).2.2) :: pt p (writeT x k b).2.1 :: F := by
  refine Fn.exA fun ve => ?_
  obtain ⟨view, normal, base, state, es⟩ := k
  dsimp only [jrX, List.cons_append, List.nil_append]
  have hb2 : b.length ≤ 140737488355000 := by omega
  refine fn_intro Try.func53 rfl Try.ntmps53 rfl (fun W0 => ?_)
  simp only [argE]
  refine rS ?_
  refine rR (id := 0) ?_
  refine oG (gA (evv rfl)) rfl rfl ?_
  refine oN ?_
  refine cC ?_
  refine rS ?_
  refine rS ?_
  refine rR (id := 1) ?_
  refine oG (gM (evv rfl)) rfl rfl ?_
  refine oG (g_pnil TyU.h (evv rfl) (evv rfl) (by simp) (by rfl)) rfl rfl ?_
  refine oN ?_
  refine cC ?_
  refine r_cond_false rfl ?_
  refine r_skip ?_
  refine cC ?_
  refine rS ?_
  generalize hr : foldK ⟨view, normal, base, state, es⟩ b = r
  repeat (first | refine rS ?_ | refine cC ?_ | refine c_blk ?_ | refine r_block ?_ | refine r_skip ?_)
  refine r_cutE (σ := Nat × Value) (fun ⟨c, fv⟩ => [(5, .v (.pointer (some ⟨c, 0, none⟩))), (6, .v (.bool r.isSome))]) [0, 1] (fun ⟨c, fv⟩ => blk c ⟨kC (r.getD zeroK).view (r.getD zeroK).normal (r.getD zeroK).base (r.getD zeroK).state fv, 28⟩ :: blk j ⟨.pointer (some ⟨p, 0, none⟩) :: kC view normal base state ve, 74⟩ :: rom [(fv, entR (r.getD zeroK).ents), (ve, entR es)] :: pt p x :: outA o b :: F) (by dsimp only [pickE, pick1, lk2, Nat.reduceBEq, Nat.reduceAdd, Nat.zero_add, cond_true, cond_false] <;> exact rfl) ?_ ?_
  · refine r_held (id := 3) [blk j ⟨.pointer (some ⟨p, 0, none⟩) :: kC view normal base state ve, 74⟩] Mixed.h ?_
    (refine h_give (i := 0) (by kernel_rfl) rfl (gM (evv rfl)) rfl rfl ?_)
    (refine h_give (i := 1) (by kernel_rfl) rfl (g_nil (evv rfl)) rfl rfl ?_)
    (refine h_give (i := 2) (by kernel_rfl) rfl (g_fld (evv rfl)) rfl rfl ?_)
    (refine h_give (i := 3) (by kernel_rfl) rfl (g_loadF (evv rfl) (by rfl) (by rfl)) rfl rfl ?_)
    (refine h_give (i := 4) (by kernel_rfl) rfl (gM (evv rfl)) rfl rfl ?_)
    refine h_two (i := 5) (j := 10) (by kernel_rfl) rfl rfl (Lay.ent) ?_ ?_
    · ((refine o_call rfl _ (Ent.refl _) (Bytes_l (by (try simp only [bsOf, List.length_append, List.length_cons, List.length_nil]); omega)) rfl ?_; rintro _ _ ⟨_, rfl⟩)); refine oN ?_
      refine h_two (i := 6) (j := 10) (by kernel_rfl) rfl rfl (Lay.ent) ?_ ?_
      · ((refine o_call rfl _ (PickR.ent (K := rom)) (fold_c _ _ _ _ _ _ _ _ _ _ (by first | assumption | omega) (by assumption) (by assumption)) rfl ?_; rintro _ _ ⟨fv, rfl, rfl⟩; simp only [foldV'])); refine oN ?_
        (refine h_give (i := 7) (by kernel_rfl) rfl (gM (evv rfl)) rfl rfl ?_)
        (refine h_give (i := 8) (by kernel_rfl) rfl (g_extract (evv rfl) (by rfl)) rfl rfl ?_)
        (refine h_give (i := 9) (by kernel_rfl) rfl (g_extract (evv rfl) (by rfl)) rfl rfl ?_)
        refine h_one (i := 10) (by kernel_rfl) rfl (Lay.ent) ?_
        (refine o_alloc rfl rfl (fun _ => ?_)); refine oN ?_
        refine h_one (i := 11) (by kernel_rfl) rfl (Lay.ent) ?_
        (refine o_storeW (evv rfl) (evv rfl) (by first | rfl | assumption | exact LenC.h _ | (simp [bys, *]; done) | fail) (by first | (intro _ _ _; exact bys_one _) | exact AllOne.h | (intro _ _ _ u hu; simp at hu; rcases hu with rfl | rfl | rfl | rfl | rfl | rfl | rfl | rfl <;> rfl) | fail) (by first | rfl | exact (LenC.h _).trans rfl | exact (LenC.h _).trans (LenC.h _).symm | (simp [bys, *]; done) | (simp only [bys, List.length_map, *]; rfl) | fail) ?_); refine oN ?_
        (refine h_give (i := 12) (by kernel_rfl) rfl (gA (evv rfl)) rfl rfl ?_)
        refine h_done (by kernel_rfl) (Lay.ent) ?_
        exact c_cut (by assumption, by assumption) (by repeat (first | exact trivial | refine ⟨rfl, ?_⟩ | refine envsub_v rfl (by first | rfl | (refine int_eq ?_; first | omega | (simp; omega) | (simp; done)) | (refine bool_eq ?_; first | (simp [*]; done) | (simp; done)) | (refine str_eq ?_; simp; done) | (refine ptr_eq ?_; omega) | fail) ?_)) ((by rw [← hr]; exact Lay.ent))
      · (refine o_alloc rfl rfl (fun _ => ?_)); refine oN ?_
        refine h_one (i := 6) (by kernel_rfl) rfl (Lay.ent) ?_
        ((refine o_call rfl _ (PickR.ent (K := rom)) (fold_c _ _ _ _ _ _ _ _ _ _ (by first | assumption | omega) (by assumption) (by assumption)) rfl ?_; rintro _ _ ⟨fv, rfl, rfl⟩; simp only [foldV'])); refine oN ?_
        (refine h_give (i := 7) (by kernel_rfl) rfl (gM (evv rfl)) rfl rfl ?_)
        (refine h_give (i := 8) (by kernel_rfl) rfl (g_extract (evv rfl) (by rfl)) rfl rfl ?_)
        (refine h_give (i := 9) (by kernel_rfl) rfl (g_extract (evv rfl) (by rfl)) rfl rfl ?_)
        refine h_one (i := 11) (by kernel_rfl) rfl (Lay.ent) ?_
        (refine o_storeW (evv rfl) (evv rfl) (by first | rfl | assumption | exact LenC.h _ | (simp [bys, *]; done) | fail) (by first | (intro _ _ _; exact bys_one _) | exact AllOne.h | (intro _ _ _ u hu; simp at hu; rcases hu with rfl | rfl | rfl | rfl | rfl | rfl | rfl | rfl <;> rfl) | fail) (by first | rfl | exact (LenC.h _).trans rfl | exact (LenC.h _).trans (LenC.h _).symm | (simp [bys, *]; done) | (simp only [bys, List.length_map, *]; rfl) | fail) ?_); refine oN ?_
        (refine h_give (i := 12) (by kernel_rfl) rfl (gA (evv rfl)) rfl rfl ?_)
        refine h_done (by kernel_rfl) (Lay.ent) ?_
        exact c_cut (by assumption, by assumption) (by repeat (first | exact trivial | refine ⟨rfl, ?_⟩ | refine envsub_v rfl (by first | rfl | (refine int_eq ?_; first | omega | (simp; omega) | (simp; done)) | (refine bool_eq ?_; first | (simp [*]; done) | (simp; done)) | (refine str_eq ?_; simp; done) | (refine ptr_eq ?_; omega) | fail) ?_)) ((by rw [← hr]; exact Lay.ent))
    · (refine o_alloc rfl rfl (fun _ => ?_)); refine oN ?_
      refine h_one (i := 5) (by kernel_rfl) rfl (Lay.ent) ?_
      ((refine o_call rfl _ (Ent.refl _) (Bytes_l (by (try simp only [bsOf, List.length_append, List.length_cons, List.length_nil]); omega)) rfl ?_; rintro _ _ ⟨_, rfl⟩)); refine oN ?_
      refine h_one (i := 6) (by kernel_rfl) rfl (Lay.ent) ?_
      ((refine o_call rfl _ (PickR.ent (K := rom)) (fold_c _ _ _ _ _ _ _ _ _ _ (by first | assumption | omega) (by assumption) (by assumption)) rfl ?_; rintro _ _ ⟨fv, rfl, rfl⟩; simp only [foldV'])); refine oN ?_
      (refine h_give (i := 7) (by kernel_rfl) rfl (gM (evv rfl)) rfl rfl ?_)
      (refine h_give (i := 8) (by kernel_rfl) rfl (g_extract (evv rfl) (by rfl)) rfl rfl ?_)
      (refine h_give (i := 9) (by kernel_rfl) rfl (g_extract (evv rfl) (by rfl)) rfl rfl ?_)
      refine h_one (i := 11) (by kernel_rfl) rfl (Lay.ent) ?_
      (refine o_storeW (evv rfl) (evv rfl) (by first | rfl | assumption | exact LenC.h _ | (simp [bys, *]; done) | fail) (by first | (intro _ _ _; exact bys_one _) | exact AllOne.h | (intro _ _ _ u hu; simp at hu; rcases hu with rfl | rfl | rfl | rfl | rfl | rfl | rfl | rfl <;> rfl) | fail) (by first | rfl | exact (LenC.h _).trans rfl | exact (LenC.h _).trans (LenC.h _).symm | (simp [bys, *]; done) | (simp only [bys, List.length_map, *]; rfl) | fail) ?_); refine oN ?_
      (refine h_give (i := 12) (by kernel_rfl) rfl (gA (evv rfl)) rfl rfl ?_)
      refine h_done (by kernel_rfl) (Lay.ent) ?_
      exact c_cut (by assumption, by assumption) (by repeat (first | exact trivial | refine ⟨rfl, ?_⟩ | refine envsub_v rfl (by first | rfl | (refine int_eq ?_; first | omega | (simp; omega) | (simp; done)) | (refine bool_eq ?_; first | (simp [*]; done) | (simp; done)) | (refine str_eq ?_; simp; done) | (refine ptr_eq ?_; omega) | fail) ?_)) ((by rw [← hr]; exact Lay.ent))
  rintro ⟨c, fv⟩
  dsimp only
  cases r with
  | none =>
    rw [writeT_none hr]
    simp only [Option.getD_none, Option.isSome_none]
    dsimp only [kC]
    refine cC ?_
    refine rS ?_
    refine rS ?_
    refine rR (id := 4) ?_
    refine oG (gM (evv rfl)) rfl rfl ?_
    refine oG (g_not (evv rfl)) rfl rfl ?_
    refine oN ?_
    refine cC ?_
    refine r_cond_true rfl ?_
    refine rS ?_
    refine rR (id := 5) ?_
    refine oG (gA (evv rfl)) rfl rfl ?_
    refine oN ?_
    refine cC ?_
    first | refine r_ret (rs := [.tmp 4]) rfl rfl _ (((Lay.ent (L' := blk j ⟨[.pointer (some ⟨p, 0, none⟩), .int .i64 view, .int .i64 normal, .int .i64 base, str state, ve], 74⟩ :: rom [(fv, entR zeroK.ents), (ve, entR es)] :: pt p x :: F)).trans jr_shut)) ?_ | refine c_end (rs := [.tmp 4]) rfl rfl _ (((Lay.ent (L' := blk j ⟨[.pointer (some ⟨p, 0, none⟩), .int .i64 view, .int .i64 normal, .int .i64 base, str state, ve], 74⟩ :: rom [(fv, entR zeroK.ents), (ve, entR es)] :: pt p x :: F)).trans jr_shut)) ?_
    exact ⟨rfl, rfl⟩
  | some k' =>
    have hfr : frR b = (frameB b, 0) := if_neg (by omega)
    have hl8 := frame_len b
    have hb9 : b.length ≤ 1048576 := by omega
    have hm9 : (frameB b).length ≤ 1000000000 := by omega
    rw [writeT_some hr]
    simp only [Option.getD_some, Option.isSome_some]
    obtain ⟨hx1, hz1⟩ := appT_ok hx (i := x.live) (m := frameB b) (by omega)
    rcases hA : appT x x.live (frameB b) with ⟨e1, x1⟩
    rw [hA] at hx1 hz1
    dsimp only at hx1 hz1 ⊢
    rcases hB : synT x1 x1.live with ⟨e2, x2⟩
    dsimp only
    refine cC ?_
    refine rS ?_
    refine rS ?_
    refine rR (id := 4) ?_
    refine oG (gM (evv rfl)) rfl rfl ?_
    refine oG (g_not (evv rfl)) rfl rfl ?_
    refine oN ?_
    refine cC ?_
    refine r_cond_false rfl ?_
    refine r_skip ?_
    refine cC ?_
    refine rS ?_
    refine rR (id := 6) ?_
    refine oG (gM (evv rfl)) rfl rfl ?_
    (refine o_call rfl _ (Ent.refl _) (Bytes_l (by (try simp only [bsOf, List.length_append, List.length_cons, List.length_nil]); omega)) rfl ?_; rintro _ _ ⟨_, rfl⟩)
    (refine o_call rfl _ (Ent.refl _) (Frame_c _ _ _ (by first | assumption | omega)) rfl ?_; rintro _ _ ⟨ff, rfl, rfl⟩)
    refine oG (gM (evv rfl)) rfl rfl ?_
    refine oG (g_extract (evv rfl) (by rfl)) rfl rfl ?_
    refine oG (g_extract (evv rfl) (by rfl)) rfl rfl ?_
    refine oG (gA (evv rfl)) rfl rfl ?_
    refine oG (gA (evv rfl)) rfl rfl ?_
    refine oN ?_
    refine cC ?_
    refine rS ?_
    refine rS ?_
    refine rR (id := 7) ?_
    refine oG (gM (evv rfl)) rfl rfl ?_
    refine oG (g_bin (evv rfl) (evv rfl) (by rfl)) rfl rfl ?_
    refine oN ?_
    refine cC ?_
    rw [hfr]
    dsimp only
    refine r_cond_true rfl ?_
    repeat (first | refine rS ?_ | refine cC ?_ | refine c_blk ?_ | refine r_block ?_ | refine r_skip ?_)
    refine r_held (id := 8) [blk j ⟨[.pointer (some ⟨p, 0, none⟩), .int .i64 view, .int .i64 normal, .int .i64 base, str state, ve], 74⟩] Mixed.h ?_
    refine h_give (i := 0) (by kernel_rfl) rfl (gM (evv rfl)) rfl rfl ?_
    refine h_give (i := 1) (by kernel_rfl) rfl (g_nil (evv rfl)) rfl rfl ?_
    refine h_give (i := 2) (by kernel_rfl) rfl (g_fld (evv rfl)) rfl rfl ?_
    refine h_give (i := 3) (by kernel_rfl) rfl (g_load (evv rfl) (by rfl) (by rfl)) rfl rfl ?_
    refine h_give (i := 4) (by kernel_rfl) rfl (gM (evv rfl)) rfl rfl ?_
    refine h_give (i := 5) (by kernel_rfl) rfl (g_nil (evv rfl)) rfl rfl ?_
    refine h_give (i := 6) (by kernel_rfl) rfl (g_fld (evv rfl)) rfl rfl ?_
    refine h_give (i := 7) (by kernel_rfl) rfl (g_load (evv rfl) (by rfl) (by rfl)) rfl rfl ?_
    refine h_give (i := 9) (by kernel_rfl) rfl (gM (evv rfl)) rfl rfl ?_
    refine h_one (i := 8) (by kernel_rfl) rfl (Lay.ent) ?_
    (refine o_call rfl _ (PickR.ent (K := pt _)) (Live_c _ _ _) rfl ?_; rintro _ _ ⟨rfl, rfl⟩)
    refine oN ?_
    refine h_one (i := 10) (by kernel_rfl) rfl (Lay.ent) ?_
    (refine o_call rfl _ (PickR.ent (K := pt _)) (Append_c _ _ _ (by assumption) _ _ _ (by first | assumption | omega)) rfl ?_; rintro _ _ ⟨rfl, rfl⟩)
    refine oN ?_
    refine h_give (i := 11) (by kernel_rfl) rfl (gA (evv rfl)) rfl rfl ?_
    refine h_done (by kernel_rfl) (Lay.ent) ?_
    rw [hA]
    dsimp only
    have hs1 : sizeP x1 ≤ 1000000000 := by omega
    by_cases h1 : e1 = 0
    · subst h1
      refine cC ?_
      refine rS ?_
      refine rS ?_
      refine rR (id := 9) ?_
      refine oG (gM (evv rfl)) rfl rfl ?_
      refine oG (g_bin (evv rfl) (evv rfl) (by rfl)) rfl rfl ?_
      refine oN ?_
      refine cC ?_
      refine r_cond_true rfl ?_
      repeat (first | refine rS ?_ | refine cC ?_ | refine c_blk ?_ | refine r_block ?_ | refine r_skip ?_)
      refine r_held (id := 10) [blk j ⟨[.pointer (some ⟨p, 0, none⟩), .int .i64 view, .int .i64 normal, .int .i64 base, str state, ve], 74⟩] Mixed.h ?_
      refine h_give (i := 0) (by kernel_rfl) rfl (gM (evv rfl)) rfl rfl ?_
      refine h_give (i := 1) (by kernel_rfl) rfl (g_nil (evv rfl)) rfl rfl ?_
      refine h_give (i := 2) (by kernel_rfl) rfl (g_fld (evv rfl)) rfl rfl ?_
      refine h_give (i := 3) (by kernel_rfl) rfl (g_load (evv rfl) (by rfl) (by rfl)) rfl rfl ?_
      refine h_give (i := 4) (by kernel_rfl) rfl (gM (evv rfl)) rfl rfl ?_
      refine h_give (i := 5) (by kernel_rfl) rfl (g_nil (evv rfl)) rfl rfl ?_
      refine h_give (i := 6) (by kernel_rfl) rfl (g_fld (evv rfl)) rfl rfl ?_
      refine h_give (i := 7) (by kernel_rfl) rfl (g_load (evv rfl) (by rfl) (by rfl)) rfl rfl ?_
      refine h_one (i := 8) (by kernel_rfl) rfl (Lay.ent) ?_
      (refine o_call rfl _ (PickR.ent (K := pt _)) (Live_c _ _ _) rfl ?_; rintro _ _ ⟨rfl, rfl⟩)
      refine oN ?_
      refine h_one (i := 9) (by kernel_rfl) rfl (Lay.ent) ?_
      (refine o_call rfl _ (PickR.ent (K := pt _)) (Sync_c _ _ _ (by assumption) _) rfl ?_; rintro _ _ ⟨rfl, rfl⟩)
      refine oN ?_
      refine h_give (i := 10) (by kernel_rfl) rfl (gA (evv rfl)) rfl rfl ?_
      refine h_done (by kernel_rfl) (Lay.ent) ?_
      rw [hB]
      dsimp only
      by_cases h2 : e2 = 0
      · subst h2
        refine cC ?_
        refine rS ?_
        refine rS ?_
        refine rR (id := 11) ?_
        refine oG (gM (evv rfl)) rfl rfl ?_
        refine oG (g_bin (evv rfl) (evv rfl) (by rfl)) rfl rfl ?_
        refine oN ?_
        refine cC ?_
        refine r_cond_true rfl ?_
        refine rR (id := 12) ?_
        refine oG (gM (evv rfl)) rfl rfl ?_
        refine oG (g_loadF (evv rfl) (by rfl) (by rfl)) rfl rfl ?_
        refine oG (g_nil (evv rfl)) rfl rfl ?_
        refine oG (g_fld (evv rfl)) rfl rfl ?_
        refine o_storeA (evv rfl) (evv rfl) (by first | rfl | assumption | exact LenC.h _ | (simp [bys, *]; done) | fail) (by first | (intro _ _ _; exact bys_one _) | exact AllOne.h | (intro _ _ _ u hu; simp at hu; rcases hu with rfl | rfl | rfl | rfl | rfl | rfl | rfl | rfl <;> rfl) | fail) (by rfl) (by rfl) ?_
        refine oN ?_
        refine cC ?_
        refine rS ?_
        refine rR (id := 13) ?_
        refine oG (gM (evv rfl)) rfl rfl ?_
        refine oG (gA (evv rfl)) rfl rfl ?_
        refine oN ?_
        refine cC ?_
        first | refine r_ret (rs := [.tmp 4]) rfl rfl _ (((Lay.ent (L' := blk j ⟨[.pointer (some ⟨p, 0, none⟩), .int .i64 k'.view, .int .i64 k'.normal, .int .i64 k'.base, str k'.state, fv], 74⟩ :: rom [(fv, entR k'.ents), (ve, entR es)] :: pt p x2 :: F)).trans jr_shut)) ?_ | refine c_end (rs := [.tmp 4]) rfl rfl _ (((Lay.ent (L' := blk j ⟨[.pointer (some ⟨p, 0, none⟩), .int .i64 k'.view, .int .i64 k'.normal, .int .i64 k'.base, str k'.state, fv], 74⟩ :: rom [(fv, entR k'.ents), (ve, entR es)] :: pt p x2 :: F)).trans jr_shut)) ?_
        exact ⟨rfl, rfl⟩
      · rw [if_neg (show ¬ (0 : Int) ≠ 0 by decide), if_pos h2]
        refine cC ?_
        refine rS ?_
        refine rS ?_
        refine rR (id := 11) ?_
        refine oG (gM (evv rfl)) rfl rfl ?_
        refine oG (g_bin (evv rfl) (evv rfl) (by rfl)) rfl rfl ?_
        refine oN ?_
        refine cC ?_
        refine r_cond rfl (fun g2 => ?_) (fun g2 => ?_) <;> (try simp only [decide_eq_true_eq, decide_eq_false_iff_not, Bool.and_eq_true, Bool.or_eq_true, Bool.not_eq_true', Bool.and_eq_false_iff, Bool.or_eq_false_iff, Bool.not_eq_false', Bool.not_eq_true, Bool.not_eq_false, Bool.true_eq_false, Bool.false_eq_true, Int.not_lt, Int.not_le, not_and, not_or, ne_eq] at g2)
        · exact absurd g2 h2
        · refine r_skip ?_
          refine cC ?_
          refine rS ?_
          refine rR (id := 13) ?_
          refine oG (gM (evv rfl)) rfl rfl ?_
          refine oG (gA (evv rfl)) rfl rfl ?_
          refine oN ?_
          refine cC ?_
          first | refine r_ret (rs := [.tmp 4]) rfl rfl _ (((Lay.ent (L' := blk j ⟨[.pointer (some ⟨p, 0, none⟩), .int .i64 view, .int .i64 normal, .int .i64 base, str state, ve], 74⟩ :: rom [(fv, entR k'.ents), (ve, entR es)] :: pt p x2 :: F)).trans jr_shut)) ?_ | refine c_end (rs := [.tmp 4]) rfl rfl _ (((Lay.ent (L' := blk j ⟨[.pointer (some ⟨p, 0, none⟩), .int .i64 view, .int .i64 normal, .int .i64 base, str state, ve], 74⟩ :: rom [(fv, entR k'.ents), (ve, entR es)] :: pt p x2 :: F)).trans jr_shut)) ?_
          exact ⟨rfl, rfl⟩
    · rw [if_pos h1]
      refine cC ?_
      refine rS ?_
      refine rS ?_
      refine rR (id := 9) ?_
      refine oG (gM (evv rfl)) rfl rfl ?_
      refine oG (g_bin (evv rfl) (evv rfl) (by rfl)) rfl rfl ?_
      refine oN ?_
      refine cC ?_
      refine r_cond rfl (fun g1 => ?_) (fun g1 => ?_) <;> (try simp only [decide_eq_true_eq, decide_eq_false_iff_not, Bool.and_eq_true, Bool.or_eq_true, Bool.not_eq_true', Bool.and_eq_false_iff, Bool.or_eq_false_iff, Bool.not_eq_false', Bool.not_eq_true, Bool.not_eq_false, Bool.true_eq_false, Bool.false_eq_true, Int.not_lt, Int.not_le, not_and, not_or, ne_eq] at g1)
      · exact absurd g1 h1
      · refine r_skip ?_
        refine cC ?_
        refine rS ?_
        refine rS ?_
        refine rR (id := 11) ?_
        refine oG (gM (evv rfl)) rfl rfl ?_
        refine oG (g_bin (evv rfl) (evv rfl) (by rfl)) rfl rfl ?_
        refine oN ?_
        refine cC ?_
        refine r_cond rfl (fun g2 => ?_) (fun g2 => ?_) <;> (try simp only [decide_eq_true_eq, decide_eq_false_iff_not, Bool.and_eq_true, Bool.or_eq_true, Bool.not_eq_true', Bool.and_eq_false_iff, Bool.or_eq_false_iff, Bool.not_eq_false', Bool.not_eq_true, Bool.not_eq_false, Bool.true_eq_false, Bool.false_eq_true, Int.not_lt, Int.not_le, not_and, not_or, ne_eq] at g2)
        · exact absurd g2 h1
        · refine r_skip ?_
          refine cC ?_
          refine rS ?_
          refine rR (id := 13) ?_
          refine oG (gM (evv rfl)) rfl rfl ?_
          refine oG (gA (evv rfl)) rfl rfl ?_
          refine oN ?_
          refine cC ?_
          first | refine r_ret (rs := [.tmp 4]) rfl rfl _ (((Lay.ent (L' := blk j ⟨[.pointer (some ⟨p, 0, none⟩), .int .i64 view, .int .i64 normal, .int .i64 base, str state, ve], 74⟩ :: rom [(fv, entR k'.ents), (ve, entR es)] :: pt p x1 :: F)).trans jr_shut)) ?_ | refine c_end (rs := [.tmp 4]) rfl rfl _ (((Lay.ent (L' := blk j ⟨[.pointer (some ⟨p, 0, none⟩), .int .i64 view, .int .i64 normal, .int .i64 base, str state, ve], 74⟩ :: rom [(fv, entR k'.ents), (ve, entR es)] :: pt p x1 :: F)).trans jr_shut)) ?_
          exact ⟨rfl, rfl⟩
end VK

namespace VK
open Go Go.Proofs
set_option linter.unusedSimpArgs false
set_option linter.unusedVariables false
set_option maxRecDepth 100000
set_option maxHeartbeats 40000000
def viewT (x : Pt) (k : KeptS) (v : Int) : Int × Pt × KeptS := writeT x k (payV (v % 18446744073709551616).toNat)
def entT (x : Pt) (k : KeptS) (e : EntS) : Int × Pt × KeptS := if longOp e.op then (1, x, k) else writeT x k (payE e)
def adoT (x : Pt) (k : KeptS) (v f : Int) (es : List EntS) : Int × Pt × KeptS := if 0 ≤ v ∧ 0 ≤ f ∧ es.length ≤ 32 ∧ ∀ e ∈ es, ¬ longOp e.op then writeT x k (payA v.toNat f.toNat es) else (1, x, k)
structure ActJ where
  kind : Int
  view : Int
  from_ : Int
  kview : Int
  knormal : Int
  kbase : Int
  kstate : List UInt8
  ve : Value
  es : List EntS
  fail : Int
  kv : Value
  ks : List Int
instance : Inhabited ActJ := ⟨⟨0, 0, 0, 0, 0, 0, [], .slice none 0 0, [], 0, .slice none 0 0, []⟩⟩
def actC (a : ActJ) : List Value := [.int .i64 a.kind, .int .i64 a.view, .int .i64 a.from_, .int .i64 a.kview, .int .i64 a.knormal, .int .i64 a.kbase, str a.kstate, a.ve, .int .i64 a.fail, a.kv]
instance : LenC actC 10 := ⟨fun _ => rfl⟩
def ActJ.k (a : ActJ) : KeptS := ⟨a.kview, a.knormal, a.kbase, a.kstate, a.es⟩
def ActJ.q (a : ActJ) : Int := a.kind % 18446744073709551616 % 6
def ActJ.e (a : ActJ) : EntS := a.es.getD 0 default
structure ActJ.ok (a : ActJ) : Prop where
  v : inR .i64 a.view
  f : inR .i64 a.from_
  es : ∀ e ∈ a.es, e.ok
  fl : inR .i64 a.fail
  ks : ∀ z ∈ a.ks, inR .i64 z
  n : a.es.length ≤ 1048576
  st : a.kstate.length ≤ 140737488355000
theorem ent0_ok : (default : EntS).ok := ⟨⟨by decide, by decide⟩, ⟨by decide, by decide⟩, ⟨by decide, by decide⟩, Nat.zero_le _, Nat.zero_le _, Nat.zero_le _, ⟨by decide, by decide⟩, ⟨by decide, by decide⟩⟩
theorem ActJ.ok.e {a : ActJ} (h : a.ok) : a.e.ok := by
  unfold ActJ.e
  cases hc : a.es with
  | nil => exact ent0_ok
  | cons e l => exact h.es e (by rw [hc]; exact List.mem_cons_self ..)
def doJ (x : Pt) (k : KeptS) (a : ActJ) : Int × Pt × KeptS :=
  if a.q = 0 then viewT x k a.view else if a.q = 1 then entT x k a.e else if a.q = 2 then adoT x k a.view a.from_ a.es else if a.q = 3 then layT x k a.k else (0, x, k)
theorem doJ_ok {x : Pt} {k : KeptS} {a : ActJ} (h : x.ok) (ha : a.ok) (hs : sizeP x + 262152 ≤ 1000000000) : (doJ x k a).2.1.ok ∧ sizeP (doJ x k a).2.1 ≤ sizeP x + 262152 := by
  unfold doJ
  split
  · have := payV_len (v := (a.view % 18446744073709551616).toNat) (by omega)
    have := writeT_ok h (k := k) (p := payV (a.view % 18446744073709551616).toNat) (by omega)
    exact ⟨this.1, by unfold viewT; omega⟩
  · split
    · unfold entT
      split
      · exact ⟨h, by dsimp only; omega⟩
      · have := payE_len ha.e
        have := writeT_ok h (k := k) (p := payE a.e) (by omega)
        exact ⟨this.1, by omega⟩
    · split
      · unfold adoT
        split
        · rename_i hc
          have h1 := ha.v
          have h2 := ha.f
          simp only [inR] at h1 h2
          have := payA_len (v := a.view.toNat) (f := a.from_.toNat) (by omega) (by omega) ha.es hc.2.2.1
          have := writeT_ok h (k := k) (p := payA a.view.toNat a.from_.toNat a.es) (by omega)
          exact ⟨this.1, by omega⟩
        · exact ⟨h, by dsimp only; omega⟩
      · split
        · have := layT_ok h (k0 := k) (k := a.k) ha.es (by omega)
          exact ⟨this.1, by omega⟩
        · exact ⟨h, by dsimp only; omega⟩
theorem doJ_fine {x : Pt} {k : KeptS} {a : ActJ} (h : k.fine ∧ k.ok) (ha : a.ok) : (doJ x k a).2.2.fine ∧ (doJ x k a).2.2.ok := by
  unfold doJ
  split
  · exact writeT_fine h
  · split
    · unfold entT
      split
      · exact h
      · exact writeT_fine h
    · split
      · unfold adoT
        split
        · exact writeT_fine h
        · exact h
      · split
        · exact layT_fine h ha.es
        · exact h
end VK

namespace VK
open Go Go.Proofs
set_option linter.unusedSimpArgs false
set_option linter.unusedVariables false
set_option maxRecDepth 100000
set_option maxHeartbeats 40000000
def intsOf : List Value → List Int
  | [] => []
  | .int _ z :: r => z :: intsOf r
  | _ :: r => intsOf r
theorem catF_int : ∀ l : List Int, catF 1 (l.map i64v) = some (l.map i64v)
  | [] => rfl
  | a :: l => by simp [catF, cellsL, Value.cells, rngF, catF_int l, i64v]
theorem o_litIs {c : Cx} {k : List KI} {E : Env} {L : List Atom} {all rest : List Oper} {d : Nat} {ty : TypeId} {pos : String} {aft : Array Edge} {t e : TypeId} {i : TI} {n : Nat} {parts : Array (Nat × Operand)} {vs : List Value} [tu : TyU c.P t (.slice e)] [ti : TyI c.P e i]
    (hi : parts.toList.map (·.1) = List.range n) (hx : evs E (parts.toList.map (·.2)) = some vs) (hv : vs = (intsOf vs).map i64v) (hl : vs.length = n) (hsz : i.size = 1) (hn' : Nat.ble n 65536 = true) (hd : Nat.blt d c.n = true)
    (hk : ∀ v, Ops c all rest k ((d, .v v) :: E) (sl v (mrow i64v e (intsOf vs)) :: L)) : Ops c all (⟨some d, .buildSlice t n parts, ty, pos, aft, none⟩ :: rest) k E L := by
  have hl2 : (intsOf vs).length = n := by rw [hv] at hl; simpa using hl
  refine o_lit (i := i) (xs := (intsOf vs).map i64v) hi hx (by rw [hsz]; conv => lhs; rw [hv]
                                                               exact catF_int _) (by intro _ _ _ u hu; simp at hu; obtain ⟨a, _, rfl⟩ := hu; rfl) (by rw [hsz, Nat.mul_one]; exact hn') hn' hd fun v => ?_
  have : (⟨e, i.size, n, (intsOf vs).map i64v⟩ : Row) = mrow i64v e (intsOf vs) := by rw [hsz, ← hl2]; rfl
  rw [this]
  exact hk v
end VK

namespace VK
open Go Go.Proofs
set_option linter.unusedSimpArgs false
set_option linter.unusedVariables false
set_option maxRecDepth 100000
set_option maxHeartbeats 40000000
theorem View_c (F : List Atom) (j p : Nat) (x : Pt) (k : KeptS) (v : Int) (hx : x.ok) (hk : k.ok) (hf : k.fine) (hs : sizeP x + 262152 ≤ 1000000000) :
    Fn Try.prog 20 [.pointer (some ⟨j, 0, none⟩), .int .i64 v] (jr j (p, k) :: pt p x :: F) fun w L' => w = .int .i64 (viewT x k v).1 ∧ L' = jr j (p, (viewT x k v).2.2) :: pt p (viewT x k v).2.1 :: F := by
  have hpl := payV_len (v := (v % 18446744073709551616).toNat) (by omega)
  have hpl2 : (payV (v % 18446744073709551616).toNat).length ≤ 262144 := by omega
  have n1 := num_le 1 (by omega)
  have n2 := num_le (v % 18446744073709551616).toNat (by omega)
  refine fn_intro Try.func20 rfl Try.ntmps20 rfl (fun W0 => ?_)
  simp only [argE]
  refine rS ?_
  refine rR (id := 0) ?_
  refine oG (gA (evv rfl)) rfl rfl ?_
  refine oN ?_
  refine cC ?_
  refine rS ?_
  refine rR (id := 1) ?_
  refine o_alloc rfl rfl (fun _ => ?_)
  refine oN ?_
  refine cC ?_
  refine rS ?_
  rename_i o
  refine r_ent _ (newOutA o) ?_
  refine rR (id := 2) ?_
  (refine o_call rfl _ (Ent.refl _) (Num_l _ (by omega) (by (try simp only [bsOf, List.length_append, List.length_cons, List.length_nil]); omega)) rfl ?_; rintro _ _ ⟨rfl, rfl⟩; (try simp only [Int.toNat_natCast]))
  refine oN ?_
  refine cC ?_
  refine rS ?_
  rw [show Int.toNat 1 = 1 from rfl, List.nil_append]
  refine rR (id := 3) ?_
  refine oG (gM (evv rfl)) rfl rfl ?_
  refine o_giveU (g_conv TyU.h TyU.h (evv rfl)) (by rfl) rfl ?_
  (refine o_call rfl _ (Ent.refl _) (Num_l _ (by omega) (by (try simp only [bsOf, List.length_append, List.length_cons, List.length_nil]); omega)) rfl ?_; rintro _ _ ⟨rfl, rfl⟩; (try simp only [Int.toNat_natCast]))
  refine oN ?_
  refine cC ?_
  refine rS ?_
  rw [show num 1 ++ num (v % 18446744073709551616).toNat = payV (v % 18446744073709551616).toNat from rfl]
  refine rR (id := 4) ?_
  refine oG (gM (evv rfl)) rfl rfl ?_
  (refine o_call rfl _ (pick3 (K1 := jr _) (K2 := pt _) (K3 := outA _)) (write_c _ _ _ _ _ _ _ (by assumption) (by assumption) (by assumption) (by first | assumption | omega) (by first | assumption | omega)) rfl ?_; rintro _ _ ⟨rfl, rfl⟩)
  refine oG (gA (evv rfl)) rfl rfl ?_
  refine oN ?_
  refine cC ?_
  first | refine r_ret (rs := [.tmp 4]) rfl rfl _ (Ent.refl _) ?_ | refine c_end (rs := [.tmp 4]) rfl rfl _ (Ent.refl _) ?_
  exact ⟨rfl, rfl⟩
theorem Entry_c (F : List Atom) (j p : Nat) (x : Pt) (k : KeptS) (e : EntS) (hx : x.ok) (hk : k.ok) (hf : k.fine) (he : e.ok) (hs : sizeP x + 262152 ≤ 1000000000) :
    Fn Try.prog 21 [.pointer (some ⟨j, 0, none⟩), agg (entC e)] (jr j (p, k) :: pt p x :: F) fun w L' => w = .int .i64 (entT x k e).1 ∧ L' = jr j (p, (entT x k e).2.2) :: pt p (entT x k e).2.1 :: F := by
  have hpl := payE_len he
  have hpl2 : (payE e).length ≤ 262144 := by omega
  have n2 := num_le 2 (by omega)
  have hfe : ∀ x ∈ [e], x.ok := fun x hx => by rw [List.mem_singleton.1 hx]; exact he
  refine fn_intro Try.func21 rfl Try.ntmps21 rfl (fun W0 => ?_)
  simp only [argE]
  refine rS ?_
  refine rR (id := 0) ?_
  refine o_boxA (evv rfl) rfl (fun _ => ?_)
  refine oG (gA (evv rfl)) rfl rfl ?_
  refine oN ?_
  refine cC ?_
  refine rS ?_
  refine rS ?_
  refine rR (id := 1) ?_
  refine oG (gM (evv rfl)) rfl rfl ?_
  refine oG (g_pnil TyU.h (evv rfl) (evv rfl) (by simp) (by rfl)) rfl rfl ?_
  refine oG (gM (evv rfl)) rfl rfl ?_
  refine o_gyes rfl ?_
  refine oG (g_loadF (evv rfl) (by rfl) (by rfl)) rfl rfl ?_
  refine o_gyes rfl ?_
  refine o_litS rfl (by rfl) inferInstance (by rfl) rfl (fun _ => ?_)
  rename_i q1 v1
  refine o_gyes rfl ?_
  refine o_call rfl _ (Ent.refl _) (right_c _ _ _ [e] [] (rn := Rd.nilM i64v _) hfe (by simp)) rfl ?_
  rintro _ _ ⟨rfl, hLz⟩
  obtain rfl := hLz.symm
  clear hLz
  by_cases hlo : longOp e.op
  · have hd : decide ((∀ n ∈ ([] : List Int), 0 ≤ n) ∧ [e].length ≤ 32 ∧ ∀ x ∈ [e], ¬ longOp x.op) = false := decide_eq_false (fun h => h.2.2 e (by simp) hlo)
    have hT : entT x k e = (1, x, k) := if_pos hlo
    rw [hd, hT]
    refine o_gyes rfl ?_
    refine oG (g_not (evv rfl)) rfl rfl ?_
    refine oG (g_pick (b := true) (evv rfl) (fun _ => (evv rfl)) (fun h => by cases h)) rfl rfl ?_
    refine oN ?_
    refine cC ?_
    refine r_cond_true rfl ?_
    refine rS ?_
    refine rR (id := 2) ?_
    refine oG (gA (evv rfl)) rfl rfl ?_
    refine oN ?_
    refine cC ?_
    first | refine r_ret (rs := [.tmp 4]) rfl rfl _ (Lay.ent (L' := jr j (p, k) :: pt p x :: F)) ?_ | refine c_end (rs := [.tmp 4]) rfl rfl _ (Lay.ent (L' := jr j (p, k) :: pt p x :: F)) ?_
    exact ⟨rfl, rfl⟩
  · have hd : decide ((∀ n ∈ ([] : List Int), 0 ≤ n) ∧ [e].length ≤ 32 ∧ ∀ x ∈ [e], ¬ longOp x.op) = true := decide_eq_true ⟨by simp, by simp, fun x hx => by rw [List.mem_singleton.1 hx]; exact hlo⟩
    have hT : entT x k e = writeT x k (payE e) := if_neg hlo
    rw [hd, hT]
    refine o_gyes rfl ?_
    refine oG (g_not (evv rfl)) rfl rfl ?_
    refine oG (g_pick (b := true) (evv rfl) (fun _ => (evv rfl)) (fun h => by cases h)) rfl rfl ?_
    refine oN ?_
    refine cC ?_
    refine r_cond_false rfl ?_
    refine r_skip ?_
    refine cC ?_
    refine rS ?_
    refine rR (id := 3) ?_
    refine o_alloc rfl rfl (fun _ => ?_)
    refine oN ?_
    refine cC ?_
    refine rS ?_
    rename_i o
    refine r_ent _ (newOutA o) ?_
    refine rR (id := 4) ?_
    (refine o_call rfl _ (Ent.refl _) (Num_l _ (by omega) (by (try simp only [bsOf, List.length_append, List.length_cons, List.length_nil]); omega)) rfl ?_; rintro _ _ ⟨rfl, rfl⟩; (try simp only [Int.toNat_natCast]))
    refine oN ?_
    refine cC ?_
    refine rS ?_
    rw [show Int.toNat 2 = 2 from rfl, List.nil_append]
    refine rR (id := 5) ?_
    refine oG (g_loadF (evv rfl) (by rfl) (by rfl)) rfl rfl ?_
    refine o_litS rfl (by rfl) inferInstance (by rfl) rfl (fun _ => ?_)
    (refine o_call rfl _ (PickR.ent (K := outA _)) (putEntries_c _ _ _ _ _ (by assumption) (by first | assumption | omega | (simp; done)) (by first | assumption | omega | (simp only [List.length_append, List.length_cons, List.length_nil]; omega))) rfl ?_; rintro _ _ ⟨rfl, rfl⟩)
    refine oN ?_
    refine cC ?_
    refine rS ?_
    rw [show num 2 ++ entsB [⟨e.client, e.number, ⟨e.op.kind, e.op.path, e.op.to_, e.op.data, e.op.at_, e.op.size⟩⟩] = payE e by simp [payE, entsB]]
    refine rR (id := 6) ?_
    refine oG (gM (evv rfl)) rfl rfl ?_
    (refine o_call rfl _ (pick3 (K1 := jr _) (K2 := pt _) (K3 := outA _)) (write_c _ _ _ _ _ _ _ (by assumption) (by assumption) (by assumption) (by first | assumption | omega) (by first | assumption | omega)) rfl ?_; rintro _ _ ⟨rfl, rfl⟩)
    refine oG (gA (evv rfl)) rfl rfl ?_
    refine oN ?_
    refine cC ?_
    first | refine r_ret (rs := [.tmp 4]) rfl rfl _ (Lay.ent (L' := jr j (p, writeT x k (payE e) |>.2.2) :: pt p (writeT x k (payE e)).2.1 :: F)) ?_ | refine c_end (rs := [.tmp 4]) rfl rfl _ (Lay.ent (L' := jr j (p, writeT x k (payE e) |>.2.2) :: pt p (writeT x k (payE e)).2.1 :: F)) ?_
    exact ⟨rfl, rfl⟩
theorem Adopt_c (F : List Atom) (j p : Nat) (x : Pt) (k : KeptS) (v f : Int) (ve : Value) (es : List EntS) [rd : Rd F ve (entR es)] (hx : x.ok) (hk : k.ok) (hf : k.fine) (he : ∀ e ∈ es, e.ok) (hl : es.length ≤ 1048576) (hs : sizeP x + 262152 ≤ 1000000000) (hv : inR .i64 v) (hff : inR .i64 f) :
    Fn Try.prog 22 [.pointer (some ⟨j, 0, none⟩), .int .i64 v, .int .i64 f, ve] (jr j (p, k) :: pt p x :: F) fun w L' => w = .int .i64 (adoT x k v f es).1 ∧ L' = jr j (p, (adoT x k v f es).2.2) :: pt p (adoT x k v f es).2.1 :: F := by
  haveI rd' : ∀ A B, Rd (A :: B :: F) ve (entR es) := fun A B => (rd.ent Ent.drop).ent Ent.drop
  refine fn_intro Try.func22 rfl Try.ntmps22 rfl (fun W0 => ?_)
  simp only [argE]
  refine rS ?_
  refine rR (id := 0) ?_
  refine oG (gA (evv rfl)) rfl rfl ?_
  refine oN ?_
  refine cC ?_
  refine rS ?_
  refine rS ?_
  refine rR (id := 1) ?_
  refine oG (gM (evv rfl)) rfl rfl ?_
  refine oG (g_pnil TyU.h (evv rfl) (evv rfl) (by simp) (by rfl)) rfl rfl ?_
  refine oG (gM (evv rfl)) rfl rfl ?_
  refine o_gyes rfl ?_
  refine oG (gM (evv rfl)) rfl rfl ?_
  refine o_gyes rfl ?_
  refine oG (gM (evv rfl)) rfl rfl ?_
  refine o_gyes rfl ?_
  refine oG (gM (evv rfl)) rfl rfl ?_
  refine o_gyes rfl ?_
  refine o_litIs rfl rfl (by rfl) (by rfl) (by rfl) rfl rfl (fun _ => ?_)
  refine o_gyes rfl ?_
  (refine o_call rfl _ (Ent.refl _) (right_c _ _ _ _ _ (by assumption) (by first | assumption | omega)) rfl ?_; rintro _ _ ⟨rfl, hLz⟩; obtain rfl := hLz.symm; clear hLz)
  refine o_gyes rfl ?_
  refine oG (g_not (evv rfl)) rfl rfl ?_
  refine oG (g_pick (b := true) (evv rfl) (fun _ => (evv rfl)) (fun h => by cases h)) rfl rfl ?_
  refine oN ?_
  refine cC ?_
  simp only [Option.isNone_some, Option.isNone_none, Bool.false_and, Bool.not_false]
  skip
  have hints : intsOf [.int .i64 v, .int .i64 f] = [v, f] := rfl
  rw [hints]
  by_cases hc : 0 ≤ v ∧ 0 ≤ f ∧ es.length ≤ 32 ∧ ∀ e ∈ es, ¬ longOp e.op
  · have hd : decide ((∀ n ∈ [v, f], 0 ≤ n) ∧ es.length ≤ 32 ∧ ∀ e ∈ es, ¬ longOp e.op) = true := decide_eq_true ⟨fun n hn => by simp at hn; omega, hc.2.2⟩
    have hT : adoT x k v f es = writeT x k (payA v.toNat f.toNat es) := if_pos hc
    rw [hd, hT]
    obtain ⟨h0, h1, h2, h3⟩ := hc
    have hv64 : v.toNat ≤ 18446744073709551615 := by simp only [inR] at hv; omega
    have hf64 : f.toNat ≤ 18446744073709551615 := by simp only [inR] at hff; omega
    have hpl := payA_len hv64 hf64 he h2
    have hpl2 : (payA v.toNat f.toNat es).length ≤ 262144 := by omega
    have m1 := num_le 3 (by omega)
    have m2 := num_le v.toNat hv64
    have m3 := num_le f.toNat hf64
    have m4 := num_le es.length (by omega)
    refine r_cond_false rfl ?_
    refine r_skip ?_
    refine cC ?_
    refine rS ?_
    refine rR (id := 3) ?_
    refine o_alloc rfl rfl (fun _ => ?_)
    refine oN ?_
    refine cC ?_
    refine rS ?_
    rename_i o
    refine r_ent _ (newOutA o) ?_
    refine rR (id := 4) ?_
    (refine o_call rfl _ (Ent.refl _) (Num_l _ (by omega) (by (try simp only [bsOf, List.length_append, List.length_cons, List.length_nil]); omega)) rfl ?_; rintro _ _ ⟨rfl, rfl⟩; (try simp only [Int.toNat_natCast]))
    refine oN ?_
    refine cC ?_
    refine rS ?_
    rw [show Int.toNat 3 = 3 from rfl, List.nil_append]
    refine rR (id := 5) ?_
    refine oG (gM (evv rfl)) rfl rfl ?_
    refine o_giveN (g_conv TyU.h TyU.h (evv rfl)) (by simp only [inR]; omega) rfl ?_
    (refine o_call rfl _ (Ent.refl _) (Num_l _ (by omega) (by (try simp only [bsOf, List.length_append, List.length_cons, List.length_nil]); omega)) rfl ?_; rintro _ _ ⟨rfl, rfl⟩; (try simp only [Int.toNat_natCast]))
    refine oN ?_
    refine cC ?_
    refine rS ?_
    refine rR (id := 6) ?_
    refine oG (gM (evv rfl)) rfl rfl ?_
    refine o_giveN (g_conv TyU.h TyU.h (evv rfl)) (by simp only [inR]; omega) rfl ?_
    (refine o_call rfl _ (Ent.refl _) (Num_l _ (by omega) (by (try simp only [bsOf, List.length_append, List.length_cons, List.length_nil]); omega)) rfl ?_; rintro _ _ ⟨rfl, rfl⟩; (try simp only [Int.toNat_natCast]))
    refine oN ?_
    refine cC ?_
    refine rS ?_
    refine rR (id := 7) ?_
    refine oG (gM (evv rfl)) rfl rfl ?_
    refine oG (g_lenF (evv rfl)) rfl rfl ?_
    refine o_giveN (g_conv TyU.h TyU.h (evv rfl)) (by simp only [inR]; omega) rfl ?_
    (refine o_call rfl _ (Ent.refl _) (Num_l _ (by omega) (by (try simp only [bsOf, List.length_append, List.length_cons, List.length_nil]); omega)) rfl ?_; rintro _ _ ⟨rfl, rfl⟩; (try simp only [Int.toNat_natCast]))
    refine oN ?_
    refine cC ?_
    refine rS ?_
    refine rR (id := 8) ?_
    refine oG (gM (evv rfl)) rfl rfl ?_
    (refine o_call rfl _ (PickR.ent (K := outA _)) (putEntries_c _ _ _ _ _ (by assumption) (by first | assumption | omega | (simp; done)) (by first | assumption | omega | (simp only [List.length_append, List.length_cons, List.length_nil]; omega))) rfl ?_; rintro _ _ ⟨rfl, rfl⟩)
    refine oN ?_
    refine cC ?_
    refine rS ?_
    rw [show num 3 ++ num v.toNat ++ num f.toNat ++ num es.length ++ entsB es = payA v.toNat f.toNat es from rfl]
    refine rR (id := 9) ?_
    refine oG (gM (evv rfl)) rfl rfl ?_
    (refine o_call rfl _ (pick3 (K1 := jr _) (K2 := pt _) (K3 := outA _)) (write_c _ _ _ _ _ _ _ (by assumption) (by assumption) (by assumption) (by first | assumption | omega) (by first | assumption | omega)) rfl ?_; rintro _ _ ⟨rfl, rfl⟩)
    refine oG (gA (evv rfl)) rfl rfl ?_
    refine oN ?_
    refine cC ?_
    first | refine r_ret (rs := [.tmp 8]) rfl rfl _ (Lay.ent (L' := jr j (p, (writeT x k (payA v.toNat f.toNat es)).2.2) :: pt p (writeT x k (payA v.toNat f.toNat es)).2.1 :: F)) ?_ | refine c_end (rs := [.tmp 8]) rfl rfl _ (Lay.ent (L' := jr j (p, (writeT x k (payA v.toNat f.toNat es)).2.2) :: pt p (writeT x k (payA v.toNat f.toNat es)).2.1 :: F)) ?_
    exact ⟨rfl, rfl⟩
  · have hd : decide ((∀ n ∈ [v, f], 0 ≤ n) ∧ es.length ≤ 32 ∧ ∀ e ∈ es, ¬ longOp e.op) = false := decide_eq_false (fun h => hc ⟨h.1 v (by simp), h.1 f (by simp), h.2⟩)
    have hT : adoT x k v f es = (1, x, k) := if_neg hc
    rw [hd, hT]
    refine r_cond_true rfl ?_
    refine rS ?_
    refine rR (id := 2) ?_
    refine oG (gA (evv rfl)) rfl rfl ?_
    refine oN ?_
    refine cC ?_
    first | refine r_ret (rs := [.tmp 8]) rfl rfl _ (Lay.ent (L' := jr j (p, k) :: pt p x :: F)) ?_ | refine c_end (rs := [.tmp 8]) rfl rfl _ (Lay.ent (L' := jr j (p, k) :: pt p x :: F)) ?_
    exact ⟨rfl, rfl⟩
theorem Kept_c (F : List Atom) (j p : Nat) (k : KeptS) (hk : k.ok) : Fn Try.prog 14 [.pointer (some ⟨j, 0, none⟩)] (jr j (p, k) :: F) fun w L' => ∃ ve, w = agg (kC k.view k.normal k.base k.state ve) ∧ L' = sl ve (entR k.ents) :: jr j (p, k) :: F := by
  refine Fn.exA fun ve => ?_
  obtain ⟨view, normal, base, state, es⟩ := k
  have hl : es.length ≤ 1048576 := by have := hk.2.2.2.2.2.2.2.2.2.1; dsimp only at this; omega
  dsimp only [jrX, List.cons_append, List.nil_append]
  refine fn_intro Try.func14 rfl Try.ntmps14 rfl (fun W0 => ?_)
  simp only [argE]
  refine rS ?_
  refine rR (id := 0) ?_
  refine o_alloc rfl rfl (fun _ => ?_)
  refine oN ?_
  refine cC ?_
  refine rS ?_
  refine rS ?_
  refine rR (id := 1) ?_
  refine oG (gM (evv rfl)) rfl rfl ?_
  refine oG (g_pnil TyU.h (evv rfl) (evv rfl) (by simp) (by rfl)) rfl rfl ?_
  refine oN ?_
  refine cC ?_
  refine r_cond_false rfl ?_
  refine r_skip ?_
  refine cC ?_
  refine rS ?_
  refine rR (id := 3) ?_
  refine oG (gM (evv rfl)) rfl rfl ?_
  refine oG (g_nil (evv rfl)) rfl rfl ?_
  refine oG (g_fld (evv rfl)) rfl rfl ?_
  refine oG (g_loadF (evv rfl) (by rfl) (by rfl)) rfl rfl ?_
  refine o_alloc rfl rfl (fun _ => ?_)
  refine o_storeW (evv rfl) (evv rfl) (by first | rfl | assumption | exact LenC.h _ | (simp [bys, *]; done) | fail) (by first | (intro _ _ _; exact bys_one _) | exact AllOne.h | (intro _ _ _ u hu; simp at hu; rcases hu with rfl | rfl | rfl | rfl | rfl | rfl | rfl | rfl <;> rfl) | fail) (by first | rfl | exact (LenC.h _).trans rfl | exact (LenC.h _).trans (LenC.h _).symm | (simp [bys, *]; done) | (simp only [bys, List.length_map, *]; rfl) | fail) ?_
  refine oN ?_
  refine cC ?_
  refine rS ?_
  refine rR (id := 4) ?_
  refine oG (g_fld (evv rfl)) rfl rfl ?_
  refine oG (g_load (evv rfl) (by rfl) (by rfl)) rfl rfl ?_
  (refine o_call rfl _ (Ent.refl _) (CoE_c _ _ _ (by first | assumption | omega | (simp only [List.length_take, List.length_drop]; omega))) rfl ?_; rintro _ _ rfl)
  refine oG (g_fld (evv rfl)) rfl rfl ?_
  refine o_store1 (evv rfl) (evv rfl) (by rfl) (by rfl) (by rfl) ?_
  refine oN ?_
  refine cC ?_
  refine rS ?_
  refine rR (id := 5) ?_
  refine oG (g_loadF (evv rfl) (by rfl) (by rfl)) rfl rfl ?_
  refine o_storeW (evv rfl) (evv rfl) (by first | rfl | assumption | exact LenC.h _ | (simp [bys, *]; done) | fail) (by first | (intro _ _ _; exact bys_one _) | exact AllOne.h | (intro _ _ _ u hu; simp at hu; rcases hu with rfl | rfl | rfl | rfl | rfl | rfl | rfl | rfl <;> rfl) | fail) (by first | rfl | exact (LenC.h _).trans rfl | exact (LenC.h _).trans (LenC.h _).symm | (simp [bys, *]; done) | (simp only [bys, List.length_map, *]; rfl) | fail) ?_
  refine oN ?_
  refine cC ?_
  rename_i ve2
  refine r_retC (rs := [.cell 2 28]) rfl (ro_agg rfl rfl rfl ro_nil) _ ((Lay.ent (L' := blk j ⟨[.pointer (some ⟨p, 0, none⟩), .int .i64 view, .int .i64 normal, .int .i64 base, str state, ve], 74⟩ :: rom [(ve, entR es)] :: sl ve2 (entR es) :: F)).trans (jr_shut.trans Ent.swap)) ?_
  exact ⟨ve2, rfl, rfl⟩
theorem pick2 {α β : Type} {K1 : α → Atom} {K2 : β → Atom} {L R1 R2 : List Atom} {x : α} {y : β} [h1 : PickR K1 L x R1] [h2 : PickR K2 R1 y R2] : Ent L (K1 x :: K2 y :: R2) :=
  (Ent.perm h1.perm).trans (Ent.cons (Ent.perm h2.perm))
end VK
