/- What the platter's methods do: change, Append, Sync, Wipe, Flip. Conditions: few bytes. -/
import Derived.Test.YtbhlcncfpkfopaaT
import Derived.Test.YtbhlcncfpkfopaaV2
namespace VK
open Go Go.Proofs
set_option linter.unusedSimpArgs false
set_option linter.unusedVariables false
set_option maxRecDepth 100000
set_option maxHeartbeats 40000000
/-- the atom of kind K, taken to the front -/
class PickR {α : Type} (K : α → Atom) (L : List Atom) (x : outParam α) (R : outParam (List Atom)) : Prop where
  perm : L.Perm (K x :: R)
instance (priority := high) PickR.head {α : Type} (K : α → Atom) (L : List Atom) (x : α) : PickR K (K x :: L) x L := ⟨.refl _⟩
instance (priority := low) PickR.tail {α : Type} (K : α → Atom) (A : Atom) (L R : List Atom) (x : α) [h : PickR K L x R] : PickR K (A :: L) x (A :: R) := ⟨(h.perm.cons A).trans (.swap _ _ _)⟩
theorem PickR.ent {α : Type} {K : α → Atom} {L R : List Atom} {x : α} [h : PickR K L x R] : Ent L (K x :: R) := Ent.perm h.perm
/-- a platter -/
structure Pt where
  b0 : List UInt8
  s0 : Nat
  b1 : List UInt8
  s1 : Nat
  live : Nat
  armed : Nat
  down : Bool
abbrev bR (b : List UInt8) : Row := mrow by8 5 b
abbrev ptB (x : Pt) (v0 v1 : Value) : Blk := ⟨[v0, .int .i64 (x.s0 : Int), v1, .int .i64 (x.s1 : Int), .int .i64 (x.live : Int), .int .i64 (x.armed : Int), .bool x.down], 58⟩
abbrev ptX (p : Nat) (x : Pt) (vs : Value × Value) : List Atom := [blk p (ptB x vs.1 vs.2), rom [(vs.1, bR x.b0), (vs.2, bR x.b1)]]
def pt (p : Nat) (x : Pt) : Atom := exA (ptX p x)
theorem pt_shut {p : Nat} {b0 b1 : List UInt8} {s0 s1 lv am : Nat} {dn : Bool} {v0 v1 : Value} {F : List Atom} : Ent (blk p ⟨[v0, .int .i64 (s0 : Int), v1, .int .i64 (s1 : Int), .int .i64 (lv : Int), .int .i64 (am : Int), .bool dn], 58⟩ :: rom [(v0, bR b0), (v1, bR b1)] :: F) (pt p ⟨b0, s0, b1, s1, lv, am, dn⟩ :: F) := Ent.shut (X := ptX p ⟨b0, s0, b1, s1, lv, am, dn⟩) (v0, v1)
structure Pt.ok (x : Pt) : Prop where
  l : x.live = 0 ∨ x.live = 1
  a : x.s0 ≤ x.b0.length
  b : x.s1 ≤ x.b1.length
  n0 : x.b0.length ≤ 1000000000
  n1 : x.b1.length ≤ 1000000000
  ar : x.armed ≤ 9223372036854775807
def Pt.b (x : Pt) (i : Nat) : List UInt8 := if i = 0 then x.b0 else x.b1
def Pt.s (x : Pt) (i : Nat) : Nat := if i = 0 then x.s0 else x.s1
def zeroPt : Pt := ⟨[], 0, [], 0, 0, 0, false⟩
def tick (x : Pt) : Pt := { x with armed := x.armed - 1, down := decide (x.armed = 1) }
/-- whether a call may be done, and whether the power goes within it -/
def chg (x : Pt) (call at_ : Int) : Int × Bool × Pt :=
  if call ≠ 3 ∧ at_ ≠ 0 ∧ at_ ≠ 1 then (1, false, x) else if x.down = true then (170, false, x) else
  if call = 2 ∧ at_ = x.live then (6, false, x) else if call = 3 ∧ x.s (1 - x.live) < (x.b (1 - x.live)).length then (6, false, x) else
  (if x.armed = 1 then 170 else 0, true, tick x)
theorem change_c (F : List Atom) (p : Nat) (x : Pt) (h : x.ok) (call at_ : Int) :
    Fn Try.prog 24 [.pointer (some ⟨p, 0, none⟩), .int .i64 call, .int .i64 at_] (pt p x :: F) fun v L' => v = .tuple #[.int .i64 (chg x call at_).1, .bool (chg x call at_).2.1] ∧ L' = pt p (chg x call at_).2.2 :: F := by
  refine Fn.exA fun vs => ?_
  obtain ⟨v0, v1⟩ := vs
  have ha := h.ar
  have hn0 := h.n0
  have hn1 := h.n1
  have hl := h.l
  obtain ⟨b0, s0, b1, s1, lv, am, dn⟩ := x
  dsimp only at ha hn0 hn1 hl
  dsimp only [ptX, ptB, List.cons_append, List.nil_append]
  refine fn_intro Try.func24 rfl Try.ntmps24 rfl (fun W0 => ?_)
  simp only [argE]
  refine r_seq ?_
  refine r_region (id := 0) ?_
  refine o_give (g_assign (evv rfl)) rfl rfl ?_
  refine o_give (g_assign (evv rfl)) rfl rfl ?_
  refine o_nil ?_
  refine c_code ?_
  refine r_seq ?_
  refine r_block ?_
  refine r_seq ?_
  refine r_region (id := 1) ?_
  refine o_give (g_move (evv rfl)) rfl rfl ?_
  refine o_give (g_pnil TyU.h (evv rfl) (evv rfl) (by simp) (by rfl)) rfl rfl ?_
  refine o_give (g_assign (evv rfl)) rfl rfl ?_
  refine o_nil ?_
  refine c_code ?_
  refine r_cond_false rfl ?_
  refine r_seq ?_
  refine r_region (id := 3) ?_
  refine o_give (g_move (evv rfl)) rfl rfl ?_
  refine o_give (g_bin (evv rfl) (evv rfl) (by rfl)) rfl rfl ?_
  refine o_give (g_move (evv rfl)) rfl rfl ?_
  refine o_lazy rfl (fun hg => g_move (by first | exact evv rfl | exact evg rfl (by rw [hp]; rfl) | exact evg rfl hp | exact evg rfl hg | exact evg rfl (by first | (simp_all; done) | (simp [*]; done) | fail) | fail)) rfl rfl ?_
  refine o_lazy rfl (fun hg => g_bin (by first | exact evv rfl | exact evg rfl (by rw [hp]; rfl) | exact evg rfl hp | exact evg rfl hg | exact evg rfl (by first | (simp_all; done) | (simp [*]; done) | fail) | fail) (by first | exact evv rfl | exact evg rfl (by rw [hp]; rfl) | exact evg rfl hp | exact evg rfl hg | exact evg rfl (by first | (simp_all; done) | (simp [*]; done) | fail) | fail) (by rfl)) rfl rfl ?_
  refine o_give (g_pick_and (evv rfl) (evv rfl) (fun hp => (by first | exact evv rfl | exact evg rfl (by rw [hp]; rfl) | exact evg rfl hp | exact evg rfl hg | exact evg rfl (by first | (simp_all; done) | (simp [*]; done) | fail) | fail))) rfl rfl ?_
  refine o_give (g_move (evv rfl)) rfl rfl ?_
  refine o_lazy rfl (fun hg => g_move (by first | exact evv rfl | exact evg rfl (by rw [hp]; rfl) | exact evg rfl hp | exact evg rfl hg | exact evg rfl (by first | (simp_all; done) | (simp [*]; done) | fail) | fail)) rfl rfl ?_
  refine o_lazy rfl (fun hg => g_bin (by first | exact evv rfl | exact evg rfl (by rw [hp]; rfl) | exact evg rfl hp | exact evg rfl hg | exact evg rfl (by first | (simp_all; done) | (simp [*]; done) | fail) | fail) (by first | exact evv rfl | exact evg rfl (by rw [hp]; rfl) | exact evg rfl hp | exact evg rfl hg | exact evg rfl (by first | (simp_all; done) | (simp [*]; done) | fail) | fail) (by rfl)) rfl rfl ?_
  refine o_give (g_pick_and (evv rfl) (evv rfl) (fun hp => (by first | exact evv rfl | exact evg rfl (by rw [hp]; rfl) | exact evg rfl hp | exact evg rfl hg | exact evg rfl (by first | (simp_all; done) | (simp [*]; done) | fail) | fail))) rfl rfl ?_
  refine o_give (g_assign (evv rfl)) rfl rfl ?_
  refine o_nil ?_
  refine c_code ?_
  refine r_cond rfl (fun c1 => ?_) (fun c1 => ?_) <;> (try simp only [decide_eq_true_eq, decide_eq_false_iff_not, Bool.and_eq_true, Bool.or_eq_true, Bool.not_eq_true', Bool.and_eq_false_iff, Bool.or_eq_false_iff, Bool.not_eq_false', Bool.not_eq_true, Bool.not_eq_false, Bool.true_eq_false, Bool.false_eq_true, Int.not_lt, Int.not_le, not_and, not_or, ne_eq] at c1)
  · simp only [chg, if_pos (show call ≠ 3 ∧ at_ ≠ 0 ∧ at_ ≠ 1 by omega)]
    refine r_seq ?_
    refine r_region (id := 4) ?_
    refine o_give (g_assign (evv rfl)) rfl rfl ?_
    refine o_give (g_assign (evv rfl)) rfl rfl ?_
    refine o_nil ?_
    refine c_code ?_
    first | refine r_ret (rs := [.tmp 6, .tmp 7]) rfl rfl _ (pt_shut) ?_ | refine c_end (rs := [.tmp 6, .tmp 7]) rfl rfl _ (pt_shut) ?_
    (refine ⟨?_, ?_⟩ <;> first | rfl | trivial | omega)
  · simp only [chg, if_neg (show ¬ (call ≠ 3 ∧ at_ ≠ 0 ∧ at_ ≠ 1) by omega)]
    refine r_seq ?_
    refine r_region (id := 5) ?_
    refine o_give (g_move (evv rfl)) rfl rfl ?_
    refine o_give (g_nil (evv rfl)) rfl rfl ?_
    refine o_give (g_fld (evv rfl)) rfl rfl ?_
    refine o_give (g_load (evv rfl) (by rfl) (by rfl)) rfl rfl ?_
    refine o_give (g_assign (evv rfl)) rfl rfl ?_
    refine o_nil ?_
    refine c_code ?_
    refine r_cond rfl (fun c2 => ?_) (fun c2 => ?_) <;> (try simp only [decide_eq_true_eq, decide_eq_false_iff_not, Bool.and_eq_true, Bool.or_eq_true, Bool.not_eq_true', Bool.and_eq_false_iff, Bool.or_eq_false_iff, Bool.not_eq_false', Bool.not_eq_true, Bool.not_eq_false, Bool.true_eq_false, Bool.false_eq_true, Int.not_lt, Int.not_le, not_and, not_or, ne_eq] at c2)
    · simp only [if_pos c2]
      refine r_seq ?_
      refine r_region (id := 6) ?_
      refine o_give (g_assign (evv rfl)) rfl rfl ?_
      refine o_give (g_assign (evv rfl)) rfl rfl ?_
      refine o_nil ?_
      refine c_code ?_
      first | refine r_ret (rs := [.tmp 6, .tmp 7]) rfl rfl _ (pt_shut) ?_ | refine c_end (rs := [.tmp 6, .tmp 7]) rfl rfl _ (pt_shut) ?_
      (refine ⟨?_, ?_⟩ <;> first | rfl | trivial | omega)
    · simp only [c2, Bool.false_eq_true, if_false]
      refine r_skip ?_
      refine c_blk ?_
      refine c_code ?_
      refine r_seq ?_
      refine r_seq ?_
      refine r_region (id := 7) ?_
      refine o_give (g_move (evv rfl)) rfl rfl ?_
      refine o_nil ?_
      refine c_code ?_
      by_cases c3 : call = 2 ∧ at_ = lv
      · simp only [if_pos c3]
        obtain ⟨rfl, rfl⟩ := c3
        refine r_block ?_
        refine r_seq ?_
        refine r_block ?_
        refine r_seq ?_
        refine r_block ?_
        refine r_seq ?_
        refine r_block ?_
        refine r_seq ?_
        refine r_seq ?_
        refine r_seq ?_
        refine r_region (id := 8) ?_
        refine o_give (g_bin (evv rfl) (evv rfl) (by rfl)) rfl rfl ?_
        refine o_give (g_assign (evv rfl)) rfl rfl ?_
        refine o_nil ?_
        refine c_code ?_
        refine r_cond_true rfl ?_
        refine r_exit rfl ?_
        refine c_code ?_
        refine r_seq ?_
        refine r_seq ?_
        refine r_seq ?_
        refine r_region (id := 10) ?_
        refine o_give (g_move (evv rfl)) rfl rfl ?_
        refine o_give (g_move (evv rfl)) rfl rfl ?_
        refine o_give (g_nil (evv rfl)) rfl rfl ?_
        refine o_give (g_fld (evv rfl)) rfl rfl ?_
        refine o_give (g_load (evv rfl) (by rfl) (by rfl)) rfl rfl ?_
        refine o_give (g_bin (evv rfl) (evv rfl) (by rfl)) rfl rfl ?_
        refine o_nil ?_
        refine c_code ?_
        refine r_cond rfl (fun c5 => ?_) (fun c5 => ?_) <;> (try simp only [decide_eq_true_eq, decide_eq_false_iff_not, Bool.and_eq_true, Bool.or_eq_true, Bool.not_eq_true', Bool.and_eq_false_iff, Bool.or_eq_false_iff, Bool.not_eq_false', Bool.not_eq_true, Bool.not_eq_false, Bool.true_eq_false, Bool.false_eq_true, Int.not_lt, Int.not_le, not_and, not_or, ne_eq] at c5)
        · exact absurd trivial c5
        · refine r_skip ?_
          refine c_code ?_
          refine r_seq ?_
          refine r_region (id := 11) ?_
          refine o_give (g_assign (evv rfl)) rfl rfl ?_
          refine o_give (g_assign (evv rfl)) rfl rfl ?_
          refine o_nil ?_
          refine c_code ?_
          first | refine r_ret (rs := [.tmp 6, .tmp 7]) rfl rfl _ (pt_shut) ?_ | refine c_end (rs := [.tmp 6, .tmp 7]) rfl rfl _ (pt_shut) ?_
          (refine ⟨?_, ?_⟩ <;> first | rfl | trivial | omega)
      · simp only [if_neg c3]
        by_cases c4 : call = 3 ∧ (⟨b0, s0, b1, s1, lv, am, false⟩ : Pt).s (1 - lv) < ((⟨b0, s0, b1, s1, lv, am, false⟩ : Pt).b (1 - lv)).length
        · simp only [if_pos c4]
          obtain ⟨rfl, c4⟩ := c4
          rcases hl with rfl | rfl <;> simp [Pt.s, Pt.b] at c4
          · refine r_block ?_
            refine r_seq ?_
            refine r_block ?_
            refine r_seq ?_
            refine r_block ?_
            refine r_seq ?_
            refine r_block ?_
            refine r_seq ?_
            refine r_seq ?_
            refine r_seq ?_
            refine r_region (id := 8) ?_
            refine o_give (g_bin (evv rfl) (evv rfl) (by rfl)) rfl rfl ?_
            refine o_give (g_assign (evv rfl)) rfl rfl ?_
            refine o_nil ?_
            refine c_code ?_
            refine r_cond_false rfl ?_
            refine r_skip ?_
            refine c_code ?_
            refine r_seq ?_
            refine r_region (id := 9) ?_
            refine o_give (g_bin (evv rfl) (evv rfl) (by rfl)) rfl rfl ?_
            refine o_give (g_assign (evv rfl)) rfl rfl ?_
            refine o_nil ?_
            refine c_code ?_
            refine r_cond_true rfl ?_
            refine r_exit rfl ?_
            refine c_code ?_
            refine r_seq ?_
            repeat (first | refine r_seq ?_ | refine c_code ?_ | refine c_blk ?_ | refine r_block ?_ | refine r_skip ?_)
            refine r_held (id := 12) [blk p ⟨[v0, .int .i64 (s0 : Int), v1, .int .i64 (s1 : Int), .int .i64 ((0 : Nat) : Int), .int .i64 (am : Int), .bool false], 58⟩] Mixed.h ?_
            refine h_give (i := 0) (by kernel_rfl) rfl (g_move (evv rfl)) rfl rfl ?_
            refine h_give (i := 1) (by kernel_rfl) rfl (g_move (evv rfl)) rfl rfl ?_
            refine h_give (i := 2) (by kernel_rfl) rfl (g_nil (evv rfl)) rfl rfl ?_
            refine h_give (i := 3) (by kernel_rfl) rfl (g_fld (evv rfl)) rfl rfl ?_
            refine h_give (i := 4) (by kernel_rfl) rfl (g_load (evv rfl) (by rfl) (by rfl)) rfl rfl ?_
            refine h_giveN (i := 5) (by kernel_rfl) rfl (g_bin (evv rfl) (evv rfl) (by rfl)) (by simp only [inR]; omega) rfl ?_
            refine h_give (i := 6) (by kernel_rfl) rfl (g_nil (evv rfl)) rfl rfl ?_
            refine h_give (i := 7) (by kernel_rfl) rfl (g_fld (evv rfl)) rfl rfl ?_
            refine h_give (i := 8) (by kernel_rfl) rfl (g_idxA (evv rfl) (evv rfl) (by omega) (by omega)) rfl rfl ?_
            refine h_give (i := 9) (by kernel_rfl) rfl (g_loadF (evv rfl) (by rfl) (by rfl)) rfl rfl ?_
            refine h_one (i := 10) (by kernel_rfl) rfl (Lay.ent) ?_
            refine o_alloc rfl rfl (fun _ => ?_)
            refine o_nil ?_
            refine h_one (i := 11) (by kernel_rfl) rfl (Lay.ent) ?_
            refine o_storeW (evv rfl) (evv rfl) (by first | rfl | assumption | (simp [bys, *]; done) | fail) (by first | (intro _ _ _; exact bys_one _) | exact AllOne.h | (intro _ _ _ u hu; simp at hu; rcases hu with rfl | rfl | rfl | rfl | rfl | rfl | rfl | rfl <;> rfl) | fail) (by first | rfl | (simp [bys, *]; done) | (simp only [bys, List.length_map, *]; rfl) | fail) ?_
            refine o_nil ?_
            refine h_done (by kernel_rfl) (Lay.ent) ?_
            refine c_code ?_
            refine r_seq ?_
            refine r_region (id := 13) ?_
            refine o_give (g_fld (evv rfl)) rfl rfl ?_
            refine o_give (g_load (evv rfl) (by rfl) (by rfl)) rfl rfl ?_
            refine o_give (g_fld (evv rfl)) rfl rfl ?_
            refine o_give (g_load (evv rfl) (by rfl) (by rfl)) rfl rfl ?_
            refine o_give (g_lenM (evv rfl)) rfl rfl ?_
            refine o_give (g_bin (evv rfl) (evv rfl) (by rfl)) rfl rfl ?_
            refine o_nil ?_
            refine c_code ?_
            refine r_cond rfl (fun c5 => ?_) (fun c5 => ?_) <;> (try simp only [decide_eq_true_eq, decide_eq_false_iff_not, Bool.and_eq_true, Bool.or_eq_true, Bool.not_eq_true', Bool.and_eq_false_iff, Bool.or_eq_false_iff, Bool.not_eq_false', Bool.not_eq_true, Bool.not_eq_false, Bool.true_eq_false, Bool.false_eq_true, Int.not_lt, Int.not_le, not_and, not_or, ne_eq] at c5)
            · refine r_seq ?_
              refine r_region (id := 14) ?_
              refine o_give (g_assign (evv rfl)) rfl rfl ?_
              refine o_give (g_assign (evv rfl)) rfl rfl ?_
              refine o_nil ?_
              refine c_code ?_
              first | refine r_ret (rs := [.tmp 6, .tmp 7]) rfl rfl _ (Ent.drop.trans pt_shut) ?_ | refine c_end (rs := [.tmp 6, .tmp 7]) rfl rfl _ (Ent.drop.trans pt_shut) ?_
              (refine ⟨?_, ?_⟩ <;> first | rfl | trivial | omega)
            · exfalso; omega
          · refine r_block ?_
            refine r_seq ?_
            refine r_block ?_
            refine r_seq ?_
            refine r_block ?_
            refine r_seq ?_
            refine r_block ?_
            refine r_seq ?_
            refine r_seq ?_
            refine r_seq ?_
            refine r_region (id := 8) ?_
            refine o_give (g_bin (evv rfl) (evv rfl) (by rfl)) rfl rfl ?_
            refine o_give (g_assign (evv rfl)) rfl rfl ?_
            refine o_nil ?_
            refine c_code ?_
            refine r_cond_false rfl ?_
            refine r_skip ?_
            refine c_code ?_
            refine r_seq ?_
            refine r_region (id := 9) ?_
            refine o_give (g_bin (evv rfl) (evv rfl) (by rfl)) rfl rfl ?_
            refine o_give (g_assign (evv rfl)) rfl rfl ?_
            refine o_nil ?_
            refine c_code ?_
            refine r_cond_true rfl ?_
            refine r_exit rfl ?_
            refine c_code ?_
            refine r_seq ?_
            repeat (first | refine r_seq ?_ | refine c_code ?_ | refine c_blk ?_ | refine r_block ?_ | refine r_skip ?_)
            refine r_held (id := 12) [blk p ⟨[v0, .int .i64 (s0 : Int), v1, .int .i64 (s1 : Int), .int .i64 ((1 : Nat) : Int), .int .i64 (am : Int), .bool false], 58⟩] Mixed.h ?_
            refine h_give (i := 0) (by kernel_rfl) rfl (g_move (evv rfl)) rfl rfl ?_
            refine h_give (i := 1) (by kernel_rfl) rfl (g_move (evv rfl)) rfl rfl ?_
            refine h_give (i := 2) (by kernel_rfl) rfl (g_nil (evv rfl)) rfl rfl ?_
            refine h_give (i := 3) (by kernel_rfl) rfl (g_fld (evv rfl)) rfl rfl ?_
            refine h_give (i := 4) (by kernel_rfl) rfl (g_load (evv rfl) (by rfl) (by rfl)) rfl rfl ?_
            refine h_giveN (i := 5) (by kernel_rfl) rfl (g_bin (evv rfl) (evv rfl) (by rfl)) (by simp only [inR]; omega) rfl ?_
            refine h_give (i := 6) (by kernel_rfl) rfl (g_nil (evv rfl)) rfl rfl ?_
            refine h_give (i := 7) (by kernel_rfl) rfl (g_fld (evv rfl)) rfl rfl ?_
            refine h_give (i := 8) (by kernel_rfl) rfl (g_idxA (evv rfl) (evv rfl) (by omega) (by omega)) rfl rfl ?_
            refine h_give (i := 9) (by kernel_rfl) rfl (g_loadF (evv rfl) (by rfl) (by rfl)) rfl rfl ?_
            refine h_one (i := 10) (by kernel_rfl) rfl (Lay.ent) ?_
            refine o_alloc rfl rfl (fun _ => ?_)
            refine o_nil ?_
            refine h_one (i := 11) (by kernel_rfl) rfl (Lay.ent) ?_
            refine o_storeW (evv rfl) (evv rfl) (by first | rfl | assumption | (simp [bys, *]; done) | fail) (by first | (intro _ _ _; exact bys_one _) | exact AllOne.h | (intro _ _ _ u hu; simp at hu; rcases hu with rfl | rfl | rfl | rfl | rfl | rfl | rfl | rfl <;> rfl) | fail) (by first | rfl | (simp [bys, *]; done) | (simp only [bys, List.length_map, *]; rfl) | fail) ?_
            refine o_nil ?_
            refine h_done (by kernel_rfl) (Lay.ent) ?_
            refine c_code ?_
            refine r_seq ?_
            refine r_region (id := 13) ?_
            refine o_give (g_fld (evv rfl)) rfl rfl ?_
            refine o_give (g_load (evv rfl) (by rfl) (by rfl)) rfl rfl ?_
            refine o_give (g_fld (evv rfl)) rfl rfl ?_
            refine o_give (g_load (evv rfl) (by rfl) (by rfl)) rfl rfl ?_
            refine o_give (g_lenM (evv rfl)) rfl rfl ?_
            refine o_give (g_bin (evv rfl) (evv rfl) (by rfl)) rfl rfl ?_
            refine o_nil ?_
            refine c_code ?_
            refine r_cond rfl (fun c5 => ?_) (fun c5 => ?_) <;> (try simp only [decide_eq_true_eq, decide_eq_false_iff_not, Bool.and_eq_true, Bool.or_eq_true, Bool.not_eq_true', Bool.and_eq_false_iff, Bool.or_eq_false_iff, Bool.not_eq_false', Bool.not_eq_true, Bool.not_eq_false, Bool.true_eq_false, Bool.false_eq_true, Int.not_lt, Int.not_le, not_and, not_or, ne_eq] at c5)
            · refine r_seq ?_
              refine r_region (id := 14) ?_
              refine o_give (g_assign (evv rfl)) rfl rfl ?_
              refine o_give (g_assign (evv rfl)) rfl rfl ?_
              refine o_nil ?_
              refine c_code ?_
              first | refine r_ret (rs := [.tmp 6, .tmp 7]) rfl rfl _ (Ent.drop.trans pt_shut) ?_ | refine c_end (rs := [.tmp 6, .tmp 7]) rfl rfl _ (Ent.drop.trans pt_shut) ?_
              (refine ⟨?_, ?_⟩ <;> first | rfl | trivial | omega)
            · exfalso; omega
        · simp only [if_neg c4]
          repeat (first | refine r_seq ?_ | refine c_code ?_ | refine c_blk ?_ | refine r_skip ?_)
          refine r_cutE (σ := Unit) (fun u => []) [0] (fun u => blk p ⟨[v0, .int .i64 (s0 : Int), v1, .int .i64 (s1 : Int), .int .i64 (lv : Int), .int .i64 (am : Int), .bool false], 58⟩ :: rom [(v0, bR b0), (v1, bR b1)] :: F) (by dsimp only [pickE, pick1, lk2, Nat.reduceBEq, Nat.reduceAdd, Nat.zero_add, cond_true, cond_false] <;> exact rfl) ?_ ?_
          · by_cases c6 : call = 3
            · subst c6
              rcases hl with rfl | rfl <;> simp [Pt.s, Pt.b] at c4
              · refine r_block ?_
                refine r_seq ?_
                refine r_block ?_
                refine r_seq ?_
                refine r_block ?_
                refine r_seq ?_
                refine r_block ?_
                refine r_seq ?_
                refine r_seq ?_
                refine r_seq ?_
                refine r_region (id := 8) ?_
                refine o_give (g_bin (evv rfl) (evv rfl) (by rfl)) rfl rfl ?_
                refine o_give (g_assign (evv rfl)) rfl rfl ?_
                refine o_nil ?_
                refine c_code ?_
                refine r_cond_false rfl ?_
                refine r_skip ?_
                refine c_code ?_
                refine r_seq ?_
                refine r_region (id := 9) ?_
                refine o_give (g_bin (evv rfl) (evv rfl) (by rfl)) rfl rfl ?_
                refine o_give (g_assign (evv rfl)) rfl rfl ?_
                refine o_nil ?_
                refine c_code ?_
                refine r_cond_true rfl ?_
                refine r_exit rfl ?_
                refine c_code ?_
                refine r_seq ?_
                repeat (first | refine r_seq ?_ | refine c_code ?_ | refine c_blk ?_ | refine r_block ?_ | refine r_skip ?_)
                refine r_held (id := 12) [blk p ⟨[v0, .int .i64 (s0 : Int), v1, .int .i64 (s1 : Int), .int .i64 ((0 : Nat) : Int), .int .i64 (am : Int), .bool false], 58⟩] Mixed.h ?_
                refine h_give (i := 0) (by kernel_rfl) rfl (g_move (evv rfl)) rfl rfl ?_
                refine h_give (i := 1) (by kernel_rfl) rfl (g_move (evv rfl)) rfl rfl ?_
                refine h_give (i := 2) (by kernel_rfl) rfl (g_nil (evv rfl)) rfl rfl ?_
                refine h_give (i := 3) (by kernel_rfl) rfl (g_fld (evv rfl)) rfl rfl ?_
                refine h_give (i := 4) (by kernel_rfl) rfl (g_load (evv rfl) (by rfl) (by rfl)) rfl rfl ?_
                refine h_giveN (i := 5) (by kernel_rfl) rfl (g_bin (evv rfl) (evv rfl) (by rfl)) (by simp only [inR]; omega) rfl ?_
                refine h_give (i := 6) (by kernel_rfl) rfl (g_nil (evv rfl)) rfl rfl ?_
                refine h_give (i := 7) (by kernel_rfl) rfl (g_fld (evv rfl)) rfl rfl ?_
                refine h_give (i := 8) (by kernel_rfl) rfl (g_idxA (evv rfl) (evv rfl) (by omega) (by omega)) rfl rfl ?_
                refine h_give (i := 9) (by kernel_rfl) rfl (g_loadF (evv rfl) (by rfl) (by rfl)) rfl rfl ?_
                refine h_one (i := 10) (by kernel_rfl) rfl (Lay.ent) ?_
                refine o_alloc rfl rfl (fun _ => ?_)
                refine o_nil ?_
                refine h_one (i := 11) (by kernel_rfl) rfl (Lay.ent) ?_
                refine o_storeW (evv rfl) (evv rfl) (by first | rfl | assumption | (simp [bys, *]; done) | fail) (by first | (intro _ _ _; exact bys_one _) | exact AllOne.h | (intro _ _ _ u hu; simp at hu; rcases hu with rfl | rfl | rfl | rfl | rfl | rfl | rfl | rfl <;> rfl) | fail) (by first | rfl | (simp [bys, *]; done) | (simp only [bys, List.length_map, *]; rfl) | fail) ?_
                refine o_nil ?_
                refine h_done (by kernel_rfl) (Lay.ent) ?_
                refine c_code ?_
                refine r_seq ?_
                refine r_region (id := 13) ?_
                refine o_give (g_fld (evv rfl)) rfl rfl ?_
                refine o_give (g_load (evv rfl) (by rfl) (by rfl)) rfl rfl ?_
                refine o_give (g_fld (evv rfl)) rfl rfl ?_
                refine o_give (g_load (evv rfl) (by rfl) (by rfl)) rfl rfl ?_
                refine o_give (g_lenM (evv rfl)) rfl rfl ?_
                refine o_give (g_bin (evv rfl) (evv rfl) (by rfl)) rfl rfl ?_
                refine o_nil ?_
                refine c_code ?_
                refine r_cond rfl (fun c5 => ?_) (fun c5 => ?_) <;> (try simp only [decide_eq_true_eq, decide_eq_false_iff_not, Bool.and_eq_true, Bool.or_eq_true, Bool.not_eq_true', Bool.and_eq_false_iff, Bool.or_eq_false_iff, Bool.not_eq_false', Bool.not_eq_true, Bool.not_eq_false, Bool.true_eq_false, Bool.false_eq_true, Int.not_lt, Int.not_le, not_and, not_or, ne_eq] at c5)
                · exfalso; omega
                · refine r_skip ?_
                  refine c_blk ?_
                  refine c_code ?_
                  refine r_exit rfl ?_
                  exact c_cut () (by repeat (first | exact trivial | refine ⟨rfl, ?_⟩ | refine envsub_v rfl (by first | rfl | (refine int_eq ?_; first | omega | (simp; omega) | (simp; done)) | (refine bool_eq ?_; first | (simp [*]; done) | (simp; done)) | (refine str_eq ?_; simp; done) | (refine ptr_eq ?_; omega) | fail) ?_)) (Lay.ent)
              · refine r_block ?_
                refine r_seq ?_
                refine r_block ?_
                refine r_seq ?_
                refine r_block ?_
                refine r_seq ?_
                refine r_block ?_
                refine r_seq ?_
                refine r_seq ?_
                refine r_seq ?_
                refine r_region (id := 8) ?_
                refine o_give (g_bin (evv rfl) (evv rfl) (by rfl)) rfl rfl ?_
                refine o_give (g_assign (evv rfl)) rfl rfl ?_
                refine o_nil ?_
                refine c_code ?_
                refine r_cond_false rfl ?_
                refine r_skip ?_
                refine c_code ?_
                refine r_seq ?_
                refine r_region (id := 9) ?_
                refine o_give (g_bin (evv rfl) (evv rfl) (by rfl)) rfl rfl ?_
                refine o_give (g_assign (evv rfl)) rfl rfl ?_
                refine o_nil ?_
                refine c_code ?_
                refine r_cond_true rfl ?_
                refine r_exit rfl ?_
                refine c_code ?_
                refine r_seq ?_
                repeat (first | refine r_seq ?_ | refine c_code ?_ | refine c_blk ?_ | refine r_block ?_ | refine r_skip ?_)
                refine r_held (id := 12) [blk p ⟨[v0, .int .i64 (s0 : Int), v1, .int .i64 (s1 : Int), .int .i64 ((1 : Nat) : Int), .int .i64 (am : Int), .bool false], 58⟩] Mixed.h ?_
                refine h_give (i := 0) (by kernel_rfl) rfl (g_move (evv rfl)) rfl rfl ?_
                refine h_give (i := 1) (by kernel_rfl) rfl (g_move (evv rfl)) rfl rfl ?_
                refine h_give (i := 2) (by kernel_rfl) rfl (g_nil (evv rfl)) rfl rfl ?_
                refine h_give (i := 3) (by kernel_rfl) rfl (g_fld (evv rfl)) rfl rfl ?_
                refine h_give (i := 4) (by kernel_rfl) rfl (g_load (evv rfl) (by rfl) (by rfl)) rfl rfl ?_
                refine h_giveN (i := 5) (by kernel_rfl) rfl (g_bin (evv rfl) (evv rfl) (by rfl)) (by simp only [inR]; omega) rfl ?_
                refine h_give (i := 6) (by kernel_rfl) rfl (g_nil (evv rfl)) rfl rfl ?_
                refine h_give (i := 7) (by kernel_rfl) rfl (g_fld (evv rfl)) rfl rfl ?_
                refine h_give (i := 8) (by kernel_rfl) rfl (g_idxA (evv rfl) (evv rfl) (by omega) (by omega)) rfl rfl ?_
                refine h_give (i := 9) (by kernel_rfl) rfl (g_loadF (evv rfl) (by rfl) (by rfl)) rfl rfl ?_
                refine h_one (i := 10) (by kernel_rfl) rfl (Lay.ent) ?_
                refine o_alloc rfl rfl (fun _ => ?_)
                refine o_nil ?_
                refine h_one (i := 11) (by kernel_rfl) rfl (Lay.ent) ?_
                refine o_storeW (evv rfl) (evv rfl) (by first | rfl | assumption | (simp [bys, *]; done) | fail) (by first | (intro _ _ _; exact bys_one _) | exact AllOne.h | (intro _ _ _ u hu; simp at hu; rcases hu with rfl | rfl | rfl | rfl | rfl | rfl | rfl | rfl <;> rfl) | fail) (by first | rfl | (simp [bys, *]; done) | (simp only [bys, List.length_map, *]; rfl) | fail) ?_
                refine o_nil ?_
                refine h_done (by kernel_rfl) (Lay.ent) ?_
                refine c_code ?_
                refine r_seq ?_
                refine r_region (id := 13) ?_
                refine o_give (g_fld (evv rfl)) rfl rfl ?_
                refine o_give (g_load (evv rfl) (by rfl) (by rfl)) rfl rfl ?_
                refine o_give (g_fld (evv rfl)) rfl rfl ?_
                refine o_give (g_load (evv rfl) (by rfl) (by rfl)) rfl rfl ?_
                refine o_give (g_lenM (evv rfl)) rfl rfl ?_
                refine o_give (g_bin (evv rfl) (evv rfl) (by rfl)) rfl rfl ?_
                refine o_nil ?_
                refine c_code ?_
                refine r_cond rfl (fun c5 => ?_) (fun c5 => ?_) <;> (try simp only [decide_eq_true_eq, decide_eq_false_iff_not, Bool.and_eq_true, Bool.or_eq_true, Bool.not_eq_true', Bool.and_eq_false_iff, Bool.or_eq_false_iff, Bool.not_eq_false', Bool.not_eq_true, Bool.not_eq_false, Bool.true_eq_false, Bool.false_eq_true, Int.not_lt, Int.not_le, not_and, not_or, ne_eq] at c5)
                · exfalso; omega
                · refine r_skip ?_
                  refine c_blk ?_
                  refine c_code ?_
                  refine r_exit rfl ?_
                  exact c_cut () (by repeat (first | exact trivial | refine ⟨rfl, ?_⟩ | refine envsub_v rfl (by first | rfl | (refine int_eq ?_; first | omega | (simp; omega) | (simp; done)) | (refine bool_eq ?_; first | (simp [*]; done) | (simp; done)) | (refine str_eq ?_; simp; done) | (refine ptr_eq ?_; omega) | fail) ?_)) (Lay.ent)
            · refine r_block ?_
              refine r_seq ?_
              refine r_block ?_
              refine r_seq ?_
              refine r_block ?_
              refine r_seq ?_
              refine r_block ?_
              refine r_seq ?_
              refine r_seq ?_
              refine r_seq ?_
              refine r_region (id := 8) ?_
              refine o_give (g_bin (evv rfl) (evv rfl) (by rfl)) rfl rfl ?_
              refine o_give (g_assign (evv rfl)) rfl rfl ?_
              refine o_nil ?_
              refine c_code ?_
              refine r_cond rfl (fun c7 => ?_) (fun c7 => ?_) <;> (try simp only [decide_eq_true_eq, decide_eq_false_iff_not, Bool.and_eq_true, Bool.or_eq_true, Bool.not_eq_true', Bool.and_eq_false_iff, Bool.or_eq_false_iff, Bool.not_eq_false', Bool.not_eq_true, Bool.not_eq_false, Bool.true_eq_false, Bool.false_eq_true, Int.not_lt, Int.not_le, not_and, not_or, ne_eq] at c7)
              · refine r_exit rfl ?_
                refine c_code ?_
                refine r_seq ?_
                refine r_seq ?_
                refine r_seq ?_
                refine r_region (id := 10) ?_
                refine o_give (g_move (evv rfl)) rfl rfl ?_
                refine o_give (g_move (evv rfl)) rfl rfl ?_
                refine o_give (g_nil (evv rfl)) rfl rfl ?_
                refine o_give (g_fld (evv rfl)) rfl rfl ?_
                refine o_give (g_load (evv rfl) (by rfl) (by rfl)) rfl rfl ?_
                refine o_give (g_bin (evv rfl) (evv rfl) (by rfl)) rfl rfl ?_
                refine o_nil ?_
                refine c_code ?_
                refine r_cond rfl (fun c8 => ?_) (fun c8 => ?_) <;> (try simp only [decide_eq_true_eq, decide_eq_false_iff_not, Bool.and_eq_true, Bool.or_eq_true, Bool.not_eq_true', Bool.and_eq_false_iff, Bool.or_eq_false_iff, Bool.not_eq_false', Bool.not_eq_true, Bool.not_eq_false, Bool.true_eq_false, Bool.false_eq_true, Int.not_lt, Int.not_le, not_and, not_or, ne_eq] at c8)
                · refine r_exit rfl ?_
                  exact c_cut () (by repeat (first | exact trivial | refine ⟨rfl, ?_⟩ | refine envsub_v rfl (by first | rfl | (refine int_eq ?_; first | omega | (simp; omega) | (simp; done)) | (refine bool_eq ?_; first | (simp [*]; done) | (simp; done)) | (refine str_eq ?_; simp; done) | (refine ptr_eq ?_; omega) | fail) ?_)) (Lay.ent)
                · exfalso; omega
              · refine r_skip ?_
                refine c_code ?_
                refine r_seq ?_
                refine r_region (id := 9) ?_
                refine o_give (g_bin (evv rfl) (evv rfl) (by rfl)) rfl rfl ?_
                refine o_give (g_assign (evv rfl)) rfl rfl ?_
                refine o_nil ?_
                refine c_code ?_
                refine r_cond rfl (fun c8 => ?_) (fun c8 => ?_) <;> (try simp only [decide_eq_true_eq, decide_eq_false_iff_not, Bool.and_eq_true, Bool.or_eq_true, Bool.not_eq_true', Bool.and_eq_false_iff, Bool.or_eq_false_iff, Bool.not_eq_false', Bool.not_eq_true, Bool.not_eq_false, Bool.true_eq_false, Bool.false_eq_true, Int.not_lt, Int.not_le, not_and, not_or, ne_eq] at c8)
                · exact absurd c8 c6
                · refine r_skip ?_
                  refine c_code ?_
                  refine r_exit rfl ?_
                  refine c_code ?_
                  refine r_exit rfl ?_
                  exact c_cut () (by repeat (first | exact trivial | refine ⟨rfl, ?_⟩ | refine envsub_v rfl (by first | rfl | (refine int_eq ?_; first | omega | (simp; omega) | (simp; done)) | (refine bool_eq ?_; first | (simp [*]; done) | (simp; done)) | (refine str_eq ?_; simp; done) | (refine ptr_eq ?_; omega) | fail) ?_)) (Lay.ent)
          intro u
          dsimp only [List.cons_append, List.nil_append]
          have e1 : max ((am : Int) - 1) 0 = ((am - 1 : Nat) : Int) := by omega
          have e2 : decide ((am : Int) - 1 = 0) = decide (am = 1) := by rw [decide_eq_decide]; omega
          refine c_code ?_
          refine r_seq ?_
          refine r_region (id := 15) ?_
          refine o_give (g_move (evv rfl)) rfl rfl ?_
          refine o_give (g_nil (evv rfl)) rfl rfl ?_
          refine o_give (g_fld (evv rfl)) rfl rfl ?_
          refine o_give (g_load (evv rfl) (by rfl) (by rfl)) rfl rfl ?_
          refine o_giveN (g_bin (evv rfl) (evv rfl) (by rfl)) (by simp only [inR]; omega) rfl ?_
          refine o_give (g_nil (evv rfl)) rfl rfl ?_
          refine o_give (g_fld (evv rfl)) rfl rfl ?_
          refine o_store1 (evv rfl) (evv rfl) (by rfl) (by rfl) (by rfl) ?_
          refine o_nil ?_
          refine c_code ?_
          refine r_seq ?_
          refine r_region (id := 16) ?_
          refine o_give (g_move (evv rfl)) rfl rfl ?_
          refine o_give (g_move (evv rfl)) rfl rfl ?_
          refine o_give (g_nil (evv rfl)) rfl rfl ?_
          refine o_give (g_fld (evv rfl)) rfl rfl ?_
          refine o_give (g_load (evv rfl) (by rfl) (by rfl)) rfl rfl ?_
          refine o_give (g_bin (evv rfl) (evv rfl) (by rfl)) rfl rfl ?_
          refine o_give (g_nil (evv rfl)) rfl rfl ?_
          refine o_give (g_fld (evv rfl)) rfl rfl ?_
          refine o_store1 (evv rfl) (evv rfl) (by rfl) (by rfl) (by rfl) ?_
          refine o_nil ?_
          refine c_code ?_
          refine r_seq ?_
          refine r_region (id := 17) ?_
          refine o_give (g_move (evv rfl)) rfl rfl ?_
          refine o_give (g_move (evv rfl)) rfl rfl ?_
          refine o_give (g_nil (evv rfl)) rfl rfl ?_
          refine o_give (g_fld (evv rfl)) rfl rfl ?_
          refine o_give (g_load (evv rfl) (by rfl) (by rfl)) rfl rfl ?_
          refine o_give (g_max2 (evv rfl) (evv rfl)) rfl rfl ?_
          refine o_give (g_nil (evv rfl)) rfl rfl ?_
          refine o_give (g_fld (evv rfl)) rfl rfl ?_
          refine o_store1 (evv rfl) (evv rfl) (by rfl) (by rfl) (by rfl) ?_
          refine o_nil ?_
          refine c_code ?_
          refine r_seq ?_
          refine r_seq ?_
          refine r_region (id := 18) ?_
          refine o_give (g_move (evv rfl)) rfl rfl ?_
          refine o_give (g_nil (evv rfl)) rfl rfl ?_
          refine o_give (g_fld (evv rfl)) rfl rfl ?_
          refine o_give (g_load (evv rfl) (by rfl) (by rfl)) rfl rfl ?_
          refine o_nil ?_
          refine c_code ?_
          rw [e1, e2]
          refine r_cond rfl (fun c9 => ?_) (fun c9 => ?_) <;> (try simp only [decide_eq_true_eq, decide_eq_false_iff_not, Bool.and_eq_true, Bool.or_eq_true, Bool.not_eq_true', Bool.and_eq_false_iff, Bool.or_eq_false_iff, Bool.not_eq_false', Bool.not_eq_true, Bool.not_eq_false, Bool.true_eq_false, Bool.false_eq_true, Int.not_lt, Int.not_le, not_and, not_or, ne_eq] at c9)
          · have e3 : (if am = 1 then (170 : Int) else 0) = 170 := if_pos c9
            simp only [tick, e3]
            refine r_seq ?_
            refine r_region (id := 19) ?_
            refine o_give (g_assign (evv rfl)) rfl rfl ?_
            refine o_give (g_assign (evv rfl)) rfl rfl ?_
            refine o_nil ?_
            refine c_code ?_
            first | refine r_ret (rs := [.tmp 6, .tmp 7]) rfl rfl _ (pt_shut) ?_ | refine c_end (rs := [.tmp 6, .tmp 7]) rfl rfl _ (pt_shut) ?_
            (refine ⟨?_, ?_⟩ <;> first | rfl | trivial | omega)
          · have e3 : (if am = 1 then (170 : Int) else 0) = 0 := if_neg c9
            simp only [tick, e3]
            refine r_skip ?_
            refine c_code ?_
            refine r_seq ?_
            refine r_region (id := 20) ?_
            refine o_give (g_assign (evv rfl)) rfl rfl ?_
            refine o_give (g_assign (evv rfl)) rfl rfl ?_
            refine o_nil ?_
            refine c_code ?_
            first | refine r_ret (rs := [.tmp 6, .tmp 7]) rfl rfl _ (pt_shut) ?_ | refine c_end (rs := [.tmp 6, .tmp 7]) rfl rfl _ (pt_shut) ?_
            (refine ⟨?_, ?_⟩ <;> first | rfl | trivial | omega)
theorem chg_ok {x : Pt} (h : x.ok) (call at_ : Int) : (chg x call at_).2.2.ok := by
  obtain ⟨h1, h2, h3, h4, h5, h6⟩ := h
  have hx : x.ok := ⟨h1, h2, h3, h4, h5, h6⟩
  unfold chg
  split
  · exact hx
  · split
    · exact hx
    · split
      · exact hx
      · split
        · exact hx
        · exact ⟨h1, h2, h3, h4, h5, by simp only [tick]; omega⟩
theorem romSubM {l l' : List (Value × Row)} {L : List Atom} (k : ∀ x, x ∈ l' → x ∈ l) : Ent (rom l :: L) (rom l' :: L) := Ent.romSub fun h q => by
  unfold rom at *
  exact fun x hx => q x (k x hx)
theorem Ent.romNilIn {l : List (Value × Row)} {L : List Atom} : Ent (rom l :: L) (rom ((.slice none 0 0, bR []) :: l) :: L) := (Ent.nilsl 5 1).trans Ent.romIn
theorem Clip_c (L : List Atom) (v : Value) (l : List UInt8) [rd : Rd L v (bR l)] :
    Fn Try.prog 25 [v] L fun w L' => w = clipV v ∧ L' = L := by
  refine fn_intro Try.func25 rfl Try.ntmps25 rfl (fun W0 => ?_)
  simp only [argE]
  refine r_seq ?_
  refine r_region (id := 0) ?_
  refine o_give (g_assign (evv rfl)) rfl rfl ?_
  refine o_nil ?_
  refine c_code ?_
  refine r_seq ?_
  refine r_region (id := 1) ?_
  refine o_give (g_move (evv rfl)) rfl rfl ?_
  refine o_give (g_move (evv rfl)) rfl rfl ?_
  refine o_give (g_lenM (evv rfl)) rfl rfl ?_
  refine o_give (g_move (evv rfl)) rfl rfl ?_
  refine o_give (g_lenM (evv rfl)) rfl rfl ?_
  refine o_give (g_clip (evv rfl) (evv rfl) (evv rfl)) rfl rfl ?_
  refine o_give (g_assign (evv rfl)) rfl rfl ?_
  refine o_nil ?_
  refine c_code ?_
  first | refine r_ret (rs := [.tmp 2]) rfl rfl _ (Ent.refl _) ?_ | refine c_end (rs := [.tmp 2]) rfl rfl _ (Ent.refl _) ?_
  (refine ⟨?_, ?_⟩ <;> first | rfl | trivial | omega)
theorem Clone_c (L : List Atom) (v : Value) (l : List UInt8) [rd : Rd L v (bR l)] (hl : l.length ≤ 1000000000) :
    Fn Try.prog 26 [v] L fun w L' => True ∧ L' = sl w (bR l) :: L := by
  refine fn_intro Try.func26 rfl Try.ntmps26 rfl (fun W0 => ?_)
  simp only [argE]
  refine r_seq ?_
  refine r_region (id := 0) ?_
  refine o_give (g_assign (evv rfl)) rfl rfl ?_
  refine o_nil ?_
  refine c_code ?_
  refine r_seq ?_
  refine r_seq ?_
  refine r_region (id := 1) ?_
  refine o_give (g_move (evv rfl)) rfl rfl ?_
  refine o_give (g_snil (evv rfl) (evv rfl) (by rfl)) rfl rfl ?_
  refine o_nil ?_
  refine c_code ?_
  refine r_cond rfl (fun h => ?_) (fun h => ?_) <;> (try simp only [decide_eq_true_eq, decide_eq_false_iff_not, Bool.and_eq_true, Bool.or_eq_true, Bool.not_eq_true', Bool.and_eq_false_iff, Bool.or_eq_false_iff, Bool.not_eq_false', Bool.not_eq_true, Bool.not_eq_false, Bool.true_eq_false, Bool.false_eq_true, Int.not_lt, Int.not_le, not_and, not_or, ne_eq] at h)
  · refine r_isnil rd h fun hl0 => ?_
    subst hl0
    refine r_seq ?_
    refine r_region (id := 2) ?_
    refine o_give (g_assign (evv rfl)) rfl rfl ?_
    refine o_nil ?_
    refine c_code ?_
    first | refine r_ret (rs := [.tmp 2]) rfl rfl _ (Ent.nilsl 5 1) ?_ | refine c_end (rs := [.tmp 2]) rfl rfl _ (Ent.nilsl 5 1) ?_
    (refine ⟨?_, ?_⟩ <;> first | rfl | trivial | omega)
  · refine r_skip ?_
    refine c_code ?_
    refine r_seq ?_
    refine r_region (id := 3) ?_
    refine o_lit0 by8 (by rfl) rfl (fun _ => ?_)
    refine o_give (g_move (evv rfl)) rfl rfl ?_
    refine o_appM (evv rfl) (evv rfl) (by rfl) (by rfl) (by rfl) (by (try simp only [bsOf, List.length_append, List.length_cons, List.length_nil]); omega) rfl (fun _ => ?_)
    refine o_give (g_assign (evv rfl)) rfl rfl ?_
    refine o_nil ?_
    refine c_code ?_
    first | refine r_ret (rs := [.tmp 2]) rfl rfl _ (Ent.refl _) ?_ | refine c_end (rs := [.tmp 2]) rfl rfl _ (Ent.refl _) ?_
    (refine ⟨?_, ?_⟩ <;> first | rfl | trivial | omega)
/-- what is kept of an area, laid anew -/
def Pt.setB (x : Pt) (i : Int) (b : List UInt8) : Pt := if i = 0 then { x with b0 := b } else { x with b1 := b }
def Pt.setS (x : Pt) (i : Int) (s : Nat) : Pt := if i = 0 then { x with s0 := s } else { x with s1 := s }
def appT (x : Pt) (i : Int) (m : List UInt8) : Int × Pt := ((chg x 0 i).1, if (chg x 0 i).2.1 = true then (chg x 0 i).2.2.setB i (((chg x 0 i).2.2.b i.toNat) ++ m) else (chg x 0 i).2.2)
theorem chg_at {x : Pt} {call at_ : Int} (hc : call ≠ 3) (h : (chg x call at_).2.1 = true) : at_ = 0 ∨ at_ = 1 := by
  unfold chg at h
  split at h
  · cases h
  · omega
theorem Append_c (F : List Atom) (p : Nat) (x : Pt) (h : x.ok) (at_ : Int) (vb : Value) (m : List UInt8) [rd : Rd F vb (bR m)] (hm : m.length ≤ 1000000000) :
    Fn Try.prog 11 [.pointer (some ⟨p, 0, none⟩), .int .i64 at_, vb] (pt p x :: F) fun v L' => v = .int .i64 (appT x at_ m).1 ∧ L' = pt p (appT x at_ m).2 :: F := by
  have hok := chg_ok h 0 at_
  have hat := chg_at (x := x) (at_ := at_) (call := 0) (by decide)
  refine fn_intro Try.func11 rfl Try.ntmps11 rfl (fun W0 => ?_)
  simp only [argE]
  refine r_seq ?_
  refine r_region (id := 0) ?_
  refine o_give (g_assign (evv rfl)) rfl rfl ?_
  refine o_nil ?_
  refine c_code ?_
  refine r_seq ?_
  refine r_region (id := 1) ?_
  refine o_give (g_move (evv rfl)) rfl rfl ?_
  refine o_give (g_move (evv rfl)) rfl rfl ?_
  (refine o_call rfl _ (PickR.ent (K := pt _)) (change_c _ _ _ (by assumption) _ _) rfl ?_; rintro _ _ ⟨rfl, rfl⟩)
  refine o_give (g_move (evv rfl)) rfl rfl ?_
  refine o_give (g_extract (evv rfl) (by rfl)) rfl rfl ?_
  refine o_give (g_extract (evv rfl) (by rfl)) rfl rfl ?_
  refine o_give (g_assign (evv rfl)) rfl rfl ?_
  refine o_give (g_assign (evv rfl)) rfl rfl ?_
  refine o_nil ?_
  refine c_code ?_
  refine r_seq ?_
  refine r_seq ?_
  refine r_region (id := 2) ?_
  refine o_give (g_move (evv rfl)) rfl rfl ?_
  refine o_nil ?_
  refine c_code ?_
  simp only [appT]
  generalize chg x 0 at_ = r at *
  obtain ⟨e, dn, y⟩ := r
  dsimp only at hok hat ⊢
  refine r_cond rfl (fun c1 => ?_) (fun c1 => ?_) <;> (try simp only [decide_eq_true_eq, decide_eq_false_iff_not, Bool.and_eq_true, Bool.or_eq_true, Bool.not_eq_true', Bool.and_eq_false_iff, Bool.or_eq_false_iff, Bool.not_eq_false', Bool.not_eq_true, Bool.not_eq_false, Bool.true_eq_false, Bool.false_eq_true, Int.not_lt, Int.not_le, not_and, not_or, ne_eq] at c1)
  · have ha := hat c1
    subst c1
    refine r_exA fun vs => ?_
    obtain ⟨v0, v1⟩ := vs
    have hn0 := hok.n0
    have hn1 := hok.n1
    obtain ⟨b0, s0, b1, s1, lv, am, dn⟩ := y
    dsimp only at hn0 hn1
    dsimp only [ptX, ptB, List.cons_append, List.nil_append]
    rcases ha with rfl | rfl
    · refine r_draw (id := 3) Mixed.h ?_
      refine d_take (i := 0) (by kernel_rfl) rfl (fun W0 => g_move (evv rfl)) rfl ?_
      refine d_take (i := 1) (by kernel_rfl) rfl (fun W0 => g_move (evv rfl)) rfl ?_
      refine d_take (i := 2) (by kernel_rfl) rfl (fun W0 => g_move (evv rfl)) rfl ?_
      refine d_take (i := 3) (by kernel_rfl) rfl (fun W0 => g_move (evv rfl)) rfl ?_
      refine d_take (i := 4) (by kernel_rfl) rfl (fun W0 => g_nil (evv rfl)) rfl ?_
      refine d_take (i := 5) (by kernel_rfl) rfl (fun W0 => g_fld (evv rfl)) rfl ?_
      refine d_take (i := 6) (by kernel_rfl) rfl (fun W0 => g_idxA (evv rfl) (evv rfl) (by omega) (by omega)) rfl ?_
      refine d_take (i := 7) (by kernel_rfl) rfl (fun W0 => g_fld (evv rfl)) rfl ?_
      refine d_take (i := 10) (by kernel_rfl) rfl (fun W0 => g_move (evv rfl)) rfl ?_
      refine d_take (i := 12) (by kernel_rfl) rfl (fun W0 => g_nil (evv rfl)) rfl ?_
      refine d_take (i := 13) (by kernel_rfl) rfl (fun W0 => g_fld (evv rfl)) rfl ?_
      refine d_one (i := 8) (by kernel_rfl) rfl ?_
      refine o_give (g_load (evv rfl) (by rfl) (by rfl)) rfl rfl ?_
      refine o_nil ?_
      refine d_one (i := 9) (by kernel_rfl) rfl ?_
      (refine o_call rfl _ (Ent.refl _) (Clip_c _ _ _) rfl ?_; rintro _ _ ⟨rfl, rfl⟩)
      refine o_nil ?_
      refine d_one (i := 11) (by kernel_rfl) rfl ?_
      refine o_appRom (evv rfl) (evv rfl) (by rfl) (by rfl) (by rfl) (by (try simp only [bsOf, List.length_append, List.length_cons, List.length_nil]); omega) rfl (fun _ => ?_)
      refine o_nil ?_
      refine d_take (i := 14) (by kernel_rfl) rfl (fun W0 => g_idxA (evv rfl) (evv rfl) (by omega) (by omega)) rfl ?_
      refine d_take (i := 15) (by kernel_rfl) rfl (fun W0 => g_fld (evv rfl)) rfl ?_
      refine d_one (i := 16) (by kernel_rfl) rfl ?_
      refine o_store1 (evv rfl) (evv rfl) (by rfl) (by rfl) (by rfl) ?_
      refine o_nil ?_
      refine d_done (by kernel_rfl) ?_
      refine c_code ?_
      refine r_seq ?_
      rename_i w
      refine r_region (id := 4) ?_
      refine o_give (g_move (evv rfl)) rfl rfl ?_
      refine o_give (g_assign (evv rfl)) rfl rfl ?_
      refine o_nil ?_
      refine c_code ?_
      first | refine r_ret (rs := [.tmp 6]) rfl rfl _ ((Ent.cons (romSubM (l' := [(w, bR (b0 ++ m)), (v1, bR b1)]) (fun x hx => by simp only [List.mem_cons, List.not_mem_nil, or_false] at hx ⊢; rcases hx with rfl | rfl <;> simp))).trans pt_shut) ?_ | refine c_end (rs := [.tmp 6]) rfl rfl _ ((Ent.cons (romSubM (l' := [(w, bR (b0 ++ m)), (v1, bR b1)]) (fun x hx => by simp only [List.mem_cons, List.not_mem_nil, or_false] at hx ⊢; rcases hx with rfl | rfl <;> simp))).trans pt_shut) ?_
      (refine ⟨?_, ?_⟩ <;> first | rfl | trivial | omega)
    · refine r_draw (id := 3) Mixed.h ?_
      refine d_take (i := 0) (by kernel_rfl) rfl (fun W0 => g_move (evv rfl)) rfl ?_
      refine d_take (i := 1) (by kernel_rfl) rfl (fun W0 => g_move (evv rfl)) rfl ?_
      refine d_take (i := 2) (by kernel_rfl) rfl (fun W0 => g_move (evv rfl)) rfl ?_
      refine d_take (i := 3) (by kernel_rfl) rfl (fun W0 => g_move (evv rfl)) rfl ?_
      refine d_take (i := 4) (by kernel_rfl) rfl (fun W0 => g_nil (evv rfl)) rfl ?_
      refine d_take (i := 5) (by kernel_rfl) rfl (fun W0 => g_fld (evv rfl)) rfl ?_
      refine d_take (i := 6) (by kernel_rfl) rfl (fun W0 => g_idxA (evv rfl) (evv rfl) (by omega) (by omega)) rfl ?_
      refine d_take (i := 7) (by kernel_rfl) rfl (fun W0 => g_fld (evv rfl)) rfl ?_
      refine d_take (i := 10) (by kernel_rfl) rfl (fun W0 => g_move (evv rfl)) rfl ?_
      refine d_take (i := 12) (by kernel_rfl) rfl (fun W0 => g_nil (evv rfl)) rfl ?_
      refine d_take (i := 13) (by kernel_rfl) rfl (fun W0 => g_fld (evv rfl)) rfl ?_
      refine d_one (i := 8) (by kernel_rfl) rfl ?_
      refine o_give (g_load (evv rfl) (by rfl) (by rfl)) rfl rfl ?_
      refine o_nil ?_
      refine d_one (i := 9) (by kernel_rfl) rfl ?_
      (refine o_call rfl _ (Ent.refl _) (Clip_c _ _ _) rfl ?_; rintro _ _ ⟨rfl, rfl⟩)
      refine o_nil ?_
      refine d_one (i := 11) (by kernel_rfl) rfl ?_
      refine o_appRom (evv rfl) (evv rfl) (by rfl) (by rfl) (by rfl) (by (try simp only [bsOf, List.length_append, List.length_cons, List.length_nil]); omega) rfl (fun _ => ?_)
      refine o_nil ?_
      refine d_take (i := 14) (by kernel_rfl) rfl (fun W0 => g_idxA (evv rfl) (evv rfl) (by omega) (by omega)) rfl ?_
      refine d_take (i := 15) (by kernel_rfl) rfl (fun W0 => g_fld (evv rfl)) rfl ?_
      refine d_one (i := 16) (by kernel_rfl) rfl ?_
      refine o_store1 (evv rfl) (evv rfl) (by rfl) (by rfl) (by rfl) ?_
      refine o_nil ?_
      refine d_done (by kernel_rfl) ?_
      refine c_code ?_
      refine r_seq ?_
      rename_i w
      refine r_region (id := 4) ?_
      refine o_give (g_move (evv rfl)) rfl rfl ?_
      refine o_give (g_assign (evv rfl)) rfl rfl ?_
      refine o_nil ?_
      refine c_code ?_
      first | refine r_ret (rs := [.tmp 6]) rfl rfl _ ((Ent.cons (romSubM (l' := [(v0, bR b0), (w, bR (b1 ++ m))]) (fun x hx => by simp only [List.mem_cons, List.not_mem_nil, or_false] at hx ⊢; rcases hx with rfl | rfl <;> simp))).trans pt_shut) ?_ | refine c_end (rs := [.tmp 6]) rfl rfl _ ((Ent.cons (romSubM (l' := [(v0, bR b0), (w, bR (b1 ++ m))]) (fun x hx => by simp only [List.mem_cons, List.not_mem_nil, or_false] at hx ⊢; rcases hx with rfl | rfl <;> simp))).trans pt_shut) ?_
      (refine ⟨?_, ?_⟩ <;> first | rfl | trivial | omega)
  · subst c1
    refine r_skip ?_
    refine c_code ?_
    refine r_seq ?_
    refine r_region (id := 4) ?_
    refine o_give (g_move (evv rfl)) rfl rfl ?_
    refine o_give (g_assign (evv rfl)) rfl rfl ?_
    refine o_nil ?_
    refine c_code ?_
    first | refine r_ret (rs := [.tmp 6]) rfl rfl _ (Ent.refl _) ?_ | refine c_end (rs := [.tmp 6]) rfl rfl _ (Ent.refl _) ?_
    (refine ⟨?_, ?_⟩ <;> first | rfl | trivial | omega)
def synT (x : Pt) (i : Int) : Int × Pt := ((chg x 1 i).1, if (chg x 1 i).1 = 0 then (chg x 1 i).2.2.setS i ((chg x 1 i).2.2.b i.toNat).length else (chg x 1 i).2.2)
theorem chg_at0 {x : Pt} {call at_ : Int} (hc : call ≠ 3) (h : (chg x call at_).1 = 0) : at_ = 0 ∨ at_ = 1 := by
  unfold chg at h
  split at h
  · cases h
  · omega
theorem Sync_c (F : List Atom) (p : Nat) (x : Pt) (h : x.ok) (at_ : Int) :
    Fn Try.prog 12 [.pointer (some ⟨p, 0, none⟩), .int .i64 at_] (pt p x :: F) fun v L' => v = .int .i64 (synT x at_).1 ∧ L' = pt p (synT x at_).2 :: F := by
  have hok := chg_ok h 1 at_
  have hat := chg_at0 (x := x) (at_ := at_) (call := 1) (by decide)
  refine fn_intro Try.func12 rfl Try.ntmps12 rfl (fun W0 => ?_)
  simp only [argE]
  refine r_seq ?_
  refine r_region (id := 0) ?_
  refine o_give (g_assign (evv rfl)) rfl rfl ?_
  refine o_nil ?_
  refine c_code ?_
  refine r_seq ?_
  refine r_region (id := 1) ?_
  refine o_give (g_move (evv rfl)) rfl rfl ?_
  refine o_give (g_move (evv rfl)) rfl rfl ?_
  (refine o_call rfl _ (PickR.ent (K := pt _)) (change_c _ _ _ (by assumption) _ _) rfl ?_; rintro _ _ ⟨rfl, rfl⟩)
  refine o_give (g_move (evv rfl)) rfl rfl ?_
  refine o_give (g_extract (evv rfl) (by rfl)) rfl rfl ?_
  refine o_give (g_extract (evv rfl) (by rfl)) rfl rfl ?_
  refine o_give (g_assign (evv rfl)) rfl rfl ?_
  refine o_give (g_assign (evv rfl)) rfl rfl ?_
  refine o_nil ?_
  refine c_code ?_
  refine r_seq ?_
  refine r_seq ?_
  simp only [synT]
  generalize chg x 1 at_ = r at *
  obtain ⟨e, dn, y⟩ := r
  dsimp only at hok hat ⊢
  refine r_region (id := 2) ?_
  refine o_give (g_move (evv rfl)) rfl rfl ?_
  refine o_give (g_bin (evv rfl) (evv rfl) (by rfl)) rfl rfl ?_
  refine o_nil ?_
  refine c_code ?_
  refine r_cond rfl (fun c1 => ?_) (fun c1 => ?_) <;> (try simp only [decide_eq_true_eq, decide_eq_false_iff_not, Bool.and_eq_true, Bool.or_eq_true, Bool.not_eq_true', Bool.and_eq_false_iff, Bool.or_eq_false_iff, Bool.not_eq_false', Bool.not_eq_true, Bool.not_eq_false, Bool.true_eq_false, Bool.false_eq_true, Int.not_lt, Int.not_le, not_and, not_or, ne_eq] at c1)
  · have ha := hat c1
    subst c1
    refine r_exA fun vs => ?_
    obtain ⟨v0, v1⟩ := vs
    obtain ⟨b0, s0, b1, s1, lv, am, dn⟩ := y
    dsimp only [ptX, ptB, List.cons_append, List.nil_append]
    rcases ha with rfl | rfl
    · refine r_draw (id := 3) Mixed.h ?_
      refine d_take (i := 0) (by kernel_rfl) rfl (fun W0 => g_move (evv rfl)) rfl ?_
      refine d_take (i := 1) (by kernel_rfl) rfl (fun W0 => g_move (evv rfl)) rfl ?_
      refine d_take (i := 2) (by kernel_rfl) rfl (fun W0 => g_move (evv rfl)) rfl ?_
      refine d_take (i := 3) (by kernel_rfl) rfl (fun W0 => g_move (evv rfl)) rfl ?_
      refine d_take (i := 4) (by kernel_rfl) rfl (fun W0 => g_nil (evv rfl)) rfl ?_
      refine d_take (i := 5) (by kernel_rfl) rfl (fun W0 => g_fld (evv rfl)) rfl ?_
      refine d_take (i := 6) (by kernel_rfl) rfl (fun W0 => g_idxA (evv rfl) (evv rfl) (by omega) (by omega)) rfl ?_
      refine d_take (i := 7) (by kernel_rfl) rfl (fun W0 => g_fld (evv rfl)) rfl ?_
      refine d_take (i := 10) (by kernel_rfl) rfl (fun W0 => g_nil (evv rfl)) rfl ?_
      refine d_take (i := 11) (by kernel_rfl) rfl (fun W0 => g_fld (evv rfl)) rfl ?_
      refine d_one (i := 8) (by kernel_rfl) rfl ?_
      refine o_give (g_load (evv rfl) (by rfl) (by rfl)) rfl rfl ?_
      refine o_nil ?_
      refine d_one (i := 9) (by kernel_rfl) rfl ?_
      refine o_give (g_lenM (evv rfl)) rfl rfl ?_
      refine o_nil ?_
      refine d_take (i := 12) (by kernel_rfl) rfl (fun W0 => g_idxA (evv rfl) (evv rfl) (by omega) (by omega)) rfl ?_
      refine d_take (i := 13) (by kernel_rfl) rfl (fun W0 => g_fld (evv rfl)) rfl ?_
      refine d_one (i := 14) (by kernel_rfl) rfl ?_
      refine o_store1 (evv rfl) (evv rfl) (by rfl) (by rfl) (by rfl) ?_
      refine o_nil ?_
      refine d_done (by kernel_rfl) ?_
      refine c_code ?_
      refine r_seq ?_
      refine r_region (id := 4) ?_
      refine o_give (g_move (evv rfl)) rfl rfl ?_
      refine o_give (g_assign (evv rfl)) rfl rfl ?_
      refine o_nil ?_
      refine c_code ?_
      first | refine r_ret (rs := [.tmp 4]) rfl rfl _ (pt_shut) ?_ | refine c_end (rs := [.tmp 4]) rfl rfl _ (pt_shut) ?_
      (refine ⟨?_, ?_⟩ <;> first | rfl | trivial | omega)
    · refine r_draw (id := 3) Mixed.h ?_
      refine d_take (i := 0) (by kernel_rfl) rfl (fun W0 => g_move (evv rfl)) rfl ?_
      refine d_take (i := 1) (by kernel_rfl) rfl (fun W0 => g_move (evv rfl)) rfl ?_
      refine d_take (i := 2) (by kernel_rfl) rfl (fun W0 => g_move (evv rfl)) rfl ?_
      refine d_take (i := 3) (by kernel_rfl) rfl (fun W0 => g_move (evv rfl)) rfl ?_
      refine d_take (i := 4) (by kernel_rfl) rfl (fun W0 => g_nil (evv rfl)) rfl ?_
      refine d_take (i := 5) (by kernel_rfl) rfl (fun W0 => g_fld (evv rfl)) rfl ?_
      refine d_take (i := 6) (by kernel_rfl) rfl (fun W0 => g_idxA (evv rfl) (evv rfl) (by omega) (by omega)) rfl ?_
      refine d_take (i := 7) (by kernel_rfl) rfl (fun W0 => g_fld (evv rfl)) rfl ?_
      refine d_take (i := 10) (by kernel_rfl) rfl (fun W0 => g_nil (evv rfl)) rfl ?_
      refine d_take (i := 11) (by kernel_rfl) rfl (fun W0 => g_fld (evv rfl)) rfl ?_
      refine d_one (i := 8) (by kernel_rfl) rfl ?_
      refine o_give (g_load (evv rfl) (by rfl) (by rfl)) rfl rfl ?_
      refine o_nil ?_
      refine d_one (i := 9) (by kernel_rfl) rfl ?_
      refine o_give (g_lenM (evv rfl)) rfl rfl ?_
      refine o_nil ?_
      refine d_take (i := 12) (by kernel_rfl) rfl (fun W0 => g_idxA (evv rfl) (evv rfl) (by omega) (by omega)) rfl ?_
      refine d_take (i := 13) (by kernel_rfl) rfl (fun W0 => g_fld (evv rfl)) rfl ?_
      refine d_one (i := 14) (by kernel_rfl) rfl ?_
      refine o_store1 (evv rfl) (evv rfl) (by rfl) (by rfl) (by rfl) ?_
      refine o_nil ?_
      refine d_done (by kernel_rfl) ?_
      refine c_code ?_
      refine r_seq ?_
      refine r_region (id := 4) ?_
      refine o_give (g_move (evv rfl)) rfl rfl ?_
      refine o_give (g_assign (evv rfl)) rfl rfl ?_
      refine o_nil ?_
      refine c_code ?_
      first | refine r_ret (rs := [.tmp 4]) rfl rfl _ (pt_shut) ?_ | refine c_end (rs := [.tmp 4]) rfl rfl _ (pt_shut) ?_
      (refine ⟨?_, ?_⟩ <;> first | rfl | trivial | omega)
  · simp only [if_neg c1]
    refine r_skip ?_
    refine c_code ?_
    refine r_seq ?_
    refine r_region (id := 4) ?_
    refine o_give (g_move (evv rfl)) rfl rfl ?_
    refine o_give (g_assign (evv rfl)) rfl rfl ?_
    refine o_nil ?_
    refine c_code ?_
    first | refine r_ret (rs := [.tmp 4]) rfl rfl _ (Ent.refl _) ?_ | refine c_end (rs := [.tmp 4]) rfl rfl _ (Ent.refl _) ?_
    (refine ⟨?_, ?_⟩ <;> first | rfl | trivial | omega)
def wipT (x : Pt) (i : Int) : Int × Pt := ((chg x 2 i).1, if (chg x 2 i).1 = 0 then ((chg x 2 i).2.2.setB i []).setS i 0 else (chg x 2 i).2.2)
theorem Wipe_c (F : List Atom) (p : Nat) (x : Pt) (h : x.ok) (at_ : Int) :
    Fn Try.prog 22 [.pointer (some ⟨p, 0, none⟩), .int .i64 at_] (pt p x :: F) fun v L' => v = .int .i64 (wipT x at_).1 ∧ L' = pt p (wipT x at_).2 :: F := by
  have hok := chg_ok h 2 at_
  have hat := chg_at0 (x := x) (at_ := at_) (call := 2) (by decide)
  refine fn_intro Try.func22 rfl Try.ntmps22 rfl (fun W0 => ?_)
  simp only [argE]
  refine r_seq ?_
  refine r_region (id := 0) ?_
  refine o_give (g_assign (evv rfl)) rfl rfl ?_
  refine o_nil ?_
  refine c_code ?_
  refine r_seq ?_
  refine r_region (id := 1) ?_
  refine o_give (g_move (evv rfl)) rfl rfl ?_
  refine o_give (g_move (evv rfl)) rfl rfl ?_
  (refine o_call rfl _ (PickR.ent (K := pt _)) (change_c _ _ _ (by assumption) _ _) rfl ?_; rintro _ _ ⟨rfl, rfl⟩)
  refine o_give (g_move (evv rfl)) rfl rfl ?_
  refine o_give (g_extract (evv rfl) (by rfl)) rfl rfl ?_
  refine o_give (g_extract (evv rfl) (by rfl)) rfl rfl ?_
  refine o_give (g_assign (evv rfl)) rfl rfl ?_
  refine o_give (g_assign (evv rfl)) rfl rfl ?_
  refine o_nil ?_
  refine c_code ?_
  refine r_seq ?_
  refine r_seq ?_
  simp only [wipT]
  generalize chg x 2 at_ = r at *
  obtain ⟨e, dn, y⟩ := r
  dsimp only at hok hat ⊢
  refine r_region (id := 2) ?_
  refine o_give (g_move (evv rfl)) rfl rfl ?_
  refine o_give (g_bin (evv rfl) (evv rfl) (by rfl)) rfl rfl ?_
  refine o_nil ?_
  refine c_code ?_
  refine r_cond rfl (fun c1 => ?_) (fun c1 => ?_) <;> (try simp only [decide_eq_true_eq, decide_eq_false_iff_not, Bool.and_eq_true, Bool.or_eq_true, Bool.not_eq_true', Bool.and_eq_false_iff, Bool.or_eq_false_iff, Bool.not_eq_false', Bool.not_eq_true, Bool.not_eq_false, Bool.true_eq_false, Bool.false_eq_true, Int.not_lt, Int.not_le, not_and, not_or, ne_eq] at c1)
  · have ha := hat c1
    subst c1
    refine r_exA fun vs => ?_
    obtain ⟨v0, v1⟩ := vs
    obtain ⟨b0, s0, b1, s1, lv, am, dn⟩ := y
    dsimp only [ptX, ptB, List.cons_append, List.nil_append]
    rcases ha with rfl | rfl
    · refine r_region (id := 3) ?_
      refine o_give (g_move (evv rfl)) rfl rfl ?_
      refine o_give (g_move (evv rfl)) rfl rfl ?_
      refine o_give (v := agg [(Go.Value.slice none 0 0), (Go.Value.int Go.IntKind.i64 0)]) (g_buildC rfl (by rfl)) rfl rfl ?_
      refine o_give (g_nil (evv rfl)) rfl rfl ?_
      refine o_give (g_fld (evv rfl)) rfl rfl ?_
      refine o_give (g_idxA (evv rfl) (evv rfl) (by omega) (by omega)) rfl rfl ?_
      refine o_storeA (evv rfl) (evv rfl) (by first | rfl | assumption | (simp [bys, *]; done) | fail) (by first | (intro _ _ _; exact bys_one _) | exact AllOne.h | (intro _ _ _ u hu; simp at hu; rcases hu with rfl | rfl | rfl | rfl | rfl | rfl | rfl | rfl <;> rfl) | fail) (by rfl) (by rfl) ?_
      refine o_nil ?_
      refine c_code ?_
      refine r_seq ?_
      refine r_region (id := 4) ?_
      refine o_give (g_move (evv rfl)) rfl rfl ?_
      refine o_give (g_assign (evv rfl)) rfl rfl ?_
      refine o_nil ?_
      refine c_code ?_
      first | refine r_ret (rs := [.tmp 4]) rfl rfl _ ((Ent.cons ((Ent.romNilIn (l := [(v0, bR b0), (v1, bR b1)])).trans (romSubM (l' := [(.slice none 0 0, bR []), (v1, bR b1)]) (fun x hx => by simp only [List.mem_cons, List.not_mem_nil, or_false] at hx ⊢; rcases hx with rfl | rfl <;> simp)))).trans pt_shut) ?_ | refine c_end (rs := [.tmp 4]) rfl rfl _ ((Ent.cons ((Ent.romNilIn (l := [(v0, bR b0), (v1, bR b1)])).trans (romSubM (l' := [(.slice none 0 0, bR []), (v1, bR b1)]) (fun x hx => by simp only [List.mem_cons, List.not_mem_nil, or_false] at hx ⊢; rcases hx with rfl | rfl <;> simp)))).trans pt_shut) ?_
      (refine ⟨?_, ?_⟩ <;> first | rfl | trivial | omega)
    · refine r_region (id := 3) ?_
      refine o_give (g_move (evv rfl)) rfl rfl ?_
      refine o_give (g_move (evv rfl)) rfl rfl ?_
      refine o_give (v := agg [(Go.Value.slice none 0 0), (Go.Value.int Go.IntKind.i64 0)]) (g_buildC rfl (by rfl)) rfl rfl ?_
      refine o_give (g_nil (evv rfl)) rfl rfl ?_
      refine o_give (g_fld (evv rfl)) rfl rfl ?_
      refine o_give (g_idxA (evv rfl) (evv rfl) (by omega) (by omega)) rfl rfl ?_
      refine o_storeA (evv rfl) (evv rfl) (by first | rfl | assumption | (simp [bys, *]; done) | fail) (by first | (intro _ _ _; exact bys_one _) | exact AllOne.h | (intro _ _ _ u hu; simp at hu; rcases hu with rfl | rfl | rfl | rfl | rfl | rfl | rfl | rfl <;> rfl) | fail) (by rfl) (by rfl) ?_
      refine o_nil ?_
      refine c_code ?_
      refine r_seq ?_
      refine r_region (id := 4) ?_
      refine o_give (g_move (evv rfl)) rfl rfl ?_
      refine o_give (g_assign (evv rfl)) rfl rfl ?_
      refine o_nil ?_
      refine c_code ?_
      first | refine r_ret (rs := [.tmp 4]) rfl rfl _ ((Ent.cons ((Ent.romNilIn (l := [(v0, bR b0), (v1, bR b1)])).trans (romSubM (l' := [(v0, bR b0), (.slice none 0 0, bR [])]) (fun x hx => by simp only [List.mem_cons, List.not_mem_nil, or_false] at hx ⊢; rcases hx with rfl | rfl <;> simp)))).trans pt_shut) ?_ | refine c_end (rs := [.tmp 4]) rfl rfl _ ((Ent.cons ((Ent.romNilIn (l := [(v0, bR b0), (v1, bR b1)])).trans (romSubM (l' := [(v0, bR b0), (.slice none 0 0, bR [])]) (fun x hx => by simp only [List.mem_cons, List.not_mem_nil, or_false] at hx ⊢; rcases hx with rfl | rfl <;> simp)))).trans pt_shut) ?_
      (refine ⟨?_, ?_⟩ <;> first | rfl | trivial | omega)
  · simp only [if_neg c1]
    refine r_skip ?_
    refine c_code ?_
    refine r_seq ?_
    refine r_region (id := 4) ?_
    refine o_give (g_move (evv rfl)) rfl rfl ?_
    refine o_give (g_assign (evv rfl)) rfl rfl ?_
    refine o_nil ?_
    refine c_code ?_
    first | refine r_ret (rs := [.tmp 4]) rfl rfl _ (Ent.refl _) ?_ | refine c_end (rs := [.tmp 4]) rfl rfl _ (Ent.refl _) ?_
    (refine ⟨?_, ?_⟩ <;> first | rfl | trivial | omega)
def flpT (x : Pt) : Int × Pt := ((chg x 3 0).1, if (chg x 3 0).1 = 0 then { (chg x 3 0).2.2 with live := 1 - (chg x 3 0).2.2.live } else (chg x 3 0).2.2)
theorem Flip_c (F : List Atom) (p : Nat) (x : Pt) (h : x.ok) :
    Fn Try.prog 21 [.pointer (some ⟨p, 0, none⟩)] (pt p x :: F) fun v L' => v = .int .i64 (flpT x).1 ∧ L' = pt p (flpT x).2 :: F := by
  have hok := chg_ok h 3 0
  refine fn_intro Try.func21 rfl Try.ntmps21 rfl (fun W0 => ?_)
  simp only [argE]
  refine r_seq ?_
  refine r_region (id := 0) ?_
  refine o_give (g_assign (evv rfl)) rfl rfl ?_
  refine o_nil ?_
  refine c_code ?_
  refine r_seq ?_
  refine r_region (id := 1) ?_
  refine o_give (g_move (evv rfl)) rfl rfl ?_
  (refine o_call rfl _ (PickR.ent (K := pt _)) (change_c _ _ _ (by assumption) _ _) rfl ?_; rintro _ _ ⟨rfl, rfl⟩)
  refine o_give (g_move (evv rfl)) rfl rfl ?_
  refine o_give (g_extract (evv rfl) (by rfl)) rfl rfl ?_
  refine o_give (g_extract (evv rfl) (by rfl)) rfl rfl ?_
  refine o_give (g_assign (evv rfl)) rfl rfl ?_
  refine o_give (g_assign (evv rfl)) rfl rfl ?_
  refine o_nil ?_
  refine c_code ?_
  refine r_seq ?_
  refine r_seq ?_
  simp only [flpT]
  generalize chg x 3 0 = r at *
  obtain ⟨e, dn, y⟩ := r
  dsimp only at hok ⊢
  refine r_region (id := 2) ?_
  refine o_give (g_move (evv rfl)) rfl rfl ?_
  refine o_give (g_bin (evv rfl) (evv rfl) (by rfl)) rfl rfl ?_
  refine o_nil ?_
  refine c_code ?_
  refine r_cond rfl (fun c1 => ?_) (fun c1 => ?_) <;> (try simp only [decide_eq_true_eq, decide_eq_false_iff_not, Bool.and_eq_true, Bool.or_eq_true, Bool.not_eq_true', Bool.and_eq_false_iff, Bool.or_eq_false_iff, Bool.not_eq_false', Bool.not_eq_true, Bool.not_eq_false, Bool.true_eq_false, Bool.false_eq_true, Int.not_lt, Int.not_le, not_and, not_or, ne_eq] at c1)
  · subst c1
    refine r_exA fun vs => ?_
    obtain ⟨v0, v1⟩ := vs
    have hl := hok.l
    obtain ⟨b0, s0, b1, s1, lv, am, dn⟩ := y
    dsimp only at hl
    dsimp only [ptX, ptB, List.cons_append, List.nil_append]
    have e1 : (1 : Int) - (lv : Int) = ((1 - lv : Nat) : Int) := by omega
    refine r_region (id := 3) ?_
    refine o_give (g_move (evv rfl)) rfl rfl ?_
    refine o_give (g_move (evv rfl)) rfl rfl ?_
    refine o_give (g_nil (evv rfl)) rfl rfl ?_
    refine o_give (g_fld (evv rfl)) rfl rfl ?_
    refine o_give (g_load (evv rfl) (by rfl) (by rfl)) rfl rfl ?_
    refine o_giveN (g_bin (evv rfl) (evv rfl) (by rfl)) (by simp only [inR]; omega) rfl ?_
    refine o_give (g_nil (evv rfl)) rfl rfl ?_
    refine o_give (g_fld (evv rfl)) rfl rfl ?_
    refine o_store1 (evv rfl) (evv rfl) (by rfl) (by rfl) (by rfl) ?_
    refine o_nil ?_
    refine c_code ?_
    refine r_seq ?_
    refine r_region (id := 4) ?_
    refine o_give (g_move (evv rfl)) rfl rfl ?_
    refine o_give (g_assign (evv rfl)) rfl rfl ?_
    refine o_nil ?_
    refine c_code ?_
    rw [e1]
    skip
    first | refine r_ret (rs := [.tmp 2]) rfl rfl _ (pt_shut) ?_ | refine c_end (rs := [.tmp 2]) rfl rfl _ (pt_shut) ?_
    (refine ⟨?_, ?_⟩ <;> first | rfl | trivial | omega)
  · simp only [if_neg c1]
    refine r_skip ?_
    refine c_code ?_
    refine r_seq ?_
    refine r_region (id := 4) ?_
    refine o_give (g_move (evv rfl)) rfl rfl ?_
    refine o_give (g_assign (evv rfl)) rfl rfl ?_
    refine o_nil ?_
    refine c_code ?_
    first | refine r_ret (rs := [.tmp 2]) rfl rfl _ (Ent.refl _) ?_ | refine c_end (rs := [.tmp 2]) rfl rfl _ (Ent.refl _) ?_
    (refine ⟨?_, ?_⟩ <;> first | rfl | trivial | omega)
theorem Live_c (F : List Atom) (p : Nat) (x : Pt) :
    Fn Try.prog 16 [.pointer (some ⟨p, 0, none⟩)] (pt p x :: F) fun v L' => v = .int .i64 (x.live : Int) ∧ L' = pt p x :: F := by
  refine Fn.exA fun vs => ?_
  obtain ⟨v0, v1⟩ := vs
  dsimp only [ptX, ptB, List.cons_append, List.nil_append]
  refine fn_intro Try.func16 rfl Try.ntmps16 rfl (fun W0 => ?_)
  simp only [argE]
  refine r_seq ?_
  refine r_region (id := 0) ?_
  refine o_give (g_assign (evv rfl)) rfl rfl ?_
  refine o_nil ?_
  refine c_code ?_
  refine r_seq ?_
  refine r_seq ?_
  refine r_region (id := 1) ?_
  refine o_give (g_move (evv rfl)) rfl rfl ?_
  refine o_give (g_pnil TyU.h (evv rfl) (evv rfl) (by simp) (by rfl)) rfl rfl ?_
  refine o_nil ?_
  refine c_code ?_
  refine r_cond_false rfl ?_
  refine r_skip ?_
  refine c_code ?_
  refine r_seq ?_
  refine r_region (id := 3) ?_
  refine o_give (g_move (evv rfl)) rfl rfl ?_
  refine o_give (g_nil (evv rfl)) rfl rfl ?_
  refine o_give (g_fld (evv rfl)) rfl rfl ?_
  refine o_give (g_load (evv rfl) (by rfl) (by rfl)) rfl rfl ?_
  refine o_give (g_assign (evv rfl)) rfl rfl ?_
  refine o_nil ?_
  refine c_code ?_
  first | refine r_ret (rs := [.tmp 2]) rfl rfl _ (pt_shut) ?_ | refine c_end (rs := [.tmp 2]) rfl rfl _ (pt_shut) ?_
  (refine ⟨?_, ?_⟩ <;> first | rfl | trivial | omega)
theorem Down_c (F : List Atom) (p : Nat) (x : Pt) :
    Fn Try.prog 10 [.pointer (some ⟨p, 0, none⟩)] (pt p x :: F) fun v L' => v = .bool x.down ∧ L' = pt p x :: F := by
  refine Fn.exA fun vs => ?_
  obtain ⟨v0, v1⟩ := vs
  dsimp only [ptX, ptB, List.cons_append, List.nil_append]
  refine fn_intro Try.func10 rfl Try.ntmps10 rfl (fun W0 => ?_)
  simp only [argE]
  refine r_seq ?_
  refine r_region (id := 0) ?_
  refine o_give (g_assign (evv rfl)) rfl rfl ?_
  refine o_nil ?_
  refine c_code ?_
  refine r_seq ?_
  refine r_region (id := 1) ?_
  refine o_give (g_move (evv rfl)) rfl rfl ?_
  refine o_give (g_pnil TyU.h (evv rfl) (evv rfl) (by simp) (by rfl)) rfl rfl ?_
  refine o_give (g_move (evv rfl)) rfl rfl ?_
  refine o_gyes rfl ?_
  refine o_give (g_move (evv rfl)) rfl rfl ?_
  refine o_gyes rfl ?_
  refine o_give (g_nil (evv rfl)) rfl rfl ?_
  refine o_gyes rfl ?_
  refine o_give (g_fld (evv rfl)) rfl rfl ?_
  refine o_gyes rfl ?_
  refine o_give (g_load (evv rfl) (by rfl) (by rfl)) rfl rfl ?_
  refine o_give (g_pick (b := true) (evv rfl) (fun _ => (evv rfl)) (fun h => by cases h)) rfl rfl ?_
  refine o_give (g_assign (evv rfl)) rfl rfl ?_
  refine o_nil ?_
  refine c_code ?_
  first | refine r_ret (rs := [.tmp 2]) rfl rfl _ (pt_shut) ?_ | refine c_end (rs := [.tmp 2]) rfl rfl _ (pt_shut) ?_
  refine ⟨?_, rfl⟩
  exact bool_eq (by simp)
def rdT (x : Pt) (i : Int) : List UInt8 := if i = 0 then x.b0 else if i = 1 then x.b1 else []
def syT (x : Pt) (i : Int) : Int := if i = 0 then x.s0 else if i = 1 then x.s1 else 0
theorem Read_c (F : List Atom) (p : Nat) (x : Pt) (h : x.ok) (at_ : Int) :
    Fn Try.prog 14 [.pointer (some ⟨p, 0, none⟩), .int .i64 at_] (pt p x :: F) fun v L' => True ∧ L' = sl v (bR (rdT x at_)) :: pt p x :: F := by
  refine Fn.exA fun vs => ?_
  obtain ⟨v0, v1⟩ := vs
  have hn0 := h.n0
  have hn1 := h.n1
  obtain ⟨b0, s0, b1, s1, lv, am, dn⟩ := x
  dsimp only at hn0 hn1
  dsimp only [ptX, ptB, List.cons_append, List.nil_append]
  refine fn_intro Try.func14 rfl Try.ntmps14 rfl (fun W0 => ?_)
  simp only [argE]
  by_cases ha : at_ = 0 ∨ at_ = 1
  · rcases ha with rfl | rfl
    · refine r_seq ?_
      refine r_region (id := 0) ?_
      refine o_give (g_assign (evv rfl)) rfl rfl ?_
      refine o_nil ?_
      refine c_code ?_
      refine r_seq ?_
      refine r_seq ?_
      refine r_region (id := 1) ?_
      refine o_give (g_move (evv rfl)) rfl rfl ?_
      refine o_give (g_pnil TyU.h (evv rfl) (evv rfl) (by simp) (by rfl)) rfl rfl ?_
      refine o_give (g_move (evv rfl)) rfl rfl ?_
      refine o_gyes rfl ?_
      refine o_give (g_move (evv rfl)) rfl rfl ?_
      refine o_gyes rfl ?_
      refine o_give (g_bin (evv rfl) (evv rfl) (by rfl)) rfl rfl ?_
      refine o_gyes rfl ?_
      refine o_give (g_move (evv rfl)) rfl rfl ?_
      refine o_gno rfl rfl ?_
      refine o_gno rfl rfl ?_
      refine o_gyes rfl ?_
      refine o_give (g_pick (b := false) (evv rfl) (fun h => by cases h) (fun _ => (evv rfl))) rfl rfl ?_
      refine o_give (g_pick (b := false) (evv rfl) (fun h => by cases h) (fun _ => (evv rfl))) rfl rfl ?_
      refine o_nil ?_
      refine c_code ?_
      refine r_cond_false rfl ?_
      refine r_skip ?_
      refine c_code ?_
      refine r_seq ?_
      refine r_region (id := 3) ?_
      refine o_give (g_move (evv rfl)) rfl rfl ?_
      refine o_give (g_move (evv rfl)) rfl rfl ?_
      refine o_give (g_nil (evv rfl)) rfl rfl ?_
      refine o_give (g_fld (evv rfl)) rfl rfl ?_
      refine o_give (g_idxA (evv rfl) (evv rfl) (by omega) (by omega)) rfl rfl ?_
      refine o_give (g_fld (evv rfl)) rfl rfl ?_
      refine o_give (g_load (evv rfl) (by rfl) (by rfl)) rfl rfl ?_
      (refine o_call rfl _ (Ent.refl _) (Clone_c _ _ _ (by first | assumption | omega | (simp only [List.length_take, List.length_drop]; omega))) rfl ?_; rintro cw _ ⟨-, rfl⟩)
      refine o_give (g_assign (evv rfl)) rfl rfl ?_
      refine o_nil ?_
      refine c_code ?_
      first | refine r_ret (rs := [.tmp 4]) rfl rfl _ (Ent.cons pt_shut) ?_ | refine c_end (rs := [.tmp 4]) rfl rfl _ (Ent.cons pt_shut) ?_
      (refine ⟨?_, ?_⟩ <;> first | rfl | trivial | omega)
    · refine r_seq ?_
      refine r_region (id := 0) ?_
      refine o_give (g_assign (evv rfl)) rfl rfl ?_
      refine o_nil ?_
      refine c_code ?_
      refine r_seq ?_
      refine r_seq ?_
      refine r_region (id := 1) ?_
      refine o_give (g_move (evv rfl)) rfl rfl ?_
      refine o_give (g_pnil TyU.h (evv rfl) (evv rfl) (by simp) (by rfl)) rfl rfl ?_
      refine o_give (g_move (evv rfl)) rfl rfl ?_
      refine o_gyes rfl ?_
      refine o_give (g_move (evv rfl)) rfl rfl ?_
      refine o_gyes rfl ?_
      refine o_give (g_bin (evv rfl) (evv rfl) (by rfl)) rfl rfl ?_
      refine o_gyes rfl ?_
      refine o_give (g_move (evv rfl)) rfl rfl ?_
      refine o_gyes rfl ?_
      refine o_give (g_move (evv rfl)) rfl rfl ?_
      refine o_gyes rfl ?_
      refine o_give (g_bin (evv rfl) (evv rfl) (by rfl)) rfl rfl ?_
      refine o_gyes rfl ?_
      refine o_give (g_pick (b := true) (evv rfl) (fun _ => (evv rfl)) (fun h => by cases h)) rfl rfl ?_
      refine o_give (g_pick (b := false) (evv rfl) (fun h => by cases h) (fun _ => (evv rfl))) rfl rfl ?_
      refine o_nil ?_
      refine c_code ?_
      refine r_cond_false rfl ?_
      refine r_skip ?_
      refine c_code ?_
      refine r_seq ?_
      refine r_region (id := 3) ?_
      refine o_give (g_move (evv rfl)) rfl rfl ?_
      refine o_give (g_move (evv rfl)) rfl rfl ?_
      refine o_give (g_nil (evv rfl)) rfl rfl ?_
      refine o_give (g_fld (evv rfl)) rfl rfl ?_
      refine o_give (g_idxA (evv rfl) (evv rfl) (by omega) (by omega)) rfl rfl ?_
      refine o_give (g_fld (evv rfl)) rfl rfl ?_
      refine o_give (g_load (evv rfl) (by rfl) (by rfl)) rfl rfl ?_
      (refine o_call rfl _ (Ent.refl _) (Clone_c _ _ _ (by first | assumption | omega | (simp only [List.length_take, List.length_drop]; omega))) rfl ?_; rintro cw _ ⟨-, rfl⟩)
      refine o_give (g_assign (evv rfl)) rfl rfl ?_
      refine o_nil ?_
      refine c_code ?_
      first | refine r_ret (rs := [.tmp 4]) rfl rfl _ (Ent.cons pt_shut) ?_ | refine c_end (rs := [.tmp 4]) rfl rfl _ (Ent.cons pt_shut) ?_
      (refine ⟨?_, ?_⟩ <;> first | rfl | trivial | omega)
  · simp only [rdT, if_neg (show ¬ at_ = 0 by omega), if_neg (show ¬ at_ = 1 by omega)]
    refine r_seq ?_
    refine r_region (id := 0) ?_
    refine o_give (g_assign (evv rfl)) rfl rfl ?_
    refine o_nil ?_
    refine c_code ?_
    refine r_seq ?_
    refine r_seq ?_
    refine r_region (id := 1) ?_
    refine o_give (g_move (evv rfl)) rfl rfl ?_
    refine o_give (g_pnil TyU.h (evv rfl) (evv rfl) (by simp) (by rfl)) rfl rfl ?_
    refine o_give (g_move (evv rfl)) rfl rfl ?_
    refine o_gyes rfl ?_
    refine o_give (g_move (evv rfl)) rfl rfl ?_
    refine o_gyes rfl ?_
    refine o_give (g_bin (evv rfl) (evv rfl) (by rfl)) rfl rfl ?_
    refine o_gyes rfl ?_
    refine o_give (g_move (evv rfl)) rfl rfl ?_
    refine o_lazy rfl (fun hg => g_move (by first | exact evv rfl | exact evg rfl (by rw [hp]; rfl) | exact evg rfl hp | exact evg rfl hg | exact evg rfl (by first | (simp_all; done) | (simp [*]; done) | fail) | fail)) rfl rfl ?_
    refine o_lazy rfl (fun hg => g_bin (by first | exact evv rfl | exact evg rfl (by rw [hp]; rfl) | exact evg rfl hp | exact evg rfl hg | exact evg rfl (by first | (simp_all; done) | (simp [*]; done) | fail) | fail) (by first | exact evv rfl | exact evg rfl (by rw [hp]; rfl) | exact evg rfl hp | exact evg rfl hg | exact evg rfl (by first | (simp_all; done) | (simp [*]; done) | fail) | fail) (by rfl)) rfl rfl ?_
    refine o_gyes rfl ?_
    refine o_give (g_pick_and (evv rfl) (evv rfl) (fun hp => (by first | exact evv rfl | exact evg rfl (by rw [hp]; rfl) | exact evg rfl hp | exact evg rfl hg | exact evg rfl (by first | (simp_all; done) | (simp [*]; done) | fail) | fail))) rfl rfl ?_
    refine o_give (g_pick (b := false) (evv rfl) (fun h => by cases h) (fun _ => (evv rfl))) rfl rfl ?_
    refine o_nil ?_
    refine c_code ?_
    refine r_cond rfl (fun c1 => ?_) (fun c1 => ?_) <;> (try simp only [decide_eq_true_eq, decide_eq_false_iff_not, Bool.and_eq_true, Bool.or_eq_true, Bool.not_eq_true', Bool.and_eq_false_iff, Bool.or_eq_false_iff, Bool.not_eq_false', Bool.not_eq_true, Bool.not_eq_false, Bool.true_eq_false, Bool.false_eq_true, Int.not_lt, Int.not_le, not_and, not_or, ne_eq] at c1)
    · refine r_seq ?_
      refine r_region (id := 2) ?_
      refine o_give (g_assign (evv rfl)) rfl rfl ?_
      refine o_nil ?_
      refine c_code ?_
      first | refine r_ret (rs := [.tmp 4]) rfl rfl _ ((Ent.nilsl 5 1).trans (Ent.cons pt_shut)) ?_ | refine c_end (rs := [.tmp 4]) rfl rfl _ ((Ent.nilsl 5 1).trans (Ent.cons pt_shut)) ?_
      (refine ⟨?_, ?_⟩ <;> first | rfl | trivial | omega)
    · exfalso; omega
theorem Synced_c (F : List Atom) (p : Nat) (x : Pt) (at_ : Int) :
    Fn Try.prog 15 [.pointer (some ⟨p, 0, none⟩), .int .i64 at_] (pt p x :: F) fun v L' => v = .int .i64 (syT x at_) ∧ L' = pt p x :: F := by
  refine Fn.exA fun vs => ?_
  obtain ⟨v0, v1⟩ := vs
  obtain ⟨b0, s0, b1, s1, lv, am, dn⟩ := x
  dsimp only [ptX, ptB, List.cons_append, List.nil_append]
  refine fn_intro Try.func15 rfl Try.ntmps15 rfl (fun W0 => ?_)
  simp only [argE]
  by_cases ha : at_ = 0 ∨ at_ = 1
  · rcases ha with rfl | rfl
    · refine r_seq ?_
      refine r_region (id := 0) ?_
      refine o_give (g_assign (evv rfl)) rfl rfl ?_
      refine o_nil ?_
      refine c_code ?_
      refine r_seq ?_
      refine r_seq ?_
      refine r_region (id := 1) ?_
      refine o_give (g_move (evv rfl)) rfl rfl ?_
      refine o_give (g_pnil TyU.h (evv rfl) (evv rfl) (by simp) (by rfl)) rfl rfl ?_
      refine o_give (g_move (evv rfl)) rfl rfl ?_
      refine o_gyes rfl ?_
      refine o_give (g_move (evv rfl)) rfl rfl ?_
      refine o_gyes rfl ?_
      refine o_give (g_bin (evv rfl) (evv rfl) (by rfl)) rfl rfl ?_
      refine o_gyes rfl ?_
      refine o_give (g_move (evv rfl)) rfl rfl ?_
      refine o_gno rfl rfl ?_
      refine o_gno rfl rfl ?_
      refine o_gyes rfl ?_
      refine o_give (g_pick (b := false) (evv rfl) (fun h => by cases h) (fun _ => (evv rfl))) rfl rfl ?_
      refine o_give (g_pick (b := false) (evv rfl) (fun h => by cases h) (fun _ => (evv rfl))) rfl rfl ?_
      refine o_nil ?_
      refine c_code ?_
      refine r_cond_false rfl ?_
      refine r_skip ?_
      refine c_code ?_
      refine r_seq ?_
      refine r_region (id := 3) ?_
      refine o_give (g_move (evv rfl)) rfl rfl ?_
      refine o_give (g_move (evv rfl)) rfl rfl ?_
      refine o_give (g_nil (evv rfl)) rfl rfl ?_
      refine o_give (g_fld (evv rfl)) rfl rfl ?_
      refine o_give (g_idxA (evv rfl) (evv rfl) (by omega) (by omega)) rfl rfl ?_
      refine o_give (g_fld (evv rfl)) rfl rfl ?_
      refine o_give (g_load (evv rfl) (by rfl) (by rfl)) rfl rfl ?_
      refine o_give (g_assign (evv rfl)) rfl rfl ?_
      refine o_nil ?_
      refine c_code ?_
      first | refine r_ret (rs := [.tmp 4]) rfl rfl _ (pt_shut) ?_ | refine c_end (rs := [.tmp 4]) rfl rfl _ (pt_shut) ?_
      (refine ⟨?_, ?_⟩ <;> first | rfl | trivial | omega)
    · refine r_seq ?_
      refine r_region (id := 0) ?_
      refine o_give (g_assign (evv rfl)) rfl rfl ?_
      refine o_nil ?_
      refine c_code ?_
      refine r_seq ?_
      refine r_seq ?_
      refine r_region (id := 1) ?_
      refine o_give (g_move (evv rfl)) rfl rfl ?_
      refine o_give (g_pnil TyU.h (evv rfl) (evv rfl) (by simp) (by rfl)) rfl rfl ?_
      refine o_give (g_move (evv rfl)) rfl rfl ?_
      refine o_gyes rfl ?_
      refine o_give (g_move (evv rfl)) rfl rfl ?_
      refine o_gyes rfl ?_
      refine o_give (g_bin (evv rfl) (evv rfl) (by rfl)) rfl rfl ?_
      refine o_gyes rfl ?_
      refine o_give (g_move (evv rfl)) rfl rfl ?_
      refine o_gyes rfl ?_
      refine o_give (g_move (evv rfl)) rfl rfl ?_
      refine o_gyes rfl ?_
      refine o_give (g_bin (evv rfl) (evv rfl) (by rfl)) rfl rfl ?_
      refine o_gyes rfl ?_
      refine o_give (g_pick (b := true) (evv rfl) (fun _ => (evv rfl)) (fun h => by cases h)) rfl rfl ?_
      refine o_give (g_pick (b := false) (evv rfl) (fun h => by cases h) (fun _ => (evv rfl))) rfl rfl ?_
      refine o_nil ?_
      refine c_code ?_
      refine r_cond_false rfl ?_
      refine r_skip ?_
      refine c_code ?_
      refine r_seq ?_
      refine r_region (id := 3) ?_
      refine o_give (g_move (evv rfl)) rfl rfl ?_
      refine o_give (g_move (evv rfl)) rfl rfl ?_
      refine o_give (g_nil (evv rfl)) rfl rfl ?_
      refine o_give (g_fld (evv rfl)) rfl rfl ?_
      refine o_give (g_idxA (evv rfl) (evv rfl) (by omega) (by omega)) rfl rfl ?_
      refine o_give (g_fld (evv rfl)) rfl rfl ?_
      refine o_give (g_load (evv rfl) (by rfl) (by rfl)) rfl rfl ?_
      refine o_give (g_assign (evv rfl)) rfl rfl ?_
      refine o_nil ?_
      refine c_code ?_
      first | refine r_ret (rs := [.tmp 4]) rfl rfl _ (pt_shut) ?_ | refine c_end (rs := [.tmp 4]) rfl rfl _ (pt_shut) ?_
      (refine ⟨?_, ?_⟩ <;> first | rfl | trivial | omega)
  · simp only [syT, if_neg (show ¬ at_ = 0 by omega), if_neg (show ¬ at_ = 1 by omega)]
    refine r_seq ?_
    refine r_region (id := 0) ?_
    refine o_give (g_assign (evv rfl)) rfl rfl ?_
    refine o_nil ?_
    refine c_code ?_
    refine r_seq ?_
    refine r_seq ?_
    refine r_region (id := 1) ?_
    refine o_give (g_move (evv rfl)) rfl rfl ?_
    refine o_give (g_pnil TyU.h (evv rfl) (evv rfl) (by simp) (by rfl)) rfl rfl ?_
    refine o_give (g_move (evv rfl)) rfl rfl ?_
    refine o_gyes rfl ?_
    refine o_give (g_move (evv rfl)) rfl rfl ?_
    refine o_gyes rfl ?_
    refine o_give (g_bin (evv rfl) (evv rfl) (by rfl)) rfl rfl ?_
    refine o_gyes rfl ?_
    refine o_give (g_move (evv rfl)) rfl rfl ?_
    refine o_lazy rfl (fun hg => g_move (by first | exact evv rfl | exact evg rfl (by rw [hp]; rfl) | exact evg rfl hp | exact evg rfl hg | exact evg rfl (by first | (simp_all; done) | (simp [*]; done) | fail) | fail)) rfl rfl ?_
    refine o_lazy rfl (fun hg => g_bin (by first | exact evv rfl | exact evg rfl (by rw [hp]; rfl) | exact evg rfl hp | exact evg rfl hg | exact evg rfl (by first | (simp_all; done) | (simp [*]; done) | fail) | fail) (by first | exact evv rfl | exact evg rfl (by rw [hp]; rfl) | exact evg rfl hp | exact evg rfl hg | exact evg rfl (by first | (simp_all; done) | (simp [*]; done) | fail) | fail) (by rfl)) rfl rfl ?_
    refine o_gyes rfl ?_
    refine o_give (g_pick_and (evv rfl) (evv rfl) (fun hp => (by first | exact evv rfl | exact evg rfl (by rw [hp]; rfl) | exact evg rfl hp | exact evg rfl hg | exact evg rfl (by first | (simp_all; done) | (simp [*]; done) | fail) | fail))) rfl rfl ?_
    refine o_give (g_pick (b := false) (evv rfl) (fun h => by cases h) (fun _ => (evv rfl))) rfl rfl ?_
    refine o_nil ?_
    refine c_code ?_
    refine r_cond rfl (fun c1 => ?_) (fun c1 => ?_) <;> (try simp only [decide_eq_true_eq, decide_eq_false_iff_not, Bool.and_eq_true, Bool.or_eq_true, Bool.not_eq_true', Bool.and_eq_false_iff, Bool.or_eq_false_iff, Bool.not_eq_false', Bool.not_eq_true, Bool.not_eq_false, Bool.true_eq_false, Bool.false_eq_true, Int.not_lt, Int.not_le, not_and, not_or, ne_eq] at c1)
    · refine r_seq ?_
      refine r_region (id := 2) ?_
      refine o_give (g_assign (evv rfl)) rfl rfl ?_
      refine o_nil ?_
      refine c_code ?_
      first | refine r_ret (rs := [.tmp 4]) rfl rfl _ (pt_shut) ?_ | refine c_end (rs := [.tmp 4]) rfl rfl _ (pt_shut) ?_
      (refine ⟨?_, ?_⟩ <;> first | rfl | trivial | omega)
    · exfalso; omega
end VK
