/- What the proof rests on, part 5 of 6: the walker's lemmas, the walks of the functions and the plain laws. Conditions: none. -/
import Derived.Test.YtafofdcccmidmaaM4
namespace VK
open Go Go.Proofs
set_option linter.unusedSimpArgs false
set_option linter.unusedVariables false
set_option maxRecDepth 100000
set_option maxHeartbeats 40000000
theorem Lay1_c (F : List Atom) (bj bo j p : Nat) (oth : Int) (x : Pt) (cs : List Value) (hx : x.ok) (ho : 0 ≤ oth ∧ oth ≤ 1) :
    Fn Try.prog 41 [.pointer (some ⟨bj, 0, none⟩), .pointer (some ⟨bo, 0, none⟩)] (pt p x :: blk bj ⟨[.pointer (some ⟨j, 0, none⟩)], 25⟩ :: blk j ⟨.pointer (some ⟨p, 0, none⟩) :: cs, 74⟩ :: blk bo ⟨[.int .i64 oth], 3⟩ :: F)
    fun v L' => v = .int .i64 (wipT x (oth : Int)).1 ∧ L' = pt p (wipT x (oth : Int)).2 :: blk bj ⟨[.pointer (some ⟨j, 0, none⟩)], 25⟩ :: blk j ⟨.pointer (some ⟨p, 0, none⟩) :: cs, 74⟩ :: blk bo ⟨[.int .i64 oth], 3⟩ :: F := by
  refine fn_intro Try.func41 rfl Try.ntmps41 rfl (fun W0 => ?_)
  simp only [argE]
  refine rS ?_
  refine rR (id := 0) ?_
  refine oG (gA (evv rfl)) rfl rfl ?_
  refine oN ?_
  refine cC ?_
  refine rS ?_
  repeat (first | refine rS ?_ | refine cC ?_ | refine c_blk ?_ | refine r_block ?_ | refine r_skip ?_)
  refine r_held (id := 1) [blk bj ⟨[.pointer (some ⟨j, 0, none⟩)], 25⟩, blk j ⟨.pointer (some ⟨p, 0, none⟩) :: cs, 74⟩, blk bo ⟨[.int .i64 oth], 3⟩] Mixed.h ?_
  refine h_give (i := 0) (by kernel_rfl) rfl (g_load (evv rfl) (by rfl) (by rfl)) rfl rfl ?_
  refine h_give (i := 1) (by kernel_rfl) rfl (g_nil (evv rfl)) rfl rfl ?_
  refine h_give (i := 2) (by kernel_rfl) rfl (g_fld (evv rfl)) rfl rfl ?_
  refine h_give (i := 3) (by kernel_rfl) rfl (g_load (evv rfl) (by rfl) (by rfl)) rfl rfl ?_
  refine h_give (i := 4) (by kernel_rfl) rfl (g_load (evv rfl) (by rfl) (by rfl)) rfl rfl ?_
  refine h_one (i := 5) (by kernel_rfl) rfl (Lay.ent) ?_
  (refine o_call rfl _ (PickR.ent (K := pt _)) (Wipe_c _ _ _ (by assumption) _) rfl ?_; rintro _ _ ⟨rfl, rfl⟩)
  refine oN ?_
  refine h_give (i := 6) (by kernel_rfl) rfl (gA (evv rfl)) rfl rfl ?_
  refine h_done (by kernel_rfl) (Lay.ent) ?_
  refine cC ?_
  first | refine r_ret (rs := [.tmp 2]) rfl rfl _ (Ent.refl _) ?_ | refine c_end (rs := [.tmp 2]) rfl rfl _ (Ent.refl _) ?_
  exact ⟨rfl, rfl⟩
theorem Lay3_c (F : List Atom) (bj bo j p : Nat) (oth : Int) (x : Pt) (cs : List Value) (hx : x.ok) (ho : 0 ≤ oth ∧ oth ≤ 1) :
    Fn Try.prog 44 [.pointer (some ⟨bj, 0, none⟩), .pointer (some ⟨bo, 0, none⟩)] (pt p x :: blk bj ⟨[.pointer (some ⟨j, 0, none⟩)], 25⟩ :: blk j ⟨.pointer (some ⟨p, 0, none⟩) :: cs, 74⟩ :: blk bo ⟨[.int .i64 oth], 3⟩ :: F)
    fun v L' => v = .int .i64 (synT x (oth : Int)).1 ∧ L' = pt p (synT x (oth : Int)).2 :: blk bj ⟨[.pointer (some ⟨j, 0, none⟩)], 25⟩ :: blk j ⟨.pointer (some ⟨p, 0, none⟩) :: cs, 74⟩ :: blk bo ⟨[.int .i64 oth], 3⟩ :: F := by
  refine fn_intro Try.func44 rfl Try.ntmps44 rfl (fun W0 => ?_)
  simp only [argE]
  refine rS ?_
  refine rR (id := 0) ?_
  refine oG (gA (evv rfl)) rfl rfl ?_
  refine oN ?_
  refine cC ?_
  refine rS ?_
  repeat (first | refine rS ?_ | refine cC ?_ | refine c_blk ?_ | refine r_block ?_ | refine r_skip ?_)
  refine r_held (id := 1) [blk bj ⟨[.pointer (some ⟨j, 0, none⟩)], 25⟩, blk j ⟨.pointer (some ⟨p, 0, none⟩) :: cs, 74⟩, blk bo ⟨[.int .i64 oth], 3⟩] Mixed.h ?_
  refine h_give (i := 0) (by kernel_rfl) rfl (g_load (evv rfl) (by rfl) (by rfl)) rfl rfl ?_
  refine h_give (i := 1) (by kernel_rfl) rfl (g_nil (evv rfl)) rfl rfl ?_
  refine h_give (i := 2) (by kernel_rfl) rfl (g_fld (evv rfl)) rfl rfl ?_
  refine h_give (i := 3) (by kernel_rfl) rfl (g_load (evv rfl) (by rfl) (by rfl)) rfl rfl ?_
  refine h_give (i := 4) (by kernel_rfl) rfl (g_load (evv rfl) (by rfl) (by rfl)) rfl rfl ?_
  refine h_one (i := 5) (by kernel_rfl) rfl (Lay.ent) ?_
  (refine o_call rfl _ (PickR.ent (K := pt _)) (Sync_c _ _ _ (by assumption) _) rfl ?_; rintro _ _ ⟨rfl, rfl⟩)
  refine oN ?_
  refine h_give (i := 6) (by kernel_rfl) rfl (gA (evv rfl)) rfl rfl ?_
  refine h_done (by kernel_rfl) (Lay.ent) ?_
  refine cC ?_
  first | refine r_ret (rs := [.tmp 2]) rfl rfl _ (Ent.refl _) ?_ | refine c_end (rs := [.tmp 2]) rfl rfl _ (Ent.refl _) ?_
  exact ⟨rfl, rfl⟩
theorem Lay4_c (F : List Atom) (bj bo j p : Nat) (oth : Int) (x : Pt) (cs : List Value) (hx : x.ok) (ho : 0 ≤ oth ∧ oth ≤ 1) :
    Fn Try.prog 46 [.pointer (some ⟨bj, 0, none⟩), .pointer (some ⟨bo, 0, none⟩)] (pt p x :: blk bj ⟨[.pointer (some ⟨j, 0, none⟩)], 25⟩ :: blk j ⟨.pointer (some ⟨p, 0, none⟩) :: cs, 74⟩ :: blk bo ⟨[.int .i64 oth], 3⟩ :: F)
    fun v L' => v = .int .i64 (wipT x (1 - (oth : Int))).1 ∧ L' = pt p (wipT x (1 - (oth : Int))).2 :: blk bj ⟨[.pointer (some ⟨j, 0, none⟩)], 25⟩ :: blk j ⟨.pointer (some ⟨p, 0, none⟩) :: cs, 74⟩ :: blk bo ⟨[.int .i64 oth], 3⟩ :: F := by
  refine fn_intro Try.func46 rfl Try.ntmps46 rfl (fun W0 => ?_)
  simp only [argE]
  refine rS ?_
  refine rR (id := 0) ?_
  refine oG (gA (evv rfl)) rfl rfl ?_
  refine oN ?_
  refine cC ?_
  refine rS ?_
  repeat (first | refine rS ?_ | refine cC ?_ | refine c_blk ?_ | refine r_block ?_ | refine r_skip ?_)
  refine r_held (id := 1) [blk bj ⟨[.pointer (some ⟨j, 0, none⟩)], 25⟩, blk j ⟨.pointer (some ⟨p, 0, none⟩) :: cs, 74⟩, blk bo ⟨[.int .i64 oth], 3⟩] Mixed.h ?_
  refine h_give (i := 0) (by kernel_rfl) rfl (g_load (evv rfl) (by rfl) (by rfl)) rfl rfl ?_
  refine h_give (i := 1) (by kernel_rfl) rfl (g_nil (evv rfl)) rfl rfl ?_
  refine h_give (i := 2) (by kernel_rfl) rfl (g_fld (evv rfl)) rfl rfl ?_
  refine h_give (i := 3) (by kernel_rfl) rfl (g_load (evv rfl) (by rfl) (by rfl)) rfl rfl ?_
  refine h_give (i := 4) (by kernel_rfl) rfl (g_load (evv rfl) (by rfl) (by rfl)) rfl rfl ?_
  refine h_giveN (i := 5) (by kernel_rfl) rfl (g_bin (evv rfl) (evv rfl) (by rfl)) (by simp only [inR]; omega) rfl ?_
  refine h_one (i := 6) (by kernel_rfl) rfl (Lay.ent) ?_
  (refine o_call rfl _ (PickR.ent (K := pt _)) (Wipe_c _ _ _ (by assumption) _) rfl ?_; rintro _ _ ⟨rfl, rfl⟩)
  refine oN ?_
  refine h_give (i := 7) (by kernel_rfl) rfl (gA (evv rfl)) rfl rfl ?_
  refine h_done (by kernel_rfl) (Lay.ent) ?_
  refine cC ?_
  first | refine r_ret (rs := [.tmp 2]) rfl rfl _ (Ent.refl _) ?_ | refine c_end (rs := [.tmp 2]) rfl rfl _ (Ent.refl _) ?_
  exact ⟨rfl, rfl⟩
theorem Lay2_c (F : List Atom) (bj bo bf j p : Nat) (oth : Int) (x : Pt) (cs : List Value) (fv : Value) (f : List UInt8) [rf : Rd F fv (bR f)] (hx : x.ok) (hf : f.length ≤ 1000000000) :
    Fn Try.prog 43 [.pointer (some ⟨bj, 0, none⟩), .pointer (some ⟨bo, 0, none⟩), .pointer (some ⟨bf, 0, none⟩)] (pt p x :: blk bj ⟨[.pointer (some ⟨j, 0, none⟩)], 25⟩ :: blk j ⟨.pointer (some ⟨p, 0, none⟩) :: cs, 74⟩ :: blk bo ⟨[.int .i64 oth], 3⟩ :: blk bf ⟨[fv], 52⟩ :: F)
    fun v L' => v = .int .i64 (appT x oth f).1 ∧ L' = pt p (appT x oth f).2 :: blk bj ⟨[.pointer (some ⟨j, 0, none⟩)], 25⟩ :: blk j ⟨.pointer (some ⟨p, 0, none⟩) :: cs, 74⟩ :: blk bo ⟨[.int .i64 oth], 3⟩ :: blk bf ⟨[fv], 52⟩ :: F := by
  refine fn_intro Try.func43 rfl Try.ntmps43 rfl (fun W0 => ?_)
  simp only [argE]
  refine rS ?_
  refine rR (id := 0) ?_
  refine oG (gA (evv rfl)) rfl rfl ?_
  refine oN ?_
  refine cC ?_
  refine rS ?_
  repeat (first | refine rS ?_ | refine cC ?_ | refine c_blk ?_ | refine r_block ?_ | refine r_skip ?_)
  refine r_held (id := 1) [blk bj ⟨[.pointer (some ⟨j, 0, none⟩)], 25⟩, blk j ⟨.pointer (some ⟨p, 0, none⟩) :: cs, 74⟩, blk bo ⟨[.int .i64 oth], 3⟩, blk bf ⟨[fv], 52⟩] Mixed.h ?_
  refine h_give (i := 0) (by kernel_rfl) rfl (g_load (evv rfl) (by rfl) (by rfl)) rfl rfl ?_
  refine h_give (i := 1) (by kernel_rfl) rfl (g_nil (evv rfl)) rfl rfl ?_
  refine h_give (i := 2) (by kernel_rfl) rfl (g_fld (evv rfl)) rfl rfl ?_
  refine h_give (i := 3) (by kernel_rfl) rfl (g_load (evv rfl) (by rfl) (by rfl)) rfl rfl ?_
  refine h_give (i := 4) (by kernel_rfl) rfl (g_load (evv rfl) (by rfl) (by rfl)) rfl rfl ?_
  refine h_give (i := 5) (by kernel_rfl) rfl (g_load (evv rfl) (by rfl) (by rfl)) rfl rfl ?_
  refine h_one (i := 6) (by kernel_rfl) rfl (Lay.ent) ?_
  (refine o_call rfl _ (PickR.ent (K := pt _)) (Append_c _ _ _ (by assumption) _ _ _ (by first | assumption | omega)) rfl ?_; rintro _ _ ⟨rfl, rfl⟩)
  refine oN ?_
  refine h_give (i := 7) (by kernel_rfl) rfl (gA (evv rfl)) rfl rfl ?_
  refine h_done (by kernel_rfl) (Lay.ent) ?_
  refine cC ?_
  first | refine r_ret (rs := [.tmp 3]) rfl rfl _ (Ent.refl _) ?_ | refine c_end (rs := [.tmp 3]) rfl rfl _ (Ent.refl _) ?_
  exact ⟨rfl, rfl⟩
theorem Lay_c (F : List Atom) (j p : Nat) (x : Pt) (k : KeptS) (ve : Value) (l : List (Value × Row)) (view normal base : Int) (state : List UInt8) (es : List EntS) (ve' : Value) [ir : InR l ve (entR k.ents)] [rd : Rd (rom l :: F) ve' (entR es)] (hx : x.ok) (hk : k.ok) (hf : k.fine) (hfe : ∀ e ∈ es, e.ok) (hl : es.length ≤ 1048576) (hst : state.length ≤ 140737488355000) (hs : sizeP x + 262152 ≤ 1000000000) :
    Fn Try.prog 13 [.pointer (some ⟨j, 0, none⟩), agg (kC view normal base state ve')] (blk j ⟨.pointer (some ⟨p, 0, none⟩) :: kC k.view k.normal k.base k.state ve, 74⟩ :: pt p x :: rom l :: F) fun w L' => w = .int .i64 (layT x k ⟨view, normal, base, state, es⟩).1 ∧ L' = jr j (p, (layT x k ⟨view, normal, base, state, es⟩).2.2) :: pt p (layT x k ⟨view, normal, base, state, es⟩).2.1 :: F := by
  refine fn_intro Try.func13 rfl Try.ntmps13 rfl (fun W0 => ?_)
  simp only [argE]
  refine rS ?_
  refine rR (id := 0) ?_
  refine o_box1 (evv rfl) rfl (fun _ => ?_)
  refine o_boxA (evv rfl) rfl (fun _ => ?_)
  refine oG (gA (evv rfl)) rfl rfl ?_
  refine oN ?_
  refine cC ?_
  refine rS ?_
  refine r_block ?_
  refine rS ?_
  refine rR (id := 1) ?_
  refine oG (g_load (evv rfl) (by rfl) (by rfl)) rfl rfl ?_
  refine oG (g_pnil TyU.h (evv rfl) (evv rfl) (by simp) (by rfl)) rfl rfl ?_
  refine oG (gA (evv rfl)) rfl rfl ?_
  refine oN ?_
  refine cC ?_
  refine r_cond_false rfl ?_
  refine rS ?_
  refine rR (id := 3) ?_
  refine oG (g_loadF (evv rfl) (by rfl) (by rfl)) rfl rfl ?_
  (refine o_call rfl _ (Ent.refl _) (jCheck_c _ _ _ _ _ _ _ (by first | assumption | omega) (by first | assumption | omega) (by assumption)) rfl ?_; rintro _ _ ⟨rfl, hLz⟩; obtain rfl := hLz.symm; clear hLz)
  refine oG (g_bin (evv rfl) (evv rfl) (by rfl)) rfl rfl ?_
  refine oG (gA (evv rfl)) rfl rfl ?_
  refine oN ?_
  refine cC ?_
  rename_i bj bk
  by_cases hok : KeptS.ok ⟨view, normal, base, state, es⟩
  · have hok0 := hok
    obtain ⟨a1, a2, a3, a4, a5, a6, a7, a8, a9, a10, a11⟩ := hok
    dsimp only at a1 a2 a3 a4 a5 a6 a7 a8 a9 a10 a11
    have hgr : gr = 1099511627776 := rfl
    have hpl : (payW ⟨view, normal, base, state, es⟩).length ≤ 180000 := payW_len hok0 hfe
    have hT : layT x k ⟨view, normal, base, state, es⟩ = ((layG (1 - x.live) (frameB (payW ⟨view, normal, base, state, es⟩)) x 5).1, (layG (1 - x.live) (frameB (payW ⟨view, normal, base, state, es⟩)) x 5).2, if (layG (1 - x.live) (frameB (payW ⟨view, normal, base, state, es⟩)) x 5).1 = 0 then ⟨view, normal, base, state, es⟩ else k) := if_neg (fun h => h hok0)
    have m0 := num_le 4 (by omega)
    have m1 := num_le view.toNat (by omega)
    have m2 := num_le normal.toNat (by omega)
    have m3 := num_le base.toNat (by omega)
    have m4 := num_le es.length (by omega)
    have m5 := textB_len (s := state) (by omega)
    have hpW : payW ⟨view, normal, base, state, es⟩ = num 4 ++ num view.toNat ++ num normal.toNat ++ num base.toNat ++ textB state ++ num es.length ++ entsB es := rfl
    rw [hT]
    simp only [if_pos hok0, decide_true, Bool.not_true]
    have hv8 : view % 18446744073709551616 = view := by omega
    refine r_cond_false rfl ?_
    refine r_skip ?_
    refine c_blk ?_
    refine cC ?_
    refine rS ?_
    refine rR (id := 5) ?_
    refine o_alloc rfl rfl (fun _ => ?_)
    refine oN ?_
    refine cC ?_
    refine rS ?_
    rename_i o
    refine r_ent _ (newOutA o) ?_
    refine rR (id := 6) ?_
    (refine o_call rfl _ (Ent.refl _) (Num_l _ (by omega) (by (try simp only [bsOf, List.length_append, List.length_cons, List.length_nil]); omega)) rfl ?_; rintro _ _ ⟨rfl, rfl⟩; (try simp only [Int.toNat_natCast]))
    refine oN ?_
    refine cC ?_
    refine rS ?_
    rw [show Int.toNat 4 = 4 from rfl, List.nil_append]
    refine rR (id := 7) ?_
    refine oG (g_fld (evv rfl)) rfl rfl ?_
    refine oG (g_load (evv rfl) (by rfl) (by rfl)) rfl rfl ?_
    refine o_giveN (g_conv TyU.h TyU.h (evv rfl)) (by simp only [inR]; omega) rfl ?_
    (refine o_call rfl _ (Ent.refl _) (Num_l _ (by omega) (by (try simp only [bsOf, List.length_append, List.length_cons, List.length_nil]); omega)) rfl ?_; rintro _ _ ⟨rfl, rfl⟩; (try simp only [Int.toNat_natCast]))
    refine oN ?_
    refine cC ?_
    refine rS ?_
    refine rR (id := 8) ?_
    refine oG (g_fld (evv rfl)) rfl rfl ?_
    refine oG (g_load (evv rfl) (by rfl) (by rfl)) rfl rfl ?_
    refine o_giveN (g_conv TyU.h TyU.h (evv rfl)) (by simp only [inR]; omega) rfl ?_
    (refine o_call rfl _ (Ent.refl _) (Num_l _ (by omega) (by (try simp only [bsOf, List.length_append, List.length_cons, List.length_nil]); omega)) rfl ?_; rintro _ _ ⟨rfl, rfl⟩; (try simp only [Int.toNat_natCast]))
    refine oN ?_
    refine cC ?_
    refine rS ?_
    refine rR (id := 9) ?_
    refine oG (g_fld (evv rfl)) rfl rfl ?_
    refine oG (g_load (evv rfl) (by rfl) (by rfl)) rfl rfl ?_
    refine o_giveN (g_conv TyU.h TyU.h (evv rfl)) (by simp only [inR]; omega) rfl ?_
    (refine o_call rfl _ (Ent.refl _) (Num_l _ (by omega) (by (try simp only [bsOf, List.length_append, List.length_cons, List.length_nil]); omega)) rfl ?_; rintro _ _ ⟨rfl, rfl⟩; (try simp only [Int.toNat_natCast]))
    refine oN ?_
    refine cC ?_
    refine rS ?_
    refine rR (id := 10) ?_
    refine oG (g_fld (evv rfl)) rfl rfl ?_
    refine oG (g_load (evv rfl) (by rfl) (by rfl)) rfl rfl ?_
    (refine o_call rfl _ (Ent.refl _) (Text_l (by (try simp only [bsOf, List.length_append, List.length_cons, List.length_nil]); omega)) rfl ?_; rintro _ _ ⟨rfl, rfl⟩)
    refine oN ?_
    refine cC ?_
    refine rS ?_
    refine rR (id := 11) ?_
    refine oG (g_fld (evv rfl)) rfl rfl ?_
    refine oG (g_load (evv rfl) (by rfl) (by rfl)) rfl rfl ?_
    refine oG (g_lenF (evv rfl)) rfl rfl ?_
    refine o_giveN (g_conv TyU.h TyU.h (evv rfl)) (by simp only [inR]; omega) rfl ?_
    (refine o_call rfl _ (Ent.refl _) (Num_l _ (by omega) (by (try simp only [bsOf, List.length_append, List.length_cons, List.length_nil]); omega)) rfl ?_; rintro _ _ ⟨rfl, rfl⟩; (try simp only [Int.toNat_natCast]))
    refine oN ?_
    refine cC ?_
    refine rS ?_
    refine rR (id := 12) ?_
    refine oG (g_fld (evv rfl)) rfl rfl ?_
    refine oG (g_load (evv rfl) (by rfl) (by rfl)) rfl rfl ?_
    (refine o_call rfl _ (PickR.ent (K := outA _)) (putEntries_c _ _ _ _ _ (by assumption) (by first | assumption | omega | (simp; done)) (by first | assumption | omega | (simp only [List.length_append, List.length_cons, List.length_nil]; omega))) rfl ?_; rintro _ _ ⟨rfl, rfl⟩)
    refine oN ?_
    refine cC ?_
    refine rS ?_
    rw [← hpW]
    generalize hP : payW ⟨view, normal, base, state, es⟩ = P at *
    have hfr : frR P = (frameB P, 0) := if_neg (by omega)
    refine rR (id := 13) ?_
    (refine o_call rfl _ (Ent.refl _) (Bytes_l (by (try simp only [bsOf, List.length_append, List.length_cons, List.length_nil]); omega)) rfl ?_; rintro _ _ ⟨_, rfl⟩)
    (refine o_call rfl _ (Ent.refl _) (Frame_c _ _ _ (by first | assumption | omega)) rfl ?_; rintro _ _ ⟨ff, rfl, rfl⟩)
    refine oG (gM (evv rfl)) rfl rfl ?_
    refine oG (g_extract (evv rfl) (by rfl)) rfl rfl ?_
    refine oG (g_extract (evv rfl) (by rfl)) rfl rfl ?_
    refine o_alloc rfl rfl (fun _ => ?_)
    refine o_store1 (evv rfl) (evv rfl) (by rfl) (by rfl) (by rfl) ?_
    refine oG (gA (evv rfl)) rfl rfl ?_
    refine oN ?_
    refine cC ?_
    refine rS ?_
    rw [hfr]
    dsimp only
    rename_i fv0 hfv0 bf
    have hlv := hx.l
    refine rR (id := 14) ?_
    refine oG (g_load (evv rfl) (by rfl) (by rfl)) rfl rfl ?_
    refine oG (g_nil (evv rfl)) rfl rfl ?_
    refine oG (g_fld (evv rfl)) rfl rfl ?_
    refine oG (g_load (evv rfl) (by rfl) (by rfl)) rfl rfl ?_
    (refine o_call rfl _ (PickR.ent (K := pt _)) (Live_c _ _ _) rfl ?_; rintro _ _ ⟨rfl, rfl⟩)
    refine o_giveN (g_bin (evv rfl) (evv rfl) (by rfl)) (by simp only [inR]; omega) rfl ?_
    refine o_alloc rfl rfl (fun _ => ?_)
    refine o_store1 (evv rfl) (evv rfl) (by rfl) (by rfl) (by rfl) ?_
    refine oN ?_
    refine cC ?_
    refine rS ?_
    refine rS ?_
    rename_i bo
    refine rR (id := 15) ?_
    refine oG (g_func rfl rfl) rfl rfl ?_
    refine oG (g_func rfl rfl) rfl rfl ?_
    refine oG (g_func rfl rfl) rfl rfl ?_
    refine oG (g_load (evv rfl) (by rfl) (by rfl)) rfl rfl ?_
    refine oG (g_nil (evv rfl)) rfl rfl ?_
    refine oG (g_fld (evv rfl)) rfl rfl ?_
    refine oG (g_load (evv rfl) (by rfl) (by rfl)) rfl rfl ?_
    refine oG (g_func rfl rfl) rfl rfl ?_
    refine oG (g_func rfl rfl) rfl rfl ?_
    refine o_litV rfl rfl rfl (by rfl) rfl rfl (fun _ => ?_)
    refine oG (g_lenM (evv rfl)) rfl rfl ?_
    refine oG (gM (evv rfl)) rfl rfl ?_
    refine oN ?_
    refine cC ?_
    refine r_block ?_
    rename_i sv
    have hl8 := frame_len P
    have hm9 : (frameB P).length ≤ 1000000000 := by omega
    have ho : (0 : Int) ≤ 1 - (x.live : Int) ∧ 1 - (x.live : Int) ≤ 1 := by omega
    have hstep : ∀ i < 5, ∀ (y : Pt) (R : List Atom), y.ok → ∃ (g : FuncId) (fs cs : Array Value), CallOk Try.prog g ∧ (id ([.func (.func 41) #[] #[.pointer (some ⟨bj, 0, none⟩), .pointer (some ⟨bo, 0, none⟩)], .func (.func 43) #[] #[.pointer (some ⟨bj, 0, none⟩), .pointer (some ⟨bo, 0, none⟩), .pointer (some ⟨bf, 0, none⟩)], .func (.func 44) #[] #[.pointer (some ⟨bj, 0, none⟩), .pointer (some ⟨bo, 0, none⟩)], .func (.func 45) #[.pointer (some ⟨p, 0, none⟩)] #[], .func (.func 46) #[] #[.pointer (some ⟨bj, 0, none⟩), .pointer (some ⟨bo, 0, none⟩)]].getD i default) : Value) = .func (.func g) fs cs ∧
        Fn Try.prog g (fs.toList ++ [] ++ cs.toList) (pt p y :: blk bj ⟨[.pointer (some ⟨j, 0, none⟩)], 25⟩ :: blk j ⟨.pointer (some ⟨p, 0, none⟩) :: kC k.view k.normal k.base k.state ve, 74⟩ :: blk bo ⟨[.int .i64 (1 - (x.live : Int))], 3⟩ :: blk bf ⟨[ff], 52⟩ :: sl ff (bR (frameB P)) :: R) (fun v L' => v = .int .i64 (layS (1 - (x.live : Int)) (frameB P) i y).1 ∧ L' = pt p (layS (1 - (x.live : Int)) (frameB P) i y).2 :: blk bj ⟨[.pointer (some ⟨j, 0, none⟩)], 25⟩ :: blk j ⟨.pointer (some ⟨p, 0, none⟩) :: kC k.view k.normal k.base k.state ve, 74⟩ :: blk bo ⟨[.int .i64 (1 - (x.live : Int))], 3⟩ :: blk bf ⟨[ff], 52⟩ :: sl ff (bR (frameB P)) :: R) := by
      intro i hi y R hy
      rcases (by omega : i = 0 ∨ i = 1 ∨ i = 2 ∨ i = 3 ∨ i = 4) with rfl | rfl | rfl | rfl | rfl
      · exact ⟨_, _, _, inferInstance, rfl, Lay1_c _ bj bo j p _ y _ hy ho⟩
      · exact ⟨_, _, _, inferInstance, rfl, Lay2_c _ bj bo bf j p _ y _ ff (frameB P) hy hm9⟩
      · exact ⟨_, _, _, inferInstance, rfl, Lay3_c _ bj bo j p _ y _ hy ho⟩
      · exact ⟨_, _, _, inferInstance, rfl, Flip_c _ p y hy⟩
      · exact ⟨_, _, _, inferInstance, rfl, Lay4_c _ bj bo j p _ y _ hy ho⟩
    refine r_ent (pt p x :: blk bj ⟨[.pointer (some ⟨j, 0, none⟩)], 25⟩ :: blk j ⟨.pointer (some ⟨p, 0, none⟩) :: kC k.view k.normal k.base k.state ve, 74⟩ :: blk bo ⟨[.int .i64 (1 - (x.live : Int))], 3⟩ :: blk bf ⟨[ff], 52⟩ :: sl ff (bR (frameB P)) :: sl sv (mrow id 97 [.func (.func 41) #[] #[.pointer (some ⟨bj, 0, none⟩), .pointer (some ⟨bo, 0, none⟩)], .func (.func 43) #[] #[.pointer (some ⟨bj, 0, none⟩), .pointer (some ⟨bo, 0, none⟩), .pointer (some ⟨bf, 0, none⟩)], .func (.func 44) #[] #[.pointer (some ⟨bj, 0, none⟩), .pointer (some ⟨bo, 0, none⟩)], .func (.func 45) #[.pointer (some ⟨p, 0, none⟩)] #[], .func (.func 46) #[] #[.pointer (some ⟨bj, 0, none⟩), .pointer (some ⟨bo, 0, none⟩)]]) :: blk bk ⟨kC view normal base state ve', 28⟩ :: rom l :: F) (Lay.ent) ?_
    refine r_loopE (σ := Nat) (fun i => i ≤ 5) (fun i => 5 - i) (fun i => [(7, .v (.int .i64 (layG (1 - (x.live : Int)) (frameB P) x i).1)), (64, .v (.int .i64 (i : Int)))]) [2, 3, 62, 63] (fun i => pt p (layG (1 - (x.live : Int)) (frameB P) x i).2 :: blk bj ⟨[.pointer (some ⟨j, 0, none⟩)], 25⟩ :: blk j ⟨.pointer (some ⟨p, 0, none⟩) :: kC k.view k.normal k.base k.state ve, 74⟩ :: blk bo ⟨[.int .i64 (1 - (x.live : Int))], 3⟩ :: blk bf ⟨[ff], 52⟩ :: sl ff (bR (frameB P)) :: sl sv (mrow id 97 [.func (.func 41) #[] #[.pointer (some ⟨bj, 0, none⟩), .pointer (some ⟨bo, 0, none⟩)], .func (.func 43) #[] #[.pointer (some ⟨bj, 0, none⟩), .pointer (some ⟨bo, 0, none⟩), .pointer (some ⟨bf, 0, none⟩)], .func (.func 44) #[] #[.pointer (some ⟨bj, 0, none⟩), .pointer (some ⟨bo, 0, none⟩)], .func (.func 45) #[.pointer (some ⟨p, 0, none⟩)] #[], .func (.func 46) #[] #[.pointer (some ⟨bj, 0, none⟩), .pointer (some ⟨bo, 0, none⟩)]]) :: blk bk ⟨kC view normal base state ve', 28⟩ :: rom l :: F) 0 (by dsimp only [pickE, pick1, lk2, Nat.reduceBEq, Nat.reduceAdd, Nat.zero_add, cond_true, cond_false] <;> exact rfl) ?_ (by repeat (first | exact trivial | refine ⟨rfl, ?_⟩ | refine envsub_v rfl (by first | rfl | (refine int_eq ?_; first | omega | (simp; omega) | (simp; done)) | (refine bool_eq ?_; first | (simp [*]; done) | (simp; done)) | (refine str_eq ?_; simp; done) | (refine ptr_eq ?_; omega) | fail) ?_)) ?_ ?_
    · omega
    · exact Ent.refl _
    rintro i hi; (try dsimp only at hi); dsimp only [List.cons_append, List.nil_append]
    refine rS ?_
    refine rR (id := 16) ?_
    refine oG (g_bin (evv rfl) (evv rfl) (by rfl)) rfl rfl ?_
    refine oN ?_
    refine cC ?_
    refine rS ?_
    refine r_cond rfl (fun hc => ?_) (fun hc => ?_) <;> (try simp only [decide_eq_true_eq, decide_eq_false_iff_not, Bool.and_eq_true, Bool.or_eq_true, Bool.not_eq_true', Bool.and_eq_false_iff, Bool.or_eq_false_iff, Bool.not_eq_false', Bool.not_eq_true, Bool.not_eq_false, Bool.true_eq_false, Bool.false_eq_true, Int.not_lt, Int.not_le, not_and, not_or, ne_eq] at hc)
    · simp only [List.length_cons, List.length_nil] at hc
      have hy := layG_ok hx (o := 1 - (x.live : Int)) (f := frameB P) (by omega) i
      obtain ⟨g, fs, cs, hco, hg, hfn⟩ := hstep i (by omega) (layG (1 - (x.live : Int)) (frameB P) x i).2 (sl sv (mrow id 97 [.func (.func 41) #[] #[.pointer (some ⟨bj, 0, none⟩), .pointer (some ⟨bo, 0, none⟩)], .func (.func 43) #[] #[.pointer (some ⟨bj, 0, none⟩), .pointer (some ⟨bo, 0, none⟩), .pointer (some ⟨bf, 0, none⟩)], .func (.func 44) #[] #[.pointer (some ⟨bj, 0, none⟩), .pointer (some ⟨bo, 0, none⟩)], .func (.func 45) #[.pointer (some ⟨p, 0, none⟩)] #[], .func (.func 46) #[] #[.pointer (some ⟨bj, 0, none⟩), .pointer (some ⟨bo, 0, none⟩)]]) :: blk bk ⟨kC view normal base state ve', 28⟩ :: rom l :: F) hy.1
      have hG : layG (1 - (x.live : Int)) (frameB P) x (i + 1) = if (layG (1 - (x.live : Int)) (frameB P) x i).1 = 0 then layS (1 - (x.live : Int)) (frameB P) i (layG (1 - (x.live : Int)) (frameB P) x i).2 else layG (1 - (x.live : Int)) (frameB P) x i := rfl
      refine r_skip ?_
      refine cC ?_
      refine rS ?_
      refine r_block ?_
      refine rS ?_
      refine rR (id := 17) ?_
      refine oG (g_idxMN (evv rfl) (evv rfl) (by rfl) (by first | omega | (have := of_decide_eq_true hg; omega) | (simp at hg; omega) | (simp only [List.length_set, List.length_append, List.length_cons, List.length_nil, List.length_map, List.length_take, List.length_drop, List.length_replicate]; omega))) rfl rfl ?_
      refine oG (g_loadM (evv rfl) (by rfl) (by first | omega | (have := of_decide_eq_true hg; omega) | (simp at hg; omega) | (simp only [List.length_set, List.length_append, List.length_cons, List.length_nil, List.length_map, List.length_take, List.length_drop, List.length_replicate]; omega))) rfl rfl ?_
      refine oG (gA (evv rfl)) rfl rfl ?_
      refine oN ?_
      refine cC ?_
      refine rS ?_
      rw [hg]
      refine rR (id := 18) ?_
      refine oG (gM (evv rfl)) rfl rfl ?_
      refine oG (g_bin (evv rfl) (evv rfl) (by rfl)) rfl rfl ?_
      refine oN ?_
      refine cC ?_
      by_cases h0 : (layG (1 - (x.live : Int)) (frameB P) x i).1 = 0
      · rw [if_pos h0] at hG
        rw [h0]
        refine r_cond_true rfl ?_
        refine rR (id := 19) ?_
        refine oG (gM (evv rfl)) rfl rfl ?_
        refine o_callV (co := hco) rfl rfl _ (Ent.refl _) hfn rfl ?_
        rintro _ _ ⟨rfl, rfl⟩
        rw [← hG]
        refine oG (gA (evv rfl)) rfl rfl ?_
        refine oN ?_
        refine c_blk ?_
        refine cC ?_
        refine rR (id := 20) ?_
        refine o_giveN (g_bin (evv rfl) (evv rfl) (by rfl)) (by simp only [inR]; omega) rfl ?_
        refine oG (gM (evv rfl)) rfl rfl ?_
        refine oN ?_
        refine c_loop (i + 1) ?_ ?_ (by repeat (first | exact trivial | refine ⟨rfl, ?_⟩ | refine envsub_v rfl (by first | rfl | (refine int_eq ?_; first | omega | (simp; omega) | (simp; done)) | (refine bool_eq ?_; first | (simp [*]; done) | (simp; done)) | (refine str_eq ?_; simp; done) | (refine ptr_eq ?_; omega) | fail) ?_)) ?_ <;> (try dsimp only)
        · omega
        · omega
        · exact Ent.refl _
      · rw [if_neg h0] at hG
        refine r_cond rfl (fun g0 => ?_) (fun g0 => ?_) <;> (try simp only [decide_eq_true_eq, decide_eq_false_iff_not, Bool.and_eq_true, Bool.or_eq_true, Bool.not_eq_true', Bool.and_eq_false_iff, Bool.or_eq_false_iff, Bool.not_eq_false', Bool.not_eq_true, Bool.not_eq_false, Bool.true_eq_false, Bool.false_eq_true, Int.not_lt, Int.not_le, not_and, not_or, ne_eq] at g0)
        · exact absurd g0 h0
        · rw [← hG]
          refine r_skip ?_
          refine c_blk ?_
          refine cC ?_
          refine rR (id := 20) ?_
          refine o_giveN (g_bin (evv rfl) (evv rfl) (by rfl)) (by simp only [inR]; omega) rfl ?_
          refine oG (gM (evv rfl)) rfl rfl ?_
          refine oN ?_
          refine c_loop (i + 1) ?_ ?_ (by repeat (first | exact trivial | refine ⟨rfl, ?_⟩ | refine envsub_v rfl (by first | rfl | (refine int_eq ?_; first | omega | (simp; omega) | (simp; done)) | (refine bool_eq ?_; first | (simp [*]; done) | (simp; done)) | (refine str_eq ?_; simp; done) | (refine ptr_eq ?_; omega) | fail) ?_)) ?_ <;> (try dsimp only)
          · omega
          · omega
          · exact Ent.refl _
    · simp only [List.length_cons, List.length_nil] at hc
      obtain rfl : i = 5 := by omega
      generalize layG (1 - (x.live : Int)) (frameB P) x 5 = r at *
      obtain ⟨e, y⟩ := r
      dsimp only
      refine r_exit rfl ?_
      refine cC ?_
      refine rS ?_
      refine rS ?_
      refine rR (id := 21) ?_
      refine oG (gM (evv rfl)) rfl rfl ?_
      refine oG (g_bin (evv rfl) (evv rfl) (by rfl)) rfl rfl ?_
      refine oN ?_
      refine cC ?_
      by_cases h0 : e = 0
      · subst h0
        refine r_cond_true rfl ?_
        refine rS ?_
        refine rR (id := 22) ?_
        refine oG (g_load (evv rfl) (by rfl) (by rfl)) rfl rfl ?_
        refine oG (g_loadF (evv rfl) (by rfl) (by rfl)) rfl rfl ?_
        refine oG (g_nil (evv rfl)) rfl rfl ?_
        refine oG (g_fld (evv rfl)) rfl rfl ?_
        refine o_storeA (evv rfl) (evv rfl) (by first | rfl | assumption | exact LenC.h _ | (simp [bys, *]; done) | fail) (by first | (intro _ _ _; exact bys_one _) | exact AllOne.h | (intro _ _ _ u hu; simp at hu; rcases hu with rfl | rfl | rfl | rfl | rfl | rfl | rfl | rfl <;> rfl) | fail) (by rfl) (by rfl) ?_
        refine oN ?_
        refine cC ?_
        have hl2 : es.length ≤ 1048576 := hl
        repeat (first | refine rS ?_ | refine cC ?_ | refine c_blk ?_ | refine r_block ?_ | refine r_skip ?_)
        refine r_held (id := 23) [blk bj ⟨[.pointer (some ⟨j, 0, none⟩)], 25⟩, blk bk ⟨kC view normal base state ve', 28⟩] Mixed.h ?_
        refine h_give (i := 0) (by kernel_rfl) rfl (g_load (evv rfl) (by rfl) (by rfl)) rfl rfl ?_
        refine h_give (i := 1) (by kernel_rfl) rfl (g_fld (evv rfl)) rfl rfl ?_
        refine h_give (i := 2) (by kernel_rfl) rfl (g_load (evv rfl) (by rfl) (by rfl)) rfl rfl ?_
        refine h_one (i := 3) (by kernel_rfl) rfl (Lay.ent) ?_
        (refine o_call rfl _ (Ent.refl _) (CoE_c _ _ _ (by first | assumption | omega | (simp only [List.length_take, List.length_drop]; omega))) rfl ?_; rintro _ _ rfl)
        refine oN ?_
        refine h_give (i := 4) (by kernel_rfl) rfl (g_nil (evv rfl)) rfl rfl ?_
        refine h_give (i := 5) (by kernel_rfl) rfl (g_fld (evv rfl)) rfl rfl ?_
        refine h_give (i := 6) (by kernel_rfl) rfl (g_fld (evv rfl)) rfl rfl ?_
        refine h_one (i := 7) (by kernel_rfl) rfl (Lay.ent) ?_
        refine o_store1 (evv rfl) (evv rfl) (by rfl) (by rfl) (by rfl) ?_
        refine oN ?_
        refine h_done (by kernel_rfl) (Lay.ent) ?_
        rename_i cv
        refine cC ?_
        refine rS ?_
        refine rR (id := 24) ?_
        refine oG (gM (evv rfl)) rfl rfl ?_
        refine oG (gA (evv rfl)) rfl rfl ?_
        refine oN ?_
        refine cC ?_
        first | refine r_ret (rs := [.tmp 4]) rfl rfl _ (((Lay.ent (L' := sl cv (entR es) :: rom l :: blk j ⟨.pointer (some ⟨p, 0, none⟩) :: kC view normal base state cv, 74⟩ :: pt p y :: F)).trans (Ent.romIn.trans (Ent.swap.trans jr_shut)))) ?_ | refine c_end (rs := [.tmp 4]) rfl rfl _ (((Lay.ent (L' := sl cv (entR es) :: rom l :: blk j ⟨.pointer (some ⟨p, 0, none⟩) :: kC view normal base state cv, 74⟩ :: pt p y :: F)).trans (Ent.romIn.trans (Ent.swap.trans jr_shut)))) ?_
        exact ⟨rfl, rfl⟩
      · rw [if_neg h0]
        refine r_cond rfl (fun g0 => ?_) (fun g0 => ?_) <;> (try simp only [decide_eq_true_eq, decide_eq_false_iff_not, Bool.and_eq_true, Bool.or_eq_true, Bool.not_eq_true', Bool.and_eq_false_iff, Bool.or_eq_false_iff, Bool.not_eq_false', Bool.not_eq_true, Bool.not_eq_false, Bool.true_eq_false, Bool.false_eq_true, Int.not_lt, Int.not_le, not_and, not_or, ne_eq] at g0)
        · exact absurd g0 h0
        · refine r_skip ?_
          refine cC ?_
          refine rS ?_
          refine rR (id := 24) ?_
          refine oG (gM (evv rfl)) rfl rfl ?_
          refine oG (gA (evv rfl)) rfl rfl ?_
          refine oN ?_
          refine cC ?_
          first | refine r_ret (rs := [.tmp 4]) rfl rfl _ (((Lay.ent (L' := blk j ⟨.pointer (some ⟨p, 0, none⟩) :: kC k.view k.normal k.base k.state ve, 74⟩ :: rom l :: pt p y :: F)).trans jr_shut)) ?_ | refine c_end (rs := [.tmp 4]) rfl rfl _ (((Lay.ent (L' := blk j ⟨.pointer (some ⟨p, 0, none⟩) :: kC k.view k.normal k.base k.state ve, 74⟩ :: rom l :: pt p y :: F)).trans jr_shut)) ?_
          exact ⟨rfl, rfl⟩
  · have hT : layT x k ⟨view, normal, base, state, es⟩ = (1, x, k) := if_pos hok
    rw [hT]
    simp only [if_neg hok]
    refine r_cond_true rfl ?_
    refine rS ?_
    refine rR (id := 4) ?_
    refine oG (gA (evv rfl)) rfl rfl ?_
    refine oN ?_
    refine cC ?_
    first | refine r_ret (rs := [.tmp 4]) rfl rfl _ (((Lay.ent (L' := blk j ⟨.pointer (some ⟨p, 0, none⟩) :: kC k.view k.normal k.base k.state ve, 74⟩ :: rom l :: pt p x :: F)).trans jr_shut)) ?_ | refine c_end (rs := [.tmp 4]) rfl rfl _ (((Lay.ent (L' := blk j ⟨.pointer (some ⟨p, 0, none⟩) :: kC k.view k.normal k.base k.state ve, 74⟩ :: rom l :: pt p x :: F)).trans jr_shut)) ?_
    exact ⟨rfl, rfl⟩
theorem LayC_c (F : List Atom) (j p : Nat) (x : Pt) (k : KeptS) (view normal base : Int) (state : List UInt8) (es : List EntS) (ve' : Value) [rd : Rd F ve' (entR es)] (hx : x.ok) (hk : k.ok) (hf : k.fine) (hfe : ∀ e ∈ es, e.ok) (hl : es.length ≤ 1048576) (hst : state.length ≤ 140737488355000) (hs : sizeP x + 262152 ≤ 1000000000) :
    Fn Try.prog 13 [.pointer (some ⟨j, 0, none⟩), agg (kC view normal base state ve')] (jr j (p, k) :: pt p x :: F) fun w L' => w = .int .i64 (layT x k ⟨view, normal, base, state, es⟩).1 ∧ L' = jr j (p, (layT x k ⟨view, normal, base, state, es⟩).2.2) :: pt p (layT x k ⟨view, normal, base, state, es⟩).2.1 :: F := by
  refine Fn.exA fun ve => ?_
  haveI : Rd (rom [(ve, entR k.ents)] :: F) ve' (entR es) := rd.ent Ent.drop
  exact (Lay_c F j p x k ve [(ve, entR k.ents)] view normal base state es ve' hx hk hf hfe hl hst hs).pre (Ent.cons Ent.swap)
end VK

namespace VK
open Go Go.Proofs
set_option linter.unusedSimpArgs false
set_option linter.unusedVariables false
set_option maxRecDepth 100000
set_option maxHeartbeats 40000000
theorem scan_len : ∀ (n : Nat) (b : List UInt8), b.length ≤ n → ∀ p ∈ (scanR b).1, p.length ≤ b.length
  | 0, b, h, p, hp => by
    have : b = [] := List.eq_nil_of_length_eq_zero (by omega)
    subst this
    rw [scan_stop next_nil] at hp
    cases hp
  | n + 1, b, h, p, hp => by
    by_cases h0 : (nextR b).2.2 = 0
    · rw [scan_go h0] at hp
      have hl := next_len h0
      rcases List.mem_cons.1 hp with rfl | hp
      · omega
      · have := scan_len n (b.drop (nextR b).2.1) (by rw [List.length_drop]; omega) p hp
        rw [List.length_drop] at this
        omega
    · rw [scan_stop h0] at hp
      cases hp
theorem foldsK_snoc {l : List (List UInt8)} {i : Nat} {k : KeptS} (h : i < l.length) (hk : foldsK zeroK (l.take i) = some k) : foldsK zeroK (l.take (i + 1)) = foldK k (l.getD i default) := by
  rw [List.take_succ_eq_append_getElem h, foldsK_app, hk]
  simp only [Option.bind_some, foldsK]
  rw [show l.getD i default = l[i] by simp [h]]
  cases foldK k l[i] <;> rfl
theorem foldsK_stop {l : List (List UInt8)} {i : Nat} (h : foldsK zeroK (l.take i) = none) : foldsK zeroK l = none := by
  conv => lhs; rw [← List.take_append_drop i l]
  rw [foldsK_app, h]
  rfl
theorem rom2 {a b : Value × Row} {l : List (Value × Row)} {L : List Atom} : Ent (rom (a :: b :: l) :: L) (rom (a :: l) :: L) := Ent.romSub fun h q => by
  unfold rom at *
  intro y hy
  rcases List.mem_cons.1 hy with rfl | hy
  · exact q _ (List.mem_cons_self ..)
  · exact q y (List.mem_cons_of_mem _ (List.mem_cons_of_mem _ hy))
def openV (e : Int) (jv : Value) (k : KeptS) (ve : Value) : Value := .tuple #[jv, agg (kC k.view k.normal k.base k.state ve), .int .i64 e]
theorem Open_c (F : List Atom) (p : Nat) (x : Pt) (hx : x.ok) (hs : sizeP x + 262152 ≤ 1000000000) :
    Fn Try.prog 10 [.pointer (some ⟨p, 0, none⟩)] (pt p x :: F) fun w L' => ((openT x).1 = 0 ∧ ∃ j ve, w = openV 0 (.pointer (some ⟨j, 0, none⟩)) (openT x).2.2 ve ∧ L' = sl ve (entR (openT x).2.2.ents) :: jr j (p, (openT x).2.2) :: pt p (openT x).2.1 :: F) ∨
      ((openT x).1 ≠ 0 ∧ w = openV (openT x).1 (.pointer none) zeroK (.slice none 0 0) ∧ L' = pt p (openT x).2.1 :: F) := by
  refine fn_intro Try.func10 rfl Try.ntmps10 rfl (fun W0 => ?_)
  simp only [argE]
  by_cases hd : x.down = true
  · have hT : openT x = (170, x, zeroK) := if_pos hd
    rw [hT]
    refine rS ?_
    refine rR (id := 0) ?_
    refine oG (gA (evv rfl)) rfl rfl ?_
    refine o_alloc rfl rfl (fun _ => ?_)
    refine oG (gA (evv rfl)) rfl rfl ?_
    refine oN ?_
    refine cC ?_
    refine rS ?_
    refine r_block ?_
    refine rS ?_
    refine rR (id := 1) ?_
    refine oG (gM (evv rfl)) rfl rfl ?_
    refine oG (g_pnil TyU.h (evv rfl) (evv rfl) (by simp) (by rfl)) rfl rfl ?_
    refine oG (gA (evv rfl)) rfl rfl ?_
    refine oN ?_
    refine cC ?_
    refine r_cond_false rfl ?_
    refine rS ?_
    refine rR (id := 3) ?_
    refine oG (gM (evv rfl)) rfl rfl ?_
    (refine o_call rfl _ (PickR.ent (K := pt _)) (Down_c _ _ _) rfl ?_; rintro _ _ ⟨rfl, rfl⟩)
    refine oG (gA (evv rfl)) rfl rfl ?_
    refine oN ?_
    refine cC ?_
    simp only [hd]
    refine r_cond_true rfl ?_
    refine rS ?_
    refine rR (id := 4) ?_
    refine oG (v := agg [(Go.Value.int Go.IntKind.i64 0), (Go.Value.int Go.IntKind.i64 0), (Go.Value.int Go.IntKind.i64 0), (Go.Value.string { data := #[] }), (Go.Value.slice none 0 0)]) (g_buildC rfl (by rfl)) rfl rfl ?_
    refine oG (gA (evv rfl)) rfl rfl ?_
    refine o_storeW (evv rfl) (evv rfl) (by first | rfl | assumption | exact LenC.h _ | (simp [bys, *]; done) | fail) (by first | (intro _ _ _; exact bys_one _) | exact AllOne.h | (intro _ _ _ u hu; simp at hu; rcases hu with rfl | rfl | rfl | rfl | rfl | rfl | rfl | rfl <;> rfl) | fail) (by first | rfl | exact (LenC.h _).trans rfl | exact (LenC.h _).trans (LenC.h _).symm | (simp [bys, *]; done) | (simp only [bys, List.length_map, *]; rfl) | fail) ?_
    refine oG (gA (evv rfl)) rfl rfl ?_
    refine oN ?_
    refine cC ?_
    first | refine r_retC (rs := [.tmp 2, .cell 3 28, .tmp 4]) rfl (ro_tmp rfl (by first | exact ro_agg rfl rfl (by first | rfl | exact LenC.h _ | (simp [bys, *]; done)) (ro_tmp rfl ro_nil) | exact ro_cell rfl rfl rfl (ro_tmp rfl ro_nil))) _ ((Lay.ent (L' := pt p x :: F))) ?_ | refine c_endC (rs := [.tmp 2, .cell 3 28, .tmp 4]) rfl (ro_tmp rfl (by first | exact ro_agg rfl rfl (by first | rfl | exact LenC.h _ | (simp [bys, *]; done)) (ro_tmp rfl ro_nil) | exact ro_cell rfl rfl rfl (ro_tmp rfl ro_nil))) _ ((Lay.ent (L' := pt p x :: F))) ?_
    exact .inr ⟨by decide, rfl, rfl⟩
  · have hd : x.down = false := by simpa using hd
    generalize hB : rdT x x.live = b
    have hN : foldsK zeroK (scanR b).1 = none → openT x = (180, x, zeroK) := fun h => by
      unfold openT
      rw [hd, if_neg (by decide), hB, h]
    have hS : ∀ k, foldsK zeroK (scanR b).1 = some k → openT x = if (scanR b).2 < b.length then ((layT x k k).1, (layT x k k).2.1, if (layT x k k).1 = 0 then k else zeroK) else (0, x, k) := fun k h => by
      unfold openT
      rw [hd, if_neg (by decide), hB, h]
    have hbl : b.length ≤ 1000000000 := by
      rw [← hB, rd_live hx]
      rcases hx.l with e | e <;> rw [e]
      · exact hx.n0
      · exact hx.n1
    refine rS ?_
    refine rR (id := 0) ?_
    refine oG (gA (evv rfl)) rfl rfl ?_
    refine o_alloc rfl rfl (fun _ => ?_)
    refine oG (gA (evv rfl)) rfl rfl ?_
    refine oN ?_
    refine cC ?_
    refine rS ?_
    refine r_block ?_
    refine rS ?_
    refine rR (id := 1) ?_
    refine oG (gM (evv rfl)) rfl rfl ?_
    refine oG (g_pnil TyU.h (evv rfl) (evv rfl) (by simp) (by rfl)) rfl rfl ?_
    refine oG (gA (evv rfl)) rfl rfl ?_
    refine oN ?_
    refine cC ?_
    refine r_cond_false rfl ?_
    refine rS ?_
    refine rR (id := 3) ?_
    refine oG (gM (evv rfl)) rfl rfl ?_
    (refine o_call rfl _ (PickR.ent (K := pt _)) (Down_c _ _ _) rfl ?_; rintro _ _ ⟨rfl, rfl⟩)
    refine oG (gA (evv rfl)) rfl rfl ?_
    refine oN ?_
    refine cC ?_
    simp only [hd]
    refine r_cond_false rfl ?_
    refine r_skip ?_
    refine c_blk ?_
    refine cC ?_
    refine rS ?_
    refine rR (id := 5) ?_
    refine oG (gM (evv rfl)) rfl rfl ?_
    refine oG (g_buildC rfl (by rfl)) rfl rfl ?_
    refine o_boxA (evv rfl) rfl (fun _ => ?_)
    refine oG (gA (evv rfl)) rfl rfl ?_
    refine oN ?_
    refine cC ?_
    refine rS ?_
    refine rR (id := 6) ?_
    refine oG (gM (evv rfl)) rfl rfl ?_
    refine oG (gM (evv rfl)) rfl rfl ?_
    (refine o_call rfl _ (PickR.ent (K := pt _)) (Live_c _ _ _) rfl ?_; rintro _ _ ⟨rfl, rfl⟩)
    (refine o_call rfl _ (PickR.ent (K := pt _)) (pRead_c _ _ _ (by assumption) _) rfl ?_; rintro cw _ ⟨-, rfl⟩)
    refine oG (gA (evv rfl)) rfl rfl ?_
    refine oN ?_
    refine cC ?_
    refine rS ?_
    rw [hB]
    rename_i _ q j
    refine r_ent (blk j ⟨.pointer (some ⟨p, 0, none⟩) :: kC 0 0 0 [] (.slice none 0 0), 74⟩ :: blk q ⟨kC 0 0 0 [] (.slice none 0 0), 28⟩ :: sl cw (bR b) :: pt p x :: F) (Ent.trans (B := sl cw (bR b) :: pt p x :: blk j ⟨.pointer (some ⟨p, 0, none⟩) :: kC 0 0 0 [] (.slice none 0 0), 74⟩ :: blk q ⟨kC 0 0 0 [] (.slice none 0 0), 28⟩ :: F) (Ent.refl _) (Lay.ent)) ?_
    refine rR (id := 7) ?_
    refine oG (gM (evv rfl)) rfl rfl ?_
    (refine o_call rfl _ (Ent.refl _) (Scan_c _ _ _ (by first | assumption | omega)) rfl ?_; rintro _ _ ⟨so, rs, rfl, hrs, rfl⟩)
    refine oG (gM (evv rfl)) rfl rfl ?_
    refine oG (g_extract (evv rfl) (by rfl)) rfl rfl ?_
    refine oG (g_extract (evv rfl) (by rfl)) rfl rfl ?_
    refine oG (gA (evv rfl)) rfl rfl ?_
    refine oG (gA (evv rfl)) rfl rfl ?_
    refine oN ?_
    refine cC ?_
    refine rS ?_
    refine rS ?_
    refine rR (id := 8) ?_
    refine oG (gM (evv rfl)) rfl rfl ?_
    refine oG (g_lenM (evv rfl)) rfl rfl ?_
    refine oG (gM (evv rfl)) rfl rfl ?_
    refine oN ?_
    refine cC ?_
    refine r_block ?_
    have hrl : rs.length = (scanR b).1.length := by rw [← hrs, List.length_map]
    refine r_ent (rom (((.slice none 0 0), entR []) :: pcR rs) :: sl so (mrow pcV 52 rs) :: blk j ⟨.pointer (some ⟨p, 0, none⟩) :: kC 0 0 0 [] (.slice none 0 0), 74⟩ :: blk q ⟨kC 0 0 0 [] (.slice none 0 0), 28⟩ :: sl cw (bR b) :: pt p x :: F) ((Ent.nilsl 50 8).trans ((Lay.ent (L' := sl (.slice none 0 0) ⟨50, 8, 0, []⟩ :: rom (pcR rs) :: sl so (mrow pcV 52 rs) :: blk j ⟨.pointer (some ⟨p, 0, none⟩) :: kC 0 0 0 [] (.slice none 0 0), 74⟩ :: blk q ⟨kC 0 0 0 [] (.slice none 0 0), 28⟩ :: sl cw (bR b) :: pt p x :: F)).trans Ent.romIn)) ?_
    refine r_lenM (f := pcV) (e := 52) (v := so) (l := rs) inferInstance fun hlm => ?_
    have hlm : rs.length ≤ 2 ^ 63 - 1 := hlm
    refine r_loopE (σ := Nat × KeptS × Value) (fun ⟨i, k, ve⟩ => i ≤ rs.length ∧ foldsK zeroK ((scanR b).1.take i) = some k) (fun ⟨i, k, ve⟩ => rs.length - i) (fun ⟨i, k, ve⟩ => [(36, .v (.int .i64 (i : Int)))]) [3, 5, 6, 8, 34, 35] (fun ⟨i, k, ve⟩ => rom ((ve, entR k.ents) :: pcR rs) :: sl so (mrow pcV 52 rs) :: blk j ⟨.pointer (some ⟨p, 0, none⟩) :: kC k.view k.normal k.base k.state ve, 74⟩ :: blk q ⟨kC 0 0 0 [] (.slice none 0 0), 28⟩ :: sl cw (bR b) :: pt p x :: F) (0, zeroK, .slice none 0 0) (by dsimp only [pickE, pick1, lk2, Nat.reduceBEq, Nat.reduceAdd, Nat.zero_add, cond_true, cond_false] <;> exact rfl) ?_ (by repeat (first | exact trivial | refine ⟨rfl, ?_⟩ | refine envsub_v rfl (by first | rfl | (refine int_eq ?_; first | omega | (simp; omega) | (simp; done)) | (refine bool_eq ?_; first | (simp [*]; done) | (simp; done)) | (refine str_eq ?_; simp; done) | (refine ptr_eq ?_; omega) | fail) ?_)) ?_ ?_
    · exact ⟨Nat.zero_le _, rfl⟩
    · exact Ent.refl _
    rintro ⟨i, k, ve⟩ ⟨hi, hI⟩; dsimp only [List.cons_append, List.nil_append]
    have hkk := foldsK_ok zeroK_ok hI
    have hkf := foldsK_fine zeroK_fine hI
    refine rS ?_
    refine rR (id := 9) ?_
    refine oG (g_bin (evv rfl) (evv rfl) (by rfl)) rfl rfl ?_
    refine oN ?_
    refine cC ?_
    refine rS ?_
    refine r_cond rfl (fun hc => ?_) (fun hc => ?_) <;> (try simp only [decide_eq_true_eq, decide_eq_false_iff_not, Bool.and_eq_true, Bool.or_eq_true, Bool.not_eq_true', Bool.and_eq_false_iff, Bool.or_eq_false_iff, Bool.not_eq_false', Bool.not_eq_true, Bool.not_eq_false, Bool.true_eq_false, Bool.false_eq_true, Int.not_lt, Int.not_le, not_and, not_or, ne_eq] at hc)
    · have hi2 : i < rs.length := by omega
      have hmem : rs.getD i default ∈ rs := by rw [List.getD_eq_getElem?_getD, List.getElem?_eq_getElem hi2]; exact List.getElem_mem hi2
      haveI : InR (pcR rs) (pcV (rs.getD i default)) (bR (rs.getD i default).2) := pcR_in hmem
      have hpe : (scanR b).1.getD i default = (rs.getD i default).2 := by rw [← hrs]; simp [hi2]
      have hpl := scan_len b.length b (Nat.le_refl _) _ (show (rs.getD i default).2 ∈ (scanR b).1 by rw [← hrs]; exact List.mem_map_of_mem hmem)
      have hpl2 : (rs.getD i default).2.length ≤ 140737488355000 := by omega
      have hsn := foldsK_snoc (by rw [← hrl]; exact hi2) hI
      rw [hpe] at hsn
      have hkf2 : ∀ e ∈ k.ents, e.ok := hkf
      have hkk2 : KeptS.ok ⟨k.view, k.normal, k.base, k.state, k.ents⟩ := hkk
      refine r_skip ?_
      refine cC ?_
      refine rS ?_
      refine r_block ?_
      refine rS ?_
      refine rR (id := 10) ?_
      refine oG (g_idxMN (evv rfl) (evv rfl) (by rfl) (by first | omega | (have := of_decide_eq_true hg; omega) | (simp at hg; omega) | (simp only [List.length_set, List.length_append, List.length_cons, List.length_nil, List.length_map, List.length_take, List.length_drop, List.length_replicate]; omega))) rfl rfl ?_
      refine oG (g_loadM (evv rfl) (by rfl) (by first | omega | (have := of_decide_eq_true hg; omega) | (simp at hg; omega) | (simp only [List.length_set, List.length_append, List.length_cons, List.length_nil, List.length_map, List.length_take, List.length_drop, List.length_replicate]; omega))) rfl rfl ?_
      refine oG (gA (evv rfl)) rfl rfl ?_
      refine oN ?_
      refine cC ?_
      refine rS ?_
      refine rR (id := 11) ?_
      refine oG (gM (evv rfl)) rfl rfl ?_
      refine oG (g_nil (evv rfl)) rfl rfl ?_
      refine oG (g_fld (evv rfl)) rfl rfl ?_
      refine oG (g_loadF (evv rfl) (by rfl) (by rfl)) rfl rfl ?_
      refine oG (gM (evv rfl)) rfl rfl ?_
      (refine o_call rfl _ (PickR.ent (K := rom)) (fold_c _ _ _ _ _ _ _ _ _ _ (by first | assumption | omega) (by assumption) (by assumption)) rfl ?_; rintro _ _ ⟨fv, rfl, rfl⟩; simp only [foldV'])
      refine oG (gM (evv rfl)) rfl rfl ?_
      refine oG (g_extract (evv rfl) (by rfl)) rfl rfl ?_
      refine oG (g_extract (evv rfl) (by rfl)) rfl rfl ?_
      refine o_alloc rfl rfl (fun _ => ?_)
      refine o_storeW (evv rfl) (evv rfl) (by first | rfl | assumption | exact LenC.h _ | (simp [bys, *]; done) | fail) (by first | (intro _ _ _; exact bys_one _) | exact AllOne.h | (intro _ _ _ u hu; simp at hu; rcases hu with rfl | rfl | rfl | rfl | rfl | rfl | rfl | rfl <;> rfl) | fail) (by first | rfl | exact (LenC.h _).trans rfl | exact (LenC.h _).trans (LenC.h _).symm | (simp [bys, *]; done) | (simp only [bys, List.length_map, *]; rfl) | fail) ?_
      refine oG (gA (evv rfl)) rfl rfl ?_
      refine oN ?_
      refine cC ?_
      refine rS ?_
      refine rS ?_
      generalize hr : foldK k (rs.getD i default).2 = r at *
      rename_i c1
      cases r with
      | none =>
        have hT := hN (foldsK_stop (hsn.trans rfl))
        rw [hT]
        refine rR (id := 12) ?_
        refine oG (gM (evv rfl)) rfl rfl ?_
        refine oG (g_not (evv rfl)) rfl rfl ?_
        refine oN ?_
        refine cC ?_
        refine r_cond_true rfl ?_
        refine rS ?_
        refine rR (id := 13) ?_
        refine oG (v := agg [(Go.Value.int Go.IntKind.i64 0), (Go.Value.int Go.IntKind.i64 0), (Go.Value.int Go.IntKind.i64 0), (Go.Value.string { data := #[] }), (Go.Value.slice none 0 0)]) (g_buildC rfl (by rfl)) rfl rfl ?_
        refine oG (gA (evv rfl)) rfl rfl ?_
        refine o_storeW (evv rfl) (evv rfl) (by first | rfl | assumption | exact LenC.h _ | (simp [bys, *]; done) | fail) (by first | (intro _ _ _; exact bys_one _) | exact AllOne.h | (intro _ _ _ u hu; simp at hu; rcases hu with rfl | rfl | rfl | rfl | rfl | rfl | rfl | rfl <;> rfl) | fail) (by first | rfl | exact (LenC.h _).trans rfl | exact (LenC.h _).trans (LenC.h _).symm | (simp [bys, *]; done) | (simp only [bys, List.length_map, *]; rfl) | fail) ?_
        refine oG (gA (evv rfl)) rfl rfl ?_
        refine oN ?_
        refine cC ?_
        first | refine r_retC (rs := [.tmp 2, .cell 3 28, .tmp 4]) rfl (ro_tmp rfl (by first | exact ro_agg rfl rfl (by first | rfl | exact LenC.h _ | (simp [bys, *]; done)) (ro_tmp rfl ro_nil) | exact ro_cell rfl rfl rfl (ro_tmp rfl ro_nil))) _ ((Lay.ent (L' := pt p x :: F))) ?_ | refine c_endC (rs := [.tmp 2, .cell 3 28, .tmp 4]) rfl (ro_tmp rfl (by first | exact ro_agg rfl rfl (by first | rfl | exact LenC.h _ | (simp [bys, *]; done)) (ro_tmp rfl ro_nil) | exact ro_cell rfl rfl rfl (ro_tmp rfl ro_nil))) _ ((Lay.ent (L' := pt p x :: F))) ?_
        exact .inr ⟨(show (180 : Int) ≠ 0 by decide), rfl, rfl⟩
      | some k' =>
        simp only [Option.getD_some, Option.isSome_some]
        refine rR (id := 12) ?_
        refine oG (gM (evv rfl)) rfl rfl ?_
        refine oG (g_not (evv rfl)) rfl rfl ?_
        refine oN ?_
        refine cC ?_
        refine r_cond_false rfl ?_
        refine r_skip ?_
        refine cC ?_
        refine rR (id := 14) ?_
        refine oG (gM (evv rfl)) rfl rfl ?_
        refine oG (g_loadF (evv rfl) (by rfl) (by rfl)) rfl rfl ?_
        refine oG (g_nil (evv rfl)) rfl rfl ?_
        refine oG (g_fld (evv rfl)) rfl rfl ?_
        refine o_storeA (evv rfl) (evv rfl) (by first | rfl | assumption | exact LenC.h _ | (simp [bys, *]; done) | fail) (by first | (intro _ _ _; exact bys_one _) | exact AllOne.h | (intro _ _ _ u hu; simp at hu; rcases hu with rfl | rfl | rfl | rfl | rfl | rfl | rfl | rfl <;> rfl) | fail) (by rfl) (by rfl) ?_
        refine oN ?_
        refine c_blk ?_
        refine cC ?_
        refine rR (id := 15) ?_
        refine o_giveN (g_bin (evv rfl) (evv rfl) (by rfl)) (by simp only [inR]; omega) rfl ?_
        refine oG (gM (evv rfl)) rfl rfl ?_
        refine oN ?_
        refine c_loop (i + 1, k', fv) ?_ ?_ (by repeat (first | exact trivial | refine ⟨rfl, ?_⟩ | refine envsub_v rfl (by first | rfl | (refine int_eq ?_; first | omega | (simp; omega) | (simp; done)) | (refine bool_eq ?_; first | (simp [*]; done) | (simp; done)) | (refine str_eq ?_; simp; done) | (refine ptr_eq ?_; omega) | fail) ?_)) ?_ <;> (try dsimp only)
        · exact ⟨by omega, hsn⟩
        · omega
        · exact (Lay.ent (L' := rom ((fv, entR k'.ents) :: (ve, entR k.ents) :: pcR rs) :: sl so (mrow pcV 52 rs) :: blk j ⟨.pointer (some ⟨p, 0, none⟩) :: kC k'.view k'.normal k'.base k'.state fv, 74⟩ :: blk q ⟨kC 0 0 0 [] (.slice none 0 0), 28⟩ :: sl cw (bR b) :: pt p x :: F)).trans rom2
    · obtain rfl : i = rs.length := by omega
      rw [hrl, List.take_length] at hI
      have hT := hS k hI
      have hkf2 : ∀ e ∈ k.ents, e.ok := hkf
      have hk32 : k.ents.length ≤ 1048576 := by have := hkk.2.2.2.2.2.2.2.2.2.1; omega
      have hst : k.state.length ≤ 140737488355000 := by have := hkk.2.2.2.2.2.2.2.1; omega
      refine r_exit rfl ?_
      refine cC ?_
      refine rS ?_
      refine rS ?_
      refine rR (id := 16) ?_
      refine oG (gM (evv rfl)) rfl rfl ?_
      refine oG (gM (evv rfl)) rfl rfl ?_
      refine oG (g_lenM (evv rfl)) rfl rfl ?_
      refine oG (g_bin (evv rfl) (evv rfl) (by rfl)) rfl rfl ?_
      refine oN ?_
      refine cC ?_
      refine r_cond rfl (fun hlt => ?_) (fun hlt => ?_) <;> (try simp only [decide_eq_true_eq, decide_eq_false_iff_not, Bool.and_eq_true, Bool.or_eq_true, Bool.not_eq_true', Bool.and_eq_false_iff, Bool.or_eq_false_iff, Bool.not_eq_false', Bool.not_eq_true, Bool.not_eq_false, Bool.true_eq_false, Bool.false_eq_true, Int.not_lt, Int.not_le, not_and, not_or, ne_eq] at hlt)
      · rw [if_pos (by omega)] at hT
        have hlk : (layT x k k).2.2.ok := (layT_fine (x := x) (k0 := k) (k := k) ⟨hkf, hkk⟩ hkf).2
        refine rS ?_
        refine rR (id := 17) ?_
        refine oG (gM (evv rfl)) rfl rfl ?_
        refine oG (gM (evv rfl)) rfl rfl ?_
        refine oG (g_nil (evv rfl)) rfl rfl ?_
        refine oG (g_fld (evv rfl)) rfl rfl ?_
        refine oG (g_loadF (evv rfl) (by rfl) (by rfl)) rfl rfl ?_
        refine o_call rfl _ (Lay.ent (L' := blk j ⟨.pointer (some ⟨p, 0, none⟩) :: kC k.view k.normal k.base k.state ve, 74⟩ :: pt p x :: rom ((ve, entR k.ents) :: pcR rs) :: blk q ⟨kC 0 0 0 [] (.slice none 0 0), 28⟩ :: F)) (Lay_c _ j p x k ve _ k.view k.normal k.base k.state k.ents ve hx hkk hkf hkf2 hk32 hst hs) rfl ?_
        rintro _ _ ⟨rfl, rfl⟩
        change Ops _ _ _ _ ((_, EV.v (Value.int IntKind.i64 (layT x k k).1)) :: _) (jr j (p, (layT x k k).2.2) :: pt p (layT x k k).2.1 :: _)
        have hK0 : (layT x k k).1 = 0 → (layT x k k).2.2 = k := fun h => by
          unfold layT at h ⊢
          split
          · rfl
          · split <;> rfl
        rcases hR : layT x k k with ⟨e, y, kk⟩
        rw [hR] at hT hlk hK0
        dsimp only at hT hlk hK0 ⊢
        refine oG (gA (evv rfl)) rfl rfl ?_
        refine oN ?_
        refine cC ?_
        refine rS ?_
        refine rR (id := 18) ?_
        refine oG (gM (evv rfl)) rfl rfl ?_
        refine oG (g_bin (evv rfl) (evv rfl) (by rfl)) rfl rfl ?_
        refine oN ?_
        refine cC ?_
        by_cases he : e = 0
        · obtain rfl := he
          obtain rfl := hK0 rfl
          rw [if_pos rfl] at hT
          rw [hT]
          refine r_cond_false rfl ?_
          refine r_skip ?_
          refine cC ?_
          refine rS ?_
          refine rR (id := 20) ?_
          refine oG (gM (evv rfl)) rfl rfl ?_
          refine oG (gM (evv rfl)) rfl rfl ?_
          (refine o_call rfl _ (PickR.ent (K := jr _)) (Kept_c _ _ _ _ (by assumption)) rfl ?_; rintro _ _ ⟨kv, rfl, rfl⟩)
          refine oG (gA (evv rfl)) rfl rfl ?_
          refine o_storeW (evv rfl) (evv rfl) (by first | rfl | assumption | exact LenC.h _ | (simp [bys, *]; done) | fail) (by first | (intro _ _ _; exact bys_one _) | exact AllOne.h | (intro _ _ _ u hu; simp at hu; rcases hu with rfl | rfl | rfl | rfl | rfl | rfl | rfl | rfl <;> rfl) | fail) (by first | rfl | exact (LenC.h _).trans rfl | exact (LenC.h _).trans (LenC.h _).symm | (simp [bys, *]; done) | (simp only [bys, List.length_map, *]; rfl) | fail) ?_
          refine oG (gA (evv rfl)) rfl rfl ?_
          refine oN ?_
          refine cC ?_
          first | refine r_retC (rs := [.tmp 2, .cell 3 28, .tmp 4]) rfl (ro_tmp rfl (by first | exact ro_agg rfl rfl (by first | rfl | exact LenC.h _ | (simp [bys, *]; done)) (ro_tmp rfl ro_nil) | exact ro_cell rfl rfl rfl (ro_tmp rfl ro_nil))) _ ((Lay.ent (L' := sl kv (entR kk.ents) :: jr j (p, kk) :: pt p y :: F))) ?_ | refine c_endC (rs := [.tmp 2, .cell 3 28, .tmp 4]) rfl (ro_tmp rfl (by first | exact ro_agg rfl rfl (by first | rfl | exact LenC.h _ | (simp [bys, *]; done)) (ro_tmp rfl ro_nil) | exact ro_cell rfl rfl rfl (ro_tmp rfl ro_nil))) _ ((Lay.ent (L' := sl kv (entR kk.ents) :: jr j (p, kk) :: pt p y :: F))) ?_
          exact .inl ⟨rfl, j, kv, rfl, rfl⟩
        · rw [if_neg he] at hT
          rw [hT]
          refine r_cond rfl (fun hg => ?_) (fun hg => ?_) <;> (try simp only [decide_eq_true_eq, decide_eq_false_iff_not, Bool.and_eq_true, Bool.or_eq_true, Bool.not_eq_true', Bool.and_eq_false_iff, Bool.or_eq_false_iff, Bool.not_eq_false', Bool.not_eq_true, Bool.not_eq_false, Bool.true_eq_false, Bool.false_eq_true, Int.not_lt, Int.not_le, not_and, not_or, ne_eq] at hg)
          · refine rS ?_
            refine rR (id := 19) ?_
            refine oG (v := agg [(Go.Value.int Go.IntKind.i64 0), (Go.Value.int Go.IntKind.i64 0), (Go.Value.int Go.IntKind.i64 0), (Go.Value.string { data := #[] }), (Go.Value.slice none 0 0)]) (g_buildC rfl (by rfl)) rfl rfl ?_
            refine oG (gM (evv rfl)) rfl rfl ?_
            refine oG (gA (evv rfl)) rfl rfl ?_
            refine o_storeW (evv rfl) (evv rfl) (by first | rfl | assumption | exact LenC.h _ | (simp [bys, *]; done) | fail) (by first | (intro _ _ _; exact bys_one _) | exact AllOne.h | (intro _ _ _ u hu; simp at hu; rcases hu with rfl | rfl | rfl | rfl | rfl | rfl | rfl | rfl <;> rfl) | fail) (by first | rfl | exact (LenC.h _).trans rfl | exact (LenC.h _).trans (LenC.h _).symm | (simp [bys, *]; done) | (simp only [bys, List.length_map, *]; rfl) | fail) ?_
            refine oG (gA (evv rfl)) rfl rfl ?_
            refine oN ?_
            refine cC ?_
            first | refine r_retC (rs := [.tmp 2, .cell 3 28, .tmp 4]) rfl (ro_tmp rfl (by first | exact ro_agg rfl rfl (by first | rfl | exact LenC.h _ | (simp [bys, *]; done)) (ro_tmp rfl ro_nil) | exact ro_cell rfl rfl rfl (ro_tmp rfl ro_nil))) _ ((Lay.ent (L' := pt p y :: F))) ?_ | refine c_endC (rs := [.tmp 2, .cell 3 28, .tmp 4]) rfl (ro_tmp rfl (by first | exact ro_agg rfl rfl (by first | rfl | exact LenC.h _ | (simp [bys, *]; done)) (ro_tmp rfl ro_nil) | exact ro_cell rfl rfl rfl (ro_tmp rfl ro_nil))) _ ((Lay.ent (L' := pt p y :: F))) ?_
            exact .inr ⟨he, rfl, rfl⟩
          · exact absurd hg he
      · rw [if_neg (by omega)] at hT
        rw [hT]
        refine r_ent (jr j (p, k) :: pt p x :: blk q ⟨kC 0 0 0 [] (.slice none 0 0), 28⟩ :: F) ((Lay.ent (L' := blk j ⟨.pointer (some ⟨p, 0, none⟩) :: kC k.view k.normal k.base k.state ve, 74⟩ :: rom ((ve, entR k.ents) :: pcR rs) :: pt p x :: blk q ⟨kC 0 0 0 [] (.slice none 0 0), 28⟩ :: F)).trans jr_shut) ?_
        refine r_skip ?_
        refine cC ?_
        refine rS ?_
        refine rR (id := 20) ?_
        refine oG (gM (evv rfl)) rfl rfl ?_
        refine oG (gM (evv rfl)) rfl rfl ?_
        (refine o_call rfl _ (PickR.ent (K := jr _)) (Kept_c _ _ _ _ (by assumption)) rfl ?_; rintro _ _ ⟨kv, rfl, rfl⟩)
        refine oG (gA (evv rfl)) rfl rfl ?_
        refine o_storeW (evv rfl) (evv rfl) (by first | rfl | assumption | exact LenC.h _ | (simp [bys, *]; done) | fail) (by first | (intro _ _ _; exact bys_one _) | exact AllOne.h | (intro _ _ _ u hu; simp at hu; rcases hu with rfl | rfl | rfl | rfl | rfl | rfl | rfl | rfl <;> rfl) | fail) (by first | rfl | exact (LenC.h _).trans rfl | exact (LenC.h _).trans (LenC.h _).symm | (simp [bys, *]; done) | (simp only [bys, List.length_map, *]; rfl) | fail) ?_
        refine oG (gA (evv rfl)) rfl rfl ?_
        refine oN ?_
        refine cC ?_
        first | refine r_retC (rs := [.tmp 2, .cell 3 28, .tmp 4]) rfl (ro_tmp rfl (by first | exact ro_agg rfl rfl (by first | rfl | exact LenC.h _ | (simp [bys, *]; done)) (ro_tmp rfl ro_nil) | exact ro_cell rfl rfl rfl (ro_tmp rfl ro_nil))) _ ((Lay.ent (L' := sl kv (entR k.ents) :: jr j (p, k) :: pt p x :: F))) ?_ | refine c_endC (rs := [.tmp 2, .cell 3 28, .tmp 4]) rfl (ro_tmp rfl (by first | exact ro_agg rfl rfl (by first | rfl | exact LenC.h _ | (simp [bys, *]; done)) (ro_tmp rfl ro_nil) | exact ro_cell rfl rfl rfl (ro_tmp rfl ro_nil))) _ ((Lay.ent (L' := sl kv (entR k.ents) :: jr j (p, k) :: pt p x :: F))) ?_
        exact .inl ⟨rfl, j, kv, rfl, rfl⟩
theorem Open_ok (F : List Atom) (p : Nat) (x : Pt) (k : KeptS) (y : Pt) (hx : x.ok) (hs : sizeP x + 262152 ≤ 1000000000) (ho : openT x = (0, y, k)) :
    Fn Try.prog 10 [.pointer (some ⟨p, 0, none⟩)] (pt p x :: F) fun w L' => ∃ j ve, w = openV 0 (.pointer (some ⟨j, 0, none⟩)) k ve ∧ L' = sl ve (entR k.ents) :: jr j (p, k) :: pt p y :: F := (Open_c F p x hx hs).mono fun v L' h => by
  rw [ho] at h
  rcases h with ⟨_, h⟩ | ⟨h, _⟩
  · exact h
  · exact absurd rfl h
end VK

namespace VK
open Go Go.Proofs
set_option linter.unusedSimpArgs false
set_option linter.unusedVariables false
set_option maxRecDepth 100000
set_option maxHeartbeats 40000000
theorem SameEntriesG_c (L : List Atom) (va vb : Value) (as1 bs : List EntS) [ra : Rd L va (entR as1)] [rb : Rd L vb (entR bs)] : Fn Try.prog 48 [va, vb] L fun w L' => w = .bool (decide (as1 = bs)) ∧ L' = L := by
  refine fn_lenF ra fun hlen => ?_
  have hlen : as1.length ≤ 2 ^ 63 - 1 := hlen
  refine fn_intro Try.func48 rfl Try.ntmps48 rfl (fun W0 => ?_)
  simp only [argE]
  refine rS ?_
  refine rR (id := 0) ?_
  refine oG (gA (evv rfl)) rfl rfl ?_
  refine oN ?_
  refine cC ?_
  refine rS ?_
  refine rS ?_
  refine rR (id := 1) ?_
  refine oG (gM (evv rfl)) rfl rfl ?_
  refine oG (g_lenF (evv rfl)) rfl rfl ?_
  refine oG (gM (evv rfl)) rfl rfl ?_
  refine oG (g_lenF (evv rfl)) rfl rfl ?_
  refine oG (g_bin (evv rfl) (evv rfl) (by rfl)) rfl rfl ?_
  refine oN ?_
  refine cC ?_
  refine r_cond rfl (fun hn => ?_) (fun hn => ?_) <;> (try simp only [decide_eq_true_eq, decide_eq_false_iff_not, Bool.and_eq_true, Bool.or_eq_true, Bool.not_eq_true', Bool.and_eq_false_iff, Bool.or_eq_false_iff, Bool.not_eq_false', Bool.not_eq_true, Bool.not_eq_false, Bool.true_eq_false, Bool.false_eq_true, Int.not_lt, Int.not_le, not_and, not_or, ne_eq] at hn)
  · rw [decide_eq_false (fun h : as1 = bs => hn (by rw [h]))]
    refine rS ?_
    refine rR (id := 2) ?_
    refine oG (gA (evv rfl)) rfl rfl ?_
    refine oN ?_
    refine cC ?_
    first | refine r_ret (rs := [.tmp 4]) rfl rfl _ (Ent.refl _) ?_ | refine c_end (rs := [.tmp 4]) rfl rfl _ (Ent.refl _) ?_
    exact ⟨rfl, rfl⟩
  · have hn : as1.length = bs.length := by omega
    refine r_skip ?_
    refine cC ?_
    refine rS ?_
    refine rS ?_
    refine rR (id := 3) ?_
    refine oG (gA (evv rfl)) rfl rfl ?_
    refine oN ?_
    refine cC ?_
    refine r_block ?_
    refine r_loopE (σ := Nat) (fun i => i ≤ as1.length ∧ as1.take i = bs.take i) (fun i => as1.length - i) (fun i => [(5, .v (.int .i64 i))]) [0, 1] (fun i => L) 0 (by dsimp only [pickE, pick1, lk2, Nat.reduceBEq, Nat.reduceAdd, Nat.zero_add, cond_true, cond_false] <;> exact rfl) ?_ (by repeat (first | exact trivial | refine ⟨rfl, ?_⟩ | refine envsub_v rfl (by first | rfl | (refine int_eq ?_; first | omega | (simp; omega) | (simp; done)) | (refine bool_eq ?_; first | (simp [*]; done) | (simp; done)) | (refine str_eq ?_; simp; done) | (refine ptr_eq ?_; omega) | fail) ?_)) ?_ ?_
    · exact ⟨Nat.zero_le _, rfl⟩
    · exact Ent.refl _
    rintro i ⟨hi, hI⟩; dsimp only [List.cons_append, List.nil_append]
    refine rS ?_
    refine rS ?_
    refine rR (id := 4) ?_
    refine oG (gM (evv rfl)) rfl rfl ?_
    refine oG (gM (evv rfl)) rfl rfl ?_
    refine oG (g_lenF (evv rfl)) rfl rfl ?_
    refine oG (g_bin (evv rfl) (evv rfl) (by rfl)) rfl rfl ?_
    refine oN ?_
    refine cC ?_
    refine r_cond rfl (fun hc => ?_) (fun hc => ?_) <;> (try simp only [decide_eq_true_eq, decide_eq_false_iff_not, Bool.and_eq_true, Bool.or_eq_true, Bool.not_eq_true', Bool.and_eq_false_iff, Bool.or_eq_false_iff, Bool.not_eq_false', Bool.not_eq_true, Bool.not_eq_false, Bool.true_eq_false, Bool.false_eq_true, Int.not_lt, Int.not_le, not_and, not_or, ne_eq] at hc)
    · have h1 : i < as1.length := by omega
      have h2 : i < bs.length := by omega
      have ga : as1.getD i default = as1[i] := by simp [h1]
      have gb : bs.getD i default = bs[i] := by simp [h2]
      refine r_skip ?_
      refine cC ?_
      refine rS ?_
      refine r_block ?_
      refine rS ?_
      refine r_quiet (id := 6) Mixed.h (by kernel_rfl) ?_
      refine q_give (gM (evv rfl)) rfl rfl ?_
      refine q_give (gM (evv rfl)) rfl rfl ?_
      refine q_give (g_idxFN (evv rfl) (evv rfl) (by rfl) (by rfl) (by first | omega | (have := of_decide_eq_true hg; omega) | (simp at hg; omega) | (simp only [List.length_set, List.length_append, List.length_cons, List.length_nil, List.length_map, List.length_take, List.length_drop, List.length_replicate]; omega))) rfl rfl ?_
      refine q_give (g_loadFr (evv rfl) (by rfl) (by first | (intro; rfl) | exact LenC.h) (by rfl) (by rfl) (by first | omega | (have := of_decide_eq_true hg; omega) | (simp at hg; omega) | (simp only [List.length_set, List.length_append, List.length_cons, List.length_nil, List.length_map, List.length_take, List.length_drop, List.length_replicate]; omega))) rfl rfl ?_
      refine q_give (gM (evv rfl)) rfl rfl ?_
      refine q_give (gM (evv rfl)) rfl rfl ?_
      refine q_give (g_idxFN (evv rfl) (evv rfl) (by rfl) (by rfl) (by first | omega | (have := of_decide_eq_true hg; omega) | (simp at hg; omega) | (simp only [List.length_set, List.length_append, List.length_cons, List.length_nil, List.length_map, List.length_take, List.length_drop, List.length_replicate]; omega))) rfl rfl ?_
      refine q_give (g_loadFr (evv rfl) (by rfl) (by first | (intro; rfl) | exact LenC.h) (by rfl) (by rfl) (by first | omega | (have := of_decide_eq_true hg; omega) | (simp at hg; omega) | (simp only [List.length_set, List.length_append, List.length_cons, List.length_nil, List.length_map, List.length_take, List.length_drop, List.length_replicate]; omega))) rfl rfl ?_
      refine q_give (g_eqS (by kernel_rfl) (evv rfl) (evv rfl) (by rfl)) rfl rfl ?_
      refine q_nil ?_
      refine cC ?_
      refine r_cond rfl (fun hne => ?_) (fun hne => ?_) <;> (try simp only [decide_eq_true_eq, decide_eq_false_iff_not, Bool.and_eq_true, Bool.or_eq_true, Bool.not_eq_true', Bool.and_eq_false_iff, Bool.or_eq_false_iff, Bool.not_eq_false', Bool.not_eq_true, Bool.not_eq_false, Bool.true_eq_false, Bool.false_eq_true, Int.not_lt, Int.not_le, not_and, not_or, ne_eq] at hne)
      · rw [decide_eq_false (fun h : as1 = bs => hne (by subst h; rfl))]
        refine rS ?_
        refine rR (id := 7) ?_
        refine oG (gA (evv rfl)) rfl rfl ?_
        refine oN ?_
        refine cC ?_
        first | refine r_ret (rs := [.tmp 4]) rfl rfl _ (Ent.refl _) ?_ | refine c_end (rs := [.tmp 4]) rfl rfl _ (Ent.refl _) ?_
        exact ⟨rfl, rfl⟩
      · have hne : as1.getD i default = bs.getD i default := by first | exact hne | exact Decidable.of_not_not hne
        refine r_skip ?_
        refine c_blk ?_
        refine cC ?_
        refine rR (id := 5) ?_
        refine oG (gM (evv rfl)) rfl rfl ?_
        refine o_giveN (g_bin (evv rfl) (evv rfl) (by rfl)) (by simp only [inR]; omega) rfl ?_
        refine oG (gA (evv rfl)) rfl rfl ?_
        refine oN ?_
        refine c_loop (i + 1) ?_ ?_ (by repeat (first | exact trivial | refine ⟨rfl, ?_⟩ | refine envsub_v rfl (by first | rfl | (refine int_eq ?_; first | omega | (simp; omega) | (simp; done)) | (refine bool_eq ?_; first | (simp [*]; done) | (simp; done)) | (refine str_eq ?_; simp; done) | (refine ptr_eq ?_; omega) | fail) ?_)) ?_ <;> (try dsimp only)
        · refine ⟨by omega, ?_⟩
          rw [List.take_succ_eq_append_getElem h1, List.take_succ_eq_append_getElem h2, hI, ← ga, ← gb, hne]
        · omega
        · exact Ent.refl _
    · obtain rfl : i = as1.length := by omega
      rw [List.take_length, hn, List.take_length] at hI
      rw [decide_eq_true hI]
      refine r_exit rfl ?_
      refine cC ?_
      refine rS ?_
      refine rR (id := 8) ?_
      refine oG (gA (evv rfl)) rfl rfl ?_
      refine oN ?_
      refine cC ?_
      first | refine r_ret (rs := [.tmp 4]) rfl rfl _ (Ent.refl _) ?_ | refine c_end (rs := [.tmp 4]) rfl rfl _ (Ent.refl _) ?_
      exact ⟨rfl, rfl⟩
theorem SameK_c (L : List Atom) (a b : KeptS) (va vb : Value) [ra : Rd L va (entR a.ents)] [rb : Rd L vb (entR b.ents)] : Fn Try.prog 15 [agg (kC a.view a.normal a.base a.state va), agg (kC b.view b.normal b.base b.state vb)] L fun w L' => w = .bool (decide (a = b)) ∧ L' = L := by
  obtain ⟨v1, n1, b1, s1, e1⟩ := a
  obtain ⟨v2, n2, b2, s2, e2⟩ := b
  dsimp only at ra rb ⊢
  have hiff : (⟨v1, n1, b1, s1, e1⟩ : KeptS) = ⟨v2, n2, b2, s2, e2⟩ ↔ (v1 = v2 ∧ n1 = n2 ∧ b1 = b2 ∧ s1 = s2) ∧ e1 = e2 := by simp [and_assoc]
  refine fn_intro Try.func15 rfl Try.ntmps15 rfl (fun W0 => ?_)
  simp only [argE]
  refine rS ?_
  refine rR (id := 0) ?_
  refine o_boxA (evv rfl) rfl (fun _ => ?_)
  refine o_boxA (evv rfl) rfl (fun _ => ?_)
  refine oG (gA (evv rfl)) rfl rfl ?_
  refine oN ?_
  refine cC ?_
  refine rS ?_
  refine rR (id := 1) ?_
  refine oG (g_fld (evv rfl)) rfl rfl ?_
  refine oG (g_load (evv rfl) (by rfl) (by rfl)) rfl rfl ?_
  refine oG (g_fld (evv rfl)) rfl rfl ?_
  refine oG (g_load (evv rfl) (by rfl) (by rfl)) rfl rfl ?_
  refine oG (g_bin (evv rfl) (evv rfl) (by rfl)) rfl rfl ?_
  refine oG (gM (evv rfl)) rfl rfl ?_
  refine o_lazy rfl (fun hg => g_fld (evv rfl)) rfl rfl ?_
  refine o_lazy rfl (fun hg => g_load (evg rfl hg) (by rfl) (by rfl)) rfl rfl ?_
  refine o_lazy rfl (fun hg => g_fld (evv rfl)) rfl rfl ?_
  refine o_lazy rfl (fun hg => g_load (evg rfl hg) (by rfl) (by rfl)) rfl rfl ?_
  refine o_lazy rfl (fun hg => g_bin (by first | exact evv rfl | exact evg rfl (by rw [hp]; rfl) | exact evg rfl hp | exact evg rfl hg | exact evg rfl (by first | (simp_all; done) | (simp [*]; done) | fail) | fail) (by first | exact evv rfl | exact evg rfl (by rw [hp]; rfl) | exact evg rfl hp | exact evg rfl hg | exact evg rfl (by first | (simp_all; done) | (simp [*]; done) | fail) | fail) (by rfl)) rfl rfl ?_
  refine oG (g_pick_and (evv rfl) (evv rfl) (fun hp => (by first | exact evv rfl | exact evg rfl (by rw [hp]; rfl) | exact evg rfl hp | exact evg rfl hg | exact evg rfl (by first | (simp_all; done) | (simp [*]; done) | fail) | fail))) rfl rfl ?_
  refine oG (gM (evv rfl)) rfl rfl ?_
  refine o_lazy rfl (fun hg => g_fld (evv rfl)) rfl rfl ?_
  refine o_lazy rfl (fun hg => g_load (evg rfl hg) (by rfl) (by rfl)) rfl rfl ?_
  refine o_lazy rfl (fun hg => g_fld (evv rfl)) rfl rfl ?_
  refine o_lazy rfl (fun hg => g_load (evg rfl hg) (by rfl) (by rfl)) rfl rfl ?_
  refine o_lazy rfl (fun hg => g_bin (by first | exact evv rfl | exact evg rfl (by rw [hp]; rfl) | exact evg rfl hp | exact evg rfl hg | exact evg rfl (by first | (simp_all; done) | (simp [*]; done) | fail) | fail) (by first | exact evv rfl | exact evg rfl (by rw [hp]; rfl) | exact evg rfl hp | exact evg rfl hg | exact evg rfl (by first | (simp_all; done) | (simp [*]; done) | fail) | fail) (by rfl)) rfl rfl ?_
  refine oG (g_pick_and (evv rfl) (evv rfl) (fun hp => (by first | exact evv rfl | exact evg rfl (by rw [hp]; rfl) | exact evg rfl hp | exact evg rfl hg | exact evg rfl (by first | (simp_all; done) | (simp [*]; done) | fail) | fail))) rfl rfl ?_
  refine oG (gM (evv rfl)) rfl rfl ?_
  refine o_lazy rfl (fun hg => g_fld (evv rfl)) rfl rfl ?_
  refine o_lazy rfl (fun hg => g_load (evg rfl hg) (by rfl) (by rfl)) rfl rfl ?_
  refine o_lazy rfl (fun hg => g_fld (evv rfl)) rfl rfl ?_
  refine o_lazy rfl (fun hg => g_load (evg rfl hg) (by rfl) (by rfl)) rfl rfl ?_
  refine o_lazy rfl (fun hg => g_binS (by first | exact evv rfl | exact evg rfl (by rw [hp]; rfl) | exact evg rfl hp | exact evg rfl hg | exact evg rfl (by first | (simp_all; done) | (simp [*]; done) | fail) | fail) (by first | exact evv rfl | exact evg rfl (by rw [hp]; rfl) | exact evg rfl hp | exact evg rfl hg | exact evg rfl (by first | (simp_all; done) | (simp [*]; done) | fail) | fail) (by rfl)) rfl rfl ?_
  refine oG (g_pick_and (evv rfl) (evv rfl) (fun hp => (by first | exact evv rfl | exact evg rfl (by rw [hp]; rfl) | exact evg rfl hp | exact evg rfl hg | exact evg rfl (by first | (simp_all; done) | (simp [*]; done) | fail) | fail))) rfl rfl ?_
  refine oG (gM (evv rfl)) rfl rfl ?_
  refine o_lazy rfl (fun hg => g_fld (evv rfl)) rfl rfl ?_
  refine o_lazy rfl (fun hg => g_load (evg rfl hg) (by rfl) (by rfl)) rfl rfl ?_
  refine o_lazy rfl (fun hg => g_fld (evv rfl)) rfl rfl ?_
  refine o_lazy rfl (fun hg => g_load (evg rfl hg) (by rfl) (by rfl)) rfl rfl ?_
  by_cases h : v1 = v2 ∧ n1 = n2 ∧ b1 = b2 ∧ s1 = s2
  · obtain ⟨rfl, rfl, rfl, rfl⟩ := h
    simp only [decide_true, Bool.and_self]
    refine o_sure (t := 33) rfl rfl ?_
    refine o_sure (t := 35) rfl rfl ?_
    refine o_gyes rfl ?_
    refine o_call rfl _ (Ent.refl _) (SameEntriesG_c _ _ _ e1 e2) rfl ?_
    rintro _ _ ⟨rfl, hLz⟩
    obtain rfl := hLz.symm
    clear hLz
    refine oG (g_pick (b := true) (evv rfl) (fun _ => (evv rfl)) (fun h => by cases h)) rfl rfl ?_
    refine oG (gA (evv rfl)) rfl rfl ?_
    refine oN ?_
    refine cC ?_
    skip
    first | refine r_ret (rs := [.tmp 4]) rfl rfl _ ((Lay.ent (L' := L))) ?_ | refine c_end (rs := [.tmp 4]) rfl rfl _ ((Lay.ent (L' := L))) ?_
    refine ⟨?_, rfl⟩
    exact bool_eq (by simp)
  · have hd : (decide (v1 = v2) && decide (n1 = n2) && decide (b1 = b2) && decide (s1 = s2)) = false := by
      rw [Bool.eq_false_iff]
      intro h2
      simp only [Bool.and_eq_true, decide_eq_true_eq] at h2
      exact h ⟨h2.1.1.1, h2.1.1.2, h2.1.2, h2.2⟩
    simp only [hd]
    refine o_lazy (v0 := undef) rfl (fun hg => absurd hg (by first | (simp; done) | fail)) rfl rfl ?_
    refine oG (g_pick (b := false) (evv rfl) (fun h => by cases h) (fun _ => (evv rfl))) rfl rfl ?_
    refine oG (gA (evv rfl)) rfl rfl ?_
    refine oN ?_
    refine cC ?_
    skip
    first | refine r_ret (rs := [.tmp 4]) rfl rfl _ ((Lay.ent (L' := L))) ?_ | refine c_end (rs := [.tmp 4]) rfl rfl _ ((Lay.ent (L' := L))) ?_
    refine ⟨?_, rfl⟩
    exact bool_eq (decide_eq_false (fun q => h (hiff.1 q).1)).symm
instance (a : EntS) (v : Int) : SetF entC a 0 (.int .i64 v) { a with client := v } := ⟨rfl⟩
abbrev cl99 (e : EntS) : EntS := { e with client := -99 }
class RdA (L : List Atom) (a : ActJ) : Prop where
  e : Rd L a.ve (entR a.es)
  k : Rd L a.kv (mrow i64v 3 a.ks)
instance {L : List Atom} {a : ActJ} [h : RdA L a] : Rd L a.ve (entR a.es) := h.e
instance {L : List Atom} {a : ActJ} [h : RdA L a] : Rd L a.kv (mrow i64v 3 a.ks) := h.k
instance (priority := low) {A : Atom} {L : List Atom} {a : ActJ} [h : RdA L a] : RdA (A :: L) a := ⟨h.e.ent Ent.drop, h.k.ent Ent.drop⟩
theorem jfirst_c (L : List Atom) (a : ActJ) [rd : RdA L a] : Fn Try.prog 35 [agg (actC a)] L fun w L' => w = agg (entC a.e) ∧ L' = L := by
  have re := rd.e
  have rk := rd.k
  obtain ⟨kind, view, from_, kview, knormal, kbase, kstate, ve, es, fail, kv, ks⟩ := a
  dsimp only at re rk
  refine fn_intro Try.func35 rfl Try.ntmps35 rfl (fun W0 => ?_)
  simp only [argE]
  refine rS ?_
  refine rR (id := 0) ?_
  refine o_boxA (evv rfl) rfl (fun _ => ?_)
  refine o_alloc rfl rfl (fun _ => ?_)
  refine oN ?_
  refine cC ?_
  refine rS ?_
  refine rS ?_
  refine rR (id := 1) ?_
  refine oG (g_fld (evv rfl)) rfl rfl ?_
  refine oG (g_fld (evv rfl)) rfl rfl ?_
  refine oG (g_load (evv rfl) (by rfl) (by rfl)) rfl rfl ?_
  refine oG (g_lenF (evv rfl)) rfl rfl ?_
  refine oG (g_bin (evv rfl) (evv rfl) (by rfl)) rfl rfl ?_
  refine oN ?_
  refine cC ?_
  refine r_cond rfl (fun h0 => ?_) (fun h0 => ?_) <;> (try simp only [decide_eq_true_eq, decide_eq_false_iff_not, Bool.and_eq_true, Bool.or_eq_true, Bool.not_eq_true', Bool.and_eq_false_iff, Bool.or_eq_false_iff, Bool.not_eq_false', Bool.not_eq_true, Bool.not_eq_false, Bool.true_eq_false, Bool.false_eq_true, Int.not_lt, Int.not_le, not_and, not_or, ne_eq] at h0)
  · obtain rfl : es = [] := List.eq_nil_of_length_eq_zero (by omega)
    refine rS ?_
    refine rR (id := 2) ?_
    refine oG (v := agg [(Go.Value.int Go.IntKind.i64 0), (Go.Value.int Go.IntKind.i64 0), (Go.Value.int Go.IntKind.i64 0), (Go.Value.string { data := #[] }), (Go.Value.string { data := #[] }), (Go.Value.string { data := #[] }), (Go.Value.int Go.IntKind.i64 0), (Go.Value.int Go.IntKind.i64 0)]) (g_buildC rfl (by rfl)) rfl rfl ?_
    refine o_storeW (evv rfl) (evv rfl) (by first | rfl | assumption | exact LenC.h _ | (simp [bys, *]; done) | fail) (by first | (intro _ _ _; exact bys_one _) | exact AllOne.h | (intro _ _ _ u hu; simp at hu; rcases hu with rfl | rfl | rfl | rfl | rfl | rfl | rfl | rfl <;> rfl) | fail) (by first | rfl | exact (LenC.h _).trans rfl | exact (LenC.h _).trans (LenC.h _).symm | (simp [bys, *]; done) | (simp only [bys, List.length_map, *]; rfl) | fail) ?_
    refine oN ?_
    refine cC ?_
    first | refine r_retC (rs := [.cell 2 50]) rfl (by first | exact ro_agg rfl rfl (by first | rfl | exact LenC.h _ | (simp [bys, *]; done)) ro_nil | exact ro_cell rfl rfl rfl ro_nil) _ ((Lay.ent (L' := L))) ?_ | refine c_endC (rs := [.cell 2 50]) rfl (by first | exact ro_agg rfl rfl (by first | rfl | exact LenC.h _ | (simp [bys, *]; done)) ro_nil | exact ro_cell rfl rfl rfl ro_nil) _ ((Lay.ent (L' := L))) ?_
    exact ⟨rfl, rfl⟩
  · refine r_skip ?_
    refine cC ?_
    refine rS ?_
    refine rR (id := 3) ?_
    refine oG (g_fld (evv rfl)) rfl rfl ?_
    refine oG (g_fld (evv rfl)) rfl rfl ?_
    refine oG (g_load (evv rfl) (by rfl) (by rfl)) rfl rfl ?_
    refine oG (g_idxFN (evv rfl) (evv rfl) (by rfl) (by rfl) (by first | omega | (have := of_decide_eq_true hg; omega) | (simp at hg; omega) | (simp only [List.length_set, List.length_append, List.length_cons, List.length_nil, List.length_map, List.length_take, List.length_drop, List.length_replicate]; omega))) rfl rfl ?_
    refine oG (g_loadFr (evv rfl) (by rfl) (by first | (intro; rfl) | exact LenC.h) (by rfl) (by rfl) (by first | omega | (have := of_decide_eq_true hg; omega) | (simp at hg; omega) | (simp only [List.length_set, List.length_append, List.length_cons, List.length_nil, List.length_map, List.length_take, List.length_drop, List.length_replicate]; omega))) rfl rfl ?_
    refine o_storeW (evv rfl) (evv rfl) (by first | rfl | assumption | exact LenC.h _ | (simp [bys, *]; done) | fail) (by first | (intro _ _ _; exact bys_one _) | exact AllOne.h | (intro _ _ _ u hu; simp at hu; rcases hu with rfl | rfl | rfl | rfl | rfl | rfl | rfl | rfl <;> rfl) | fail) (by first | rfl | exact (LenC.h _).trans rfl | exact (LenC.h _).trans (LenC.h _).symm | (simp [bys, *]; done) | (simp only [bys, List.length_map, *]; rfl) | fail) ?_
    refine oN ?_
    refine cC ?_
    first | refine r_retC (rs := [.cell 2 50]) rfl (by first | exact ro_agg rfl rfl (by first | rfl | exact LenC.h _ | (simp [bys, *]; done)) ro_nil | exact ro_cell rfl rfl rfl ro_nil) _ ((Lay.ent (L' := L))) ?_ | refine c_endC (rs := [.cell 2 50]) rfl (by first | exact ro_agg rfl rfl (by first | rfl | exact LenC.h _ | (simp [bys, *]; done)) ro_nil | exact ro_cell rfl rfl rfl ro_nil) _ ((Lay.ent (L' := L))) ?_
    exact ⟨rfl, rfl⟩
theorem jdo_c (F : List Atom) (j p : Nat) (x : Pt) (k : KeptS) (a : ActJ) [rd : RdA F a] (hx : x.ok) (hk : k.ok) (hf : k.fine) (ha : a.ok) (hs : sizeP x + 262152 ≤ 1000000000) :
    Fn Try.prog 12 [.pointer (some ⟨j, 0, none⟩), agg (actC a)] (jr j (p, k) :: pt p x :: F) fun w L' => w = .int .i64 (doJ x k a).1 ∧ L' = jr j (p, (doJ x k a).2.2) :: pt p (doJ x k a).2.1 :: F := by
  have re := rd.e
  have rk := rd.k
  have hae := ha.e
  have hav := ha.v
  have haf := ha.f
  have has := ha.es
  have hn := ha.n
  have hst := ha.st
  haveI rd' : ∀ A B, RdA (A :: B :: F) a := fun A B => inferInstance
  refine fn_intro Try.func12 rfl Try.ntmps12 rfl (fun W0 => ?_)
  simp only [argE]
  have hk5 : a.kind % 18446744073709551616 % 6 = a.q := rfl
  refine rS ?_
  refine rR (id := 0) ?_
  refine o_boxA (evv rfl) rfl (fun _ => ?_)
  refine oG (gA (evv rfl)) rfl rfl ?_
  refine oN ?_
  refine cC ?_
  refine rS ?_
  refine rS ?_
  refine rR (id := 1) ?_
  refine oG (g_fld (evv rfl)) rfl rfl ?_
  refine oG (g_load (evv rfl) (by rfl) (by rfl)) rfl rfl ?_
  refine o_giveU (g_conv TyU.h TyU.h (evv rfl)) (by rfl) rfl ?_
  refine oG (g_remP (evv rfl) (evv rfl) (by omega) (by omega)) rfl rfl ?_
  refine oN ?_
  refine cC ?_
  refine r_block ?_
  refine rS ?_
  rw [hk5]
  rename_i b
  generalize hkc : a.q = kc
  have hkr : 0 ≤ kc ∧ kc < 6 := by rw [← hkc]; unfold ActJ.q; omega
  rcases (by omega : kc = 0 ∨ kc = 1 ∨ kc = 2 ∨ kc = 3 ∨ kc = 4 ∨ kc = 5) with rfl | rfl | rfl | rfl | rfl | rfl
  · have hD : doJ x k a = viewT x k a.view := if_pos hkc
    rw [hD]
    refine rR (id := 2) ?_
    refine oG (g_bin (evv rfl) (evv rfl) (by rfl)) rfl rfl ?_
    refine oG (gA (evv rfl)) rfl rfl ?_
    refine oN ?_
    refine cC ?_
    refine r_cond_true rfl ?_
    refine rS ?_
    refine rR (id := 3) ?_
    refine oG (gM (evv rfl)) rfl rfl ?_
    refine oG (g_fld (evv rfl)) rfl rfl ?_
    refine oG (g_load (evv rfl) (by rfl) (by rfl)) rfl rfl ?_
    (refine o_call rfl _ (pick2 (K1 := jr _) (K2 := pt _)) (View_c _ _ _ _ _ _ (by assumption) (by assumption) (by assumption) (by first | assumption | omega)) rfl ?_; rintro _ _ ⟨rfl, rfl⟩)
    refine oG (gA (evv rfl)) rfl rfl ?_
    refine oN ?_
    refine cC ?_
    first | refine r_ret (rs := [.tmp 4]) rfl rfl _ ((Lay.ent (L' := jr j (p, (viewT x k a.view).2.2) :: pt p (viewT x k a.view).2.1 :: F))) ?_ | refine c_end (rs := [.tmp 4]) rfl rfl _ ((Lay.ent (L' := jr j (p, (viewT x k a.view).2.2) :: pt p (viewT x k a.view).2.1 :: F))) ?_
    exact ⟨rfl, rfl⟩
  · have hD : doJ x k a = entT x k a.e := by unfold doJ; rw [hkc, if_neg (by decide), if_pos rfl]
    rw [hD]
    refine rR (id := 2) ?_
    refine oG (g_bin (evv rfl) (evv rfl) (by rfl)) rfl rfl ?_
    refine oG (gA (evv rfl)) rfl rfl ?_
    refine oN ?_
    refine cC ?_
    refine r_cond_false rfl ?_
    refine rS ?_
    refine rR (id := 4) ?_
    refine oG (g_bin (evv rfl) (evv rfl) (by rfl)) rfl rfl ?_
    refine oG (gA (evv rfl)) rfl rfl ?_
    refine oN ?_
    refine cC ?_
    refine r_cond_true rfl ?_
    refine rS ?_
    refine rR (id := 5) ?_
    refine oG (gM (evv rfl)) rfl rfl ?_
    refine oG (g_loadF (evv rfl) (by rfl) (by rfl)) rfl rfl ?_
    (refine o_call rfl _ (Ent.refl _) (jfirst_c _ _) rfl ?_; rintro _ _ ⟨rfl, hLz⟩; obtain rfl := hLz.symm; clear hLz)
    (refine o_call rfl _ (pick2 (K1 := jr _) (K2 := pt _)) (Entry_c _ _ _ _ _ _ (by assumption) (by assumption) (by assumption) (by assumption) (by first | assumption | omega)) rfl ?_; rintro _ _ ⟨rfl, rfl⟩)
    refine oG (gA (evv rfl)) rfl rfl ?_
    refine oN ?_
    refine cC ?_
    first | refine r_ret (rs := [.tmp 4]) rfl rfl _ ((Lay.ent (L' := jr j (p, (entT x k a.e).2.2) :: pt p (entT x k a.e).2.1 :: F))) ?_ | refine c_end (rs := [.tmp 4]) rfl rfl _ ((Lay.ent (L' := jr j (p, (entT x k a.e).2.2) :: pt p (entT x k a.e).2.1 :: F))) ?_
    exact ⟨rfl, rfl⟩
  · have hD : doJ x k a = adoT x k a.view a.from_ a.es := by unfold doJ; rw [hkc, if_neg (by decide), if_neg (by decide), if_pos rfl]
    rw [hD]
    refine rR (id := 2) ?_
    refine oG (g_bin (evv rfl) (evv rfl) (by rfl)) rfl rfl ?_
    refine oG (gA (evv rfl)) rfl rfl ?_
    refine oN ?_
    refine cC ?_
    refine r_cond_false rfl ?_
    refine rS ?_
    refine rR (id := 4) ?_
    refine oG (g_bin (evv rfl) (evv rfl) (by rfl)) rfl rfl ?_
    refine oG (gA (evv rfl)) rfl rfl ?_
    refine oN ?_
    refine cC ?_
    refine r_cond_false rfl ?_
    refine rS ?_
    refine rR (id := 6) ?_
    refine oG (g_bin (evv rfl) (evv rfl) (by rfl)) rfl rfl ?_
    refine oG (gA (evv rfl)) rfl rfl ?_
    refine oN ?_
    refine cC ?_
    refine r_cond_true rfl ?_
    refine rS ?_
    refine rR (id := 7) ?_
    refine o_lit0S (by rfl) rfl (fun _ => ?_)
    refine oG (g_fld (evv rfl)) rfl rfl ?_
    refine oG (g_fld (evv rfl)) rfl rfl ?_
    refine oG (g_load (evv rfl) (by rfl) (by rfl)) rfl rfl ?_
    refine o_appF (evv rfl) (evv rfl) (by rfl) (by rfl) (by rfl) (by (try simp only [bsOf, List.length_append, List.length_cons, List.length_nil, List.length_take, List.length_drop, List.length_drop, List.length_map, List.length_range]); omega) rfl (fun _ => ?_)
    refine oG (gA (evv rfl)) rfl rfl ?_
    refine oN ?_
    refine cC ?_
    refine rS ?_
    refine rR (id := 8) ?_
    refine oG (gM (evv rfl)) rfl rfl ?_
    refine oG (g_fld (evv rfl)) rfl rfl ?_
    refine oG (g_load (evv rfl) (by rfl) (by rfl)) rfl rfl ?_
    refine oG (g_fld (evv rfl)) rfl rfl ?_
    refine oG (g_load (evv rfl) (by rfl) (by rfl)) rfl rfl ?_
    refine oG (gM (evv rfl)) rfl rfl ?_
    (refine o_call rfl _ (pick2 (K1 := jr _) (K2 := pt _)) (Adopt_c _ _ _ _ _ _ _ _ _ (by assumption) (by assumption) (by assumption) (by assumption) (by first | assumption | omega) (by first | assumption | omega) (by assumption) (by assumption)) rfl ?_; rintro _ _ ⟨rfl, rfl⟩)
    refine oG (gA (evv rfl)) rfl rfl ?_
    refine oN ?_
    refine cC ?_
    refine rS ?_
    refine rS ?_
    refine rR (id := 9) ?_
    refine oG (gA (evv rfl)) rfl rfl ?_
    refine oN ?_
    refine cC ?_
    refine r_block ?_
    rename_i v0 v1
    simp only [List.nil_append]
    refine r_loopE (σ := Nat × List EntS) (fun ⟨i, l⟩ => i ≤ a.es.length ∧ l.length = a.es.length) (fun ⟨i, l⟩ => a.es.length - i) (fun ⟨i, l⟩ => [(7, .v (.int .i64 i))]) [0, 3, 5, 6, 14] (fun ⟨i, l⟩ => sl v1 (entR l) :: jr j (p, (adoT x k a.view a.from_ a.es).2.2) :: pt p (adoT x k a.view a.from_ a.es).2.1 :: F) (0, a.es) (by dsimp only [pickE, pick1, lk2, Nat.reduceBEq, Nat.reduceAdd, Nat.zero_add, cond_true, cond_false] <;> exact rfl) ?_ (by repeat (first | exact trivial | refine ⟨rfl, ?_⟩ | refine envsub_v rfl (by first | rfl | (refine int_eq ?_; first | omega | (simp; omega) | (simp; done)) | (refine bool_eq ?_; first | (simp [*]; done) | (simp; done)) | (refine str_eq ?_; simp; done) | (refine ptr_eq ?_; omega) | fail) ?_)) ?_ ?_
    · exact ⟨Nat.zero_le _, rfl⟩
    · exact Lay.ent
    rintro ⟨i, l⟩ ⟨hi, hll⟩; dsimp only [List.cons_append, List.nil_append]
    refine rS ?_
    refine rS ?_
    refine rR (id := 10) ?_
    refine oG (gM (evv rfl)) rfl rfl ?_
    refine oG (gM (evv rfl)) rfl rfl ?_
    refine oG (g_lenF (evv rfl)) rfl rfl ?_
    refine oG (g_bin (evv rfl) (evv rfl) (by rfl)) rfl rfl ?_
    refine oN ?_
    refine cC ?_
    refine r_cond rfl (fun hc => ?_) (fun hc => ?_) <;> (try simp only [decide_eq_true_eq, decide_eq_false_iff_not, Bool.and_eq_true, Bool.or_eq_true, Bool.not_eq_true', Bool.and_eq_false_iff, Bool.or_eq_false_iff, Bool.not_eq_false', Bool.not_eq_true, Bool.not_eq_false, Bool.true_eq_false, Bool.false_eq_true, Int.not_lt, Int.not_le, not_and, not_or, ne_eq] at hc)
    · have hi2 : i < l.length := by omega
      refine r_skip ?_
      refine cC ?_
      refine rS ?_
      refine r_block ?_
      refine rR (id := 12) ?_
      refine oG (gM (evv rfl)) rfl rfl ?_
      refine oG (gM (evv rfl)) rfl rfl ?_
      refine oG (g_idxFN (evv rfl) (evv rfl) (by rfl) (by rfl) (by first | omega | (have := of_decide_eq_true hg; omega) | (simp at hg; omega) | (simp only [List.length_set, List.length_append, List.length_cons, List.length_nil, List.length_map, List.length_take, List.length_drop, List.length_replicate]; omega))) rfl rfl ?_
      refine oG (g_fldE (evv rfl) (by first | (simp only [frow, mrow]; omega) | (simp only [frow, mrow, List.length_set, List.length_append, List.length_cons]; omega) | fail) (by first | exact Nat.succ_pos _ | decide)) rfl rfl ?_
      refine o_storeFld (evv rfl) (evv rfl) (by rfl) (by first | (intro; rfl) | exact LenC.h) (by first | omega | (have := of_decide_eq_true hg; omega) | (simp at hg; omega) | (simp only [List.length_set, List.length_append, List.length_cons, List.length_nil, List.length_map, List.length_take, List.length_drop, List.length_replicate]; omega)) (by rfl) ?_
      refine oN ?_
      refine c_blk ?_
      refine cC ?_
      refine rR (id := 11) ?_
      refine oG (gM (evv rfl)) rfl rfl ?_
      refine o_giveN (g_bin (evv rfl) (evv rfl) (by rfl)) (by simp only [inR]; omega) rfl ?_
      refine oG (gA (evv rfl)) rfl rfl ?_
      refine oN ?_
      refine c_loop (i + 1, l.set i (cl99 (l.getD i default))) ?_ ?_ (by repeat (first | exact trivial | refine ⟨rfl, ?_⟩ | refine envsub_v rfl (by first | rfl | (refine int_eq ?_; first | omega | (simp; omega) | (simp; done)) | (refine bool_eq ?_; first | (simp [*]; done) | (simp; done)) | (refine str_eq ?_; simp; done) | (refine ptr_eq ?_; omega) | fail) ?_)) ?_ <;> (try dsimp only)
      · exact ⟨by omega, by simpa using hll⟩
      · omega
      · exact Ent.refl _
    · refine r_exit rfl ?_
      refine cC ?_
      refine rS ?_
      refine rR (id := 13) ?_
      refine oG (gM (evv rfl)) rfl rfl ?_
      refine oG (gA (evv rfl)) rfl rfl ?_
      refine oN ?_
      refine cC ?_
      first | refine r_ret (rs := [.tmp 4]) rfl rfl _ ((Lay.ent (L' := jr j (p, (adoT x k a.view a.from_ a.es).2.2) :: pt p (adoT x k a.view a.from_ a.es).2.1 :: F))) ?_ | refine c_end (rs := [.tmp 4]) rfl rfl _ ((Lay.ent (L' := jr j (p, (adoT x k a.view a.from_ a.es).2.2) :: pt p (adoT x k a.view a.from_ a.es).2.1 :: F))) ?_
      exact ⟨rfl, rfl⟩
  · have hD : doJ x k a = layT x k a.k := by unfold doJ; rw [hkc, if_neg (by decide), if_neg (by decide), if_neg (by decide), if_pos rfl]
    rw [hD]
    refine rR (id := 2) ?_
    refine oG (g_bin (evv rfl) (evv rfl) (by rfl)) rfl rfl ?_
    refine oG (gA (evv rfl)) rfl rfl ?_
    refine oN ?_
    refine cC ?_
    refine r_cond_false rfl ?_
    refine rS ?_
    refine rR (id := 4) ?_
    refine oG (g_bin (evv rfl) (evv rfl) (by rfl)) rfl rfl ?_
    refine oG (gA (evv rfl)) rfl rfl ?_
    refine oN ?_
    refine cC ?_
    refine r_cond_false rfl ?_
    refine rS ?_
    refine rR (id := 6) ?_
    refine oG (g_bin (evv rfl) (evv rfl) (by rfl)) rfl rfl ?_
    refine oG (gA (evv rfl)) rfl rfl ?_
    refine oN ?_
    refine cC ?_
    refine r_cond_false rfl ?_
    refine rS ?_
    refine rR (id := 14) ?_
    refine oG (g_bin (evv rfl) (evv rfl) (by rfl)) rfl rfl ?_
    refine oG (gA (evv rfl)) rfl rfl ?_
    refine oN ?_
    refine cC ?_
    refine r_cond_true rfl ?_
    refine rS ?_
    refine rR (id := 15) ?_
    refine oG (g_fld (evv rfl)) rfl rfl ?_
    refine oG (g_loadF (evv rfl) (by rfl) (by rfl)) rfl rfl ?_
    refine o_alloc rfl rfl (fun _ => ?_)
    refine o_storeW (evv rfl) (evv rfl) (by first | rfl | assumption | exact LenC.h _ | (simp [bys, *]; done) | fail) (by first | (intro _ _ _; exact bys_one _) | exact AllOne.h | (intro _ _ _ u hu; simp at hu; rcases hu with rfl | rfl | rfl | rfl | rfl | rfl | rfl | rfl <;> rfl) | fail) (by first | rfl | exact (LenC.h _).trans rfl | exact (LenC.h _).trans (LenC.h _).symm | (simp [bys, *]; done) | (simp only [bys, List.length_map, *]; rfl) | fail) ?_
    refine oN ?_
    refine cC ?_
    refine rS ?_
    refine rR (id := 16) ?_
    refine o_lit0S (by rfl) rfl (fun _ => ?_)
    refine oG (g_fld (evv rfl)) rfl rfl ?_
    refine oG (g_fld (evv rfl)) rfl rfl ?_
    refine oG (g_load (evv rfl) (by rfl) (by rfl)) rfl rfl ?_
    refine o_appF (evv rfl) (evv rfl) (by rfl) (by rfl) (by rfl) (by (try simp only [bsOf, List.length_append, List.length_cons, List.length_nil, List.length_take, List.length_drop, List.length_drop, List.length_map, List.length_range]); omega) rfl (fun _ => ?_)
    refine oG (g_fld (evv rfl)) rfl rfl ?_
    refine o_store1 (evv rfl) (evv rfl) (by rfl) (by rfl) (by rfl) ?_
    refine oN ?_
    refine cC ?_
    refine rS ?_
    refine rR (id := 17) ?_
    refine oG (gM (evv rfl)) rfl rfl ?_
    refine oG (g_loadF (evv rfl) (by rfl) (by rfl)) rfl rfl ?_
    (refine o_call rfl _ (pick2 (K1 := jr _) (K2 := pt _)) (LayC_c _ _ _ _ _ _ _ _ _ _ _ (by assumption) (by assumption) (by assumption) (by assumption) (by first | assumption | omega) (by first | assumption | omega) (by first | assumption | omega)) rfl ?_; rintro _ _ ⟨rfl, rfl⟩)
    refine oG (gA (evv rfl)) rfl rfl ?_
    refine oN ?_
    refine cC ?_
    refine rS ?_
    refine rS ?_
    refine rR (id := 18) ?_
    refine oG (gA (evv rfl)) rfl rfl ?_
    refine oN ?_
    refine cC ?_
    refine r_block ?_
    rename_i c v0 v1
    simp only [List.nil_append]
    rw [show (⟨a.kview, a.knormal, a.kbase, a.kstate, a.es⟩ : KeptS) = a.k from rfl]
    refine r_loopE (σ := Nat × List EntS) (fun ⟨i, l⟩ => i ≤ a.es.length ∧ l.length = a.es.length) (fun ⟨i, l⟩ => a.es.length - i) (fun ⟨i, l⟩ => [(10, .v (.int .i64 i))]) [8, 9] (fun ⟨i, l⟩ => sl v1 (entR l) :: blk c ⟨[.int .i64 a.kview, .int .i64 a.knormal, .int .i64 a.kbase, str a.kstate, v1], 28⟩ :: jr j (p, (layT x k a.k).2.2) :: pt p (layT x k a.k).2.1 :: F) (0, a.es) (by dsimp only [pickE, pick1, lk2, Nat.reduceBEq, Nat.reduceAdd, Nat.zero_add, cond_true, cond_false] <;> exact rfl) ?_ (by repeat (first | exact trivial | refine ⟨rfl, ?_⟩ | refine envsub_v rfl (by first | rfl | (refine int_eq ?_; first | omega | (simp; omega) | (simp; done)) | (refine bool_eq ?_; first | (simp [*]; done) | (simp; done)) | (refine str_eq ?_; simp; done) | (refine ptr_eq ?_; omega) | fail) ?_)) ?_ ?_
    · exact ⟨Nat.zero_le _, rfl⟩
    · exact Lay.ent
    rintro ⟨i, l⟩ ⟨hi, hll⟩; dsimp only [List.cons_append, List.nil_append]
    refine rS ?_
    refine rS ?_
    refine rR (id := 19) ?_
    refine oG (gM (evv rfl)) rfl rfl ?_
    refine oG (g_fld (evv rfl)) rfl rfl ?_
    refine oG (g_load (evv rfl) (by rfl) (by rfl)) rfl rfl ?_
    refine oG (g_lenF (evv rfl)) rfl rfl ?_
    refine oG (g_bin (evv rfl) (evv rfl) (by rfl)) rfl rfl ?_
    refine oN ?_
    refine cC ?_
    refine r_cond rfl (fun hc => ?_) (fun hc => ?_) <;> (try simp only [decide_eq_true_eq, decide_eq_false_iff_not, Bool.and_eq_true, Bool.or_eq_true, Bool.not_eq_true', Bool.and_eq_false_iff, Bool.or_eq_false_iff, Bool.not_eq_false', Bool.not_eq_true, Bool.not_eq_false, Bool.true_eq_false, Bool.false_eq_true, Int.not_lt, Int.not_le, not_and, not_or, ne_eq] at hc)
    · have hi2 : i < l.length := by omega
      refine r_skip ?_
      refine cC ?_
      refine rS ?_
      refine r_block ?_
      refine rR (id := 21) ?_
      refine oG (g_fld (evv rfl)) rfl rfl ?_
      refine oG (g_load (evv rfl) (by rfl) (by rfl)) rfl rfl ?_
      refine oG (gM (evv rfl)) rfl rfl ?_
      refine oG (g_idxFN (evv rfl) (evv rfl) (by rfl) (by rfl) (by first | omega | (have := of_decide_eq_true hg; omega) | (simp at hg; omega) | (simp only [List.length_set, List.length_append, List.length_cons, List.length_nil, List.length_map, List.length_take, List.length_drop, List.length_replicate]; omega))) rfl rfl ?_
      refine oG (g_fldE (evv rfl) (by first | (simp only [frow, mrow]; omega) | (simp only [frow, mrow, List.length_set, List.length_append, List.length_cons]; omega) | fail) (by first | exact Nat.succ_pos _ | decide)) rfl rfl ?_
      refine o_storeFld (evv rfl) (evv rfl) (by rfl) (by first | (intro; rfl) | exact LenC.h) (by first | omega | (have := of_decide_eq_true hg; omega) | (simp at hg; omega) | (simp only [List.length_set, List.length_append, List.length_cons, List.length_nil, List.length_map, List.length_take, List.length_drop, List.length_replicate]; omega)) (by rfl) ?_
      refine oN ?_
      refine c_blk ?_
      refine cC ?_
      refine rR (id := 20) ?_
      refine oG (gM (evv rfl)) rfl rfl ?_
      refine o_giveN (g_bin (evv rfl) (evv rfl) (by rfl)) (by simp only [inR]; omega) rfl ?_
      refine oG (gA (evv rfl)) rfl rfl ?_
      refine oN ?_
      refine c_loop (i + 1, l.set i (cl99 (l.getD i default))) ?_ ?_ (by repeat (first | exact trivial | refine ⟨rfl, ?_⟩ | refine envsub_v rfl (by first | rfl | (refine int_eq ?_; first | omega | (simp; omega) | (simp; done)) | (refine bool_eq ?_; first | (simp [*]; done) | (simp; done)) | (refine str_eq ?_; simp; done) | (refine ptr_eq ?_; omega) | fail) ?_)) ?_ <;> (try dsimp only)
      · exact ⟨by omega, by simpa using hll⟩
      · omega
      · exact Ent.refl _
    · refine r_exit rfl ?_
      refine cC ?_
      refine rS ?_
      refine rR (id := 22) ?_
      refine oG (gM (evv rfl)) rfl rfl ?_
      refine oG (gA (evv rfl)) rfl rfl ?_
      refine oN ?_
      refine cC ?_
      first | refine r_ret (rs := [.tmp 4]) rfl rfl _ ((Lay.ent (L' := jr j (p, (layT x k a.k).2.2) :: pt p (layT x k a.k).2.1 :: F))) ?_ | refine c_end (rs := [.tmp 4]) rfl rfl _ ((Lay.ent (L' := jr j (p, (layT x k a.k).2.2) :: pt p (layT x k a.k).2.1 :: F))) ?_
      exact ⟨rfl, rfl⟩
  · have hD : doJ x k a = (0, x, k) := by unfold doJ; rw [hkc]; rfl
    rw [hD]
    refine rR (id := 2) ?_
    refine oG (g_bin (evv rfl) (evv rfl) (by rfl)) rfl rfl ?_
    refine oG (gA (evv rfl)) rfl rfl ?_
    refine oN ?_
    refine cC ?_
    refine r_cond_false rfl ?_
    refine rS ?_
    refine rR (id := 4) ?_
    refine oG (g_bin (evv rfl) (evv rfl) (by rfl)) rfl rfl ?_
    refine oG (gA (evv rfl)) rfl rfl ?_
    refine oN ?_
    refine cC ?_
    refine r_cond_false rfl ?_
    refine rS ?_
    refine rR (id := 6) ?_
    refine oG (g_bin (evv rfl) (evv rfl) (by rfl)) rfl rfl ?_
    refine oG (gA (evv rfl)) rfl rfl ?_
    refine oN ?_
    refine cC ?_
    refine r_cond_false rfl ?_
    refine rS ?_
    refine rR (id := 14) ?_
    refine oG (g_bin (evv rfl) (evv rfl) (by rfl)) rfl rfl ?_
    refine oG (gA (evv rfl)) rfl rfl ?_
    refine oN ?_
    refine cC ?_
    refine r_cond_false rfl ?_
    refine r_skip ?_
    refine c_blk ?_
    refine cC ?_
    refine rS ?_
    refine rR (id := 23) ?_
    refine oG (gA (evv rfl)) rfl rfl ?_
    refine oN ?_
    refine cC ?_
    first | refine r_ret (rs := [.tmp 4]) rfl rfl _ ((Lay.ent (L' := jr j (p, k) :: pt p x :: F))) ?_ | refine c_end (rs := [.tmp 4]) rfl rfl _ ((Lay.ent (L' := jr j (p, k) :: pt p x :: F))) ?_
    exact ⟨rfl, rfl⟩
  · have hD : doJ x k a = (0, x, k) := by unfold doJ; rw [hkc]; rfl
    rw [hD]
    refine rR (id := 2) ?_
    refine oG (g_bin (evv rfl) (evv rfl) (by rfl)) rfl rfl ?_
    refine oG (gA (evv rfl)) rfl rfl ?_
    refine oN ?_
    refine cC ?_
    refine r_cond_false rfl ?_
    refine rS ?_
    refine rR (id := 4) ?_
    refine oG (g_bin (evv rfl) (evv rfl) (by rfl)) rfl rfl ?_
    refine oG (gA (evv rfl)) rfl rfl ?_
    refine oN ?_
    refine cC ?_
    refine r_cond_false rfl ?_
    refine rS ?_
    refine rR (id := 6) ?_
    refine oG (g_bin (evv rfl) (evv rfl) (by rfl)) rfl rfl ?_
    refine oG (gA (evv rfl)) rfl rfl ?_
    refine oN ?_
    refine cC ?_
    refine r_cond_false rfl ?_
    refine rS ?_
    refine rR (id := 14) ?_
    refine oG (g_bin (evv rfl) (evv rfl) (by rfl)) rfl rfl ?_
    refine oG (gA (evv rfl)) rfl rfl ?_
    refine oN ?_
    refine cC ?_
    refine r_cond_false rfl ?_
    refine r_skip ?_
    refine c_blk ?_
    refine cC ?_
    refine rS ?_
    refine rR (id := 23) ?_
    refine oG (gA (evv rfl)) rfl rfl ?_
    refine oN ?_
    refine cC ?_
    first | refine r_ret (rs := [.tmp 4]) rfl rfl _ ((Lay.ent (L' := jr j (p, k) :: pt p x :: F))) ?_ | refine c_end (rs := [.tmp 4]) rfl rfl _ ((Lay.ent (L' := jr j (p, k) :: pt p x :: F))) ?_
    exact ⟨rfl, rfl⟩
end VK

namespace VK
open Go Go.Proofs
set_option linter.unusedSimpArgs false
set_option linter.unusedVariables false
set_option maxRecDepth 100000
set_option maxHeartbeats 40000000
class SubC (cs : List Value) (o : Nat) (vs : outParam (List Value)) : Prop where
  h : vs ≠ [] ∧ ∀ q u, vs[q]? = some u → cs[o + q]? = some u
theorem g_loadFP {c : Cx} {E : Env} {L : List Atom} {do_ : Option Nat} {ty : TypeId} {pos : String} {aft : Array Edge} {gd : Option (Nat × Bool)} {α : Type} [Inhabited α] {f : α → List Value} {sz : Nat} {t e' : TypeId} {ud : TypeDesc} {i : TI} {x : Operand} {v : Value} {us : List Value} {j fo : Nat} {l : List α} [tu : TyU c.P t ud] [ti : TyI c.P t i] (hx : Evs c E x (elemP v (j * sz + fo))) [rd : Rd L v (frow f sz e' l)]
    (hu : isAggD ud = true) (hj : j < l.length) (hf : ∀ a, (f a).length = sz) [pc : SubC (f (l.getD j default)) fo us] (hn : us.length = i.size) : Gives c E L ⟨do_, .load t x, ty, pos, aft, gd⟩ (agg us) :=
  g_loadEA (i := i) hx hu hn pc.h.1 (fun q u hq => by
    rw [Nat.add_assoc]
    simp only [frow]
    exact flatMap_at hf hj (fo + q) u (pc.h.2 q u hq))
instance (a : EntS) : SubC (entC a) 2 (opSC a.op) := ⟨List.cons_ne_nil _ _, fun q u h => by rw [Nat.add_comm]; exact h⟩
structure ScA (L : List Atom) (v : Value) (l : List ActJ) : Prop where
  rd : Rd L v (frow actC 10 37 l)
  el : ∀ a ∈ l, RdA L a ∧ a.ok
theorem jfits_c (L : List Atom) (v : Value) (l : List ActJ) (sc : ScA L v l) : Fn Try.prog 9 [v] L fun w L' => ∃ b, w = .bool b ∧ L' = L := by
  haveI rd := sc.rd
  refine fn_lenF rd fun hlen => ?_
  have hlen : l.length ≤ 2 ^ 63 - 1 := hlen
  refine fn_intro Try.func9 rfl Try.ntmps9 rfl (fun W0 => ?_)
  simp only [argE]
  refine rS ?_
  refine rR (id := 0) ?_
  refine oG (gA (evv rfl)) rfl rfl ?_
  refine oN ?_
  refine cC ?_
  refine rS ?_
  refine rR (id := 1) ?_
  refine oG (gA (evv rfl)) rfl rfl ?_
  refine oN ?_
  refine cC ?_
  refine rS ?_
  refine rS ?_
  refine rR (id := 2) ?_
  refine oG (gA (evv rfl)) rfl rfl ?_
  refine oN ?_
  refine cC ?_
  refine r_block ?_
  refine r_loopE (σ := Nat × Int) (fun ⟨i, z⟩ => i ≤ l.length) (fun ⟨i, z⟩ => l.length - i) (fun ⟨i, z⟩ => [(3, .v (.int .i64 z)), (4, .v (.int .i64 i))]) [0] (fun ⟨i, z⟩ => L) (0, 0) (by dsimp only [pickE, pick1, lk2, Nat.reduceBEq, Nat.reduceAdd, Nat.zero_add, cond_true, cond_false] <;> exact rfl) ?_ (by repeat (first | exact trivial | refine ⟨rfl, ?_⟩ | refine envsub_v rfl (by first | rfl | (refine int_eq ?_; first | omega | (simp; omega) | (simp; done)) | (refine bool_eq ?_; first | (simp [*]; done) | (simp; done)) | (refine str_eq ?_; simp; done) | (refine ptr_eq ?_; omega) | fail) ?_)) ?_ ?_
  · exact Nat.zero_le _
  · exact Ent.refl _
  rintro ⟨i, z⟩ hi; (try dsimp only at hi); dsimp only [List.cons_append, List.nil_append]
  refine rS ?_
  refine rS ?_
  refine rR (id := 3) ?_
  refine oG (gM (evv rfl)) rfl rfl ?_
  refine oG (gM (evv rfl)) rfl rfl ?_
  refine oG (g_lenF (evv rfl)) rfl rfl ?_
  refine oG (g_bin (evv rfl) (evv rfl) (by rfl)) rfl rfl ?_
  refine oN ?_
  refine cC ?_
  refine r_cond rfl (fun hc => ?_) (fun hc => ?_) <;> (try simp only [decide_eq_true_eq, decide_eq_false_iff_not, Bool.and_eq_true, Bool.or_eq_true, Bool.not_eq_true', Bool.and_eq_false_iff, Bool.or_eq_false_iff, Bool.not_eq_false', Bool.not_eq_true, Bool.not_eq_false, Bool.true_eq_false, Bool.false_eq_true, Int.not_lt, Int.not_le, not_and, not_or, ne_eq] at hc)
  · have hi2 : i < l.length := by omega
    have hmem : l.getD i default ∈ l := by rw [List.getD_eq_getElem?_getD, List.getElem?_eq_getElem hi2]; exact List.getElem_mem hi2
    obtain ⟨hra, hok⟩ := sc.el _ hmem
    have hn := hok.n
    generalize hal : l.getD i default = a at *
    refine r_skip ?_
    refine cC ?_
    refine rS ?_
    refine r_block ?_
    refine rS ?_
    refine rR (id := 5) ?_
    refine oG (gM (evv rfl)) rfl rfl ?_
    refine oG (gM (evv rfl)) rfl rfl ?_
    refine oG (gM (evv rfl)) rfl rfl ?_
    refine oG (g_idxFN (evv rfl) (evv rfl) (by rfl) (by rfl) (by first | omega | (have := of_decide_eq_true hg; omega) | (simp at hg; omega) | (simp only [List.length_set, List.length_append, List.length_cons, List.length_nil, List.length_map, List.length_take, List.length_drop, List.length_replicate]; omega))) rfl rfl ?_
    refine oG (g_fldE (evv rfl) (by first | (simp only [frow, mrow]; omega) | (simp only [frow, mrow, List.length_set, List.length_append, List.length_cons]; omega) | fail) (by first | exact Nat.succ_pos _ | decide)) rfl rfl ?_
    refine oG (g_fldE (evv rfl) (by first | (simp only [frow, mrow]; omega) | (simp only [frow, mrow, List.length_set, List.length_append, List.length_cons]; omega) | fail) (by first | exact Nat.succ_pos _ | decide)) rfl rfl ?_
    rw [show i * 10 + 3 + 3 = i * 10 + 6 by omega]
    refine oG (g_loadFld (evv rfl) (by rfl) (by first | (intro; rfl) | exact LenC.h) (by first | omega | (have := of_decide_eq_true hg; omega) | (simp at hg; omega) | (simp only [List.length_set, List.length_append, List.length_cons, List.length_nil, List.length_map, List.length_take, List.length_drop, List.length_replicate]; omega)) (by rfl)) rfl rfl ?_
    refine oG (g_lenS TyU.h (evv rfl)) rfl rfl ?_
    refine oG (g_bin (evv rfl) (evv rfl) (by rfl)) rfl rfl ?_
    refine oG (g_bin (evv rfl) (evv rfl) (by rfl)) rfl rfl ?_
    refine oG (gA (evv rfl)) rfl rfl ?_
    refine oN ?_
    refine cC ?_
    refine rS ?_
    rw [hal]
    generalize IntKind.i64.wrap _ = z1
    refine rR (id := 6) ?_
    refine oG (gA (evv rfl)) rfl rfl ?_
    refine oN ?_
    refine cC ?_
    refine r_block ?_
    refine r_loopE (σ := Nat × Int) (fun ⟨k, y⟩ => k ≤ a.es.length) (fun ⟨k, y⟩ => a.es.length - k) (fun ⟨k, y⟩ => [(3, .v (.int .i64 y)), (5, .v (.int .i64 k))]) [0, 4] (fun ⟨k, y⟩ => L) (0, z1) (by dsimp only [pickE, pick1, lk2, Nat.reduceBEq, Nat.reduceAdd, Nat.zero_add, cond_true, cond_false] <;> exact rfl) ?_ (by repeat (first | exact trivial | refine ⟨rfl, ?_⟩ | refine envsub_v rfl (by first | rfl | (refine int_eq ?_; first | omega | (simp; omega) | (simp; done)) | (refine bool_eq ?_; first | (simp [*]; done) | (simp; done)) | (refine str_eq ?_; simp; done) | (refine ptr_eq ?_; omega) | fail) ?_)) ?_ ?_
    · exact Nat.zero_le _
    · exact Ent.refl _
    rintro ⟨k, y⟩ hk; (try dsimp only at hk); dsimp only [List.cons_append, List.nil_append]
    refine rS ?_
    refine rS ?_
    refine rR (id := 7) ?_
    refine oG (gM (evv rfl)) rfl rfl ?_
    refine oG (gM (evv rfl)) rfl rfl ?_
    refine oG (gM (evv rfl)) rfl rfl ?_
    refine oG (g_idxFN (evv rfl) (evv rfl) (by rfl) (by rfl) (by first | omega | (have := of_decide_eq_true hg; omega) | (simp at hg; omega) | (simp only [List.length_set, List.length_append, List.length_cons, List.length_nil, List.length_map, List.length_take, List.length_drop, List.length_replicate]; omega))) rfl rfl ?_
    refine oG (g_fldE (evv rfl) (by first | (simp only [frow, mrow]; omega) | (simp only [frow, mrow, List.length_set, List.length_append, List.length_cons]; omega) | fail) (by first | exact Nat.succ_pos _ | decide)) rfl rfl ?_
    refine oG (g_fldE (evv rfl) (by first | (simp only [frow, mrow]; omega) | (simp only [frow, mrow, List.length_set, List.length_append, List.length_cons]; omega) | fail) (by first | exact Nat.succ_pos _ | decide)) rfl rfl ?_
    rw [show i * 10 + 3 + 4 = i * 10 + 7 by omega]
    refine oG (g_loadFld (evv rfl) (by rfl) (by first | (intro; rfl) | exact LenC.h) (by first | omega | (have := of_decide_eq_true hg; omega) | (simp at hg; omega) | (simp only [List.length_set, List.length_append, List.length_cons, List.length_nil, List.length_map, List.length_take, List.length_drop, List.length_replicate]; omega)) (by rfl)) rfl rfl ?_
    rw [hal]
    refine oG (g_lenF (evv rfl)) rfl rfl ?_
    refine oG (g_bin (evv rfl) (evv rfl) (by rfl)) rfl rfl ?_
    refine oN ?_
    refine cC ?_
    refine r_cond rfl (fun hk2 => ?_) (fun hk2 => ?_) <;> (try simp only [decide_eq_true_eq, decide_eq_false_iff_not, Bool.and_eq_true, Bool.or_eq_true, Bool.not_eq_true', Bool.and_eq_false_iff, Bool.or_eq_false_iff, Bool.not_eq_false', Bool.not_eq_true, Bool.not_eq_false, Bool.true_eq_false, Bool.false_eq_true, Int.not_lt, Int.not_le, not_and, not_or, ne_eq] at hk2)
    · have hk3 : k < a.es.length := by omega
      refine r_skip ?_
      refine cC ?_
      refine rS ?_
      refine r_block ?_
      refine rS ?_
      refine rR (id := 9) ?_
      refine oG (gM (evv rfl)) rfl rfl ?_
      refine oG (gM (evv rfl)) rfl rfl ?_
      refine oG (g_idxFN (evv rfl) (evv rfl) (by rfl) (by rfl) (by first | omega | (have := of_decide_eq_true hg; omega) | (simp at hg; omega) | (simp only [List.length_set, List.length_append, List.length_cons, List.length_nil, List.length_map, List.length_take, List.length_drop, List.length_replicate]; omega))) rfl rfl ?_
      refine oG (g_fldE (evv rfl) (by first | (simp only [frow, mrow]; omega) | (simp only [frow, mrow, List.length_set, List.length_append, List.length_cons]; omega) | fail) (by first | exact Nat.succ_pos _ | decide)) rfl rfl ?_
      refine oG (g_fldE (evv rfl) (by first | (simp only [frow, mrow]; omega) | (simp only [frow, mrow, List.length_set, List.length_append, List.length_cons]; omega) | fail) (by first | exact Nat.succ_pos _ | decide)) rfl rfl ?_
      rw [show i * 10 + 3 + 4 = i * 10 + 7 by omega]
      refine oG (g_loadFld (evv rfl) (by rfl) (by first | (intro; rfl) | exact LenC.h) (by first | omega | (have := of_decide_eq_true hg; omega) | (simp at hg; omega) | (simp only [List.length_set, List.length_append, List.length_cons, List.length_nil, List.length_map, List.length_take, List.length_drop, List.length_replicate]; omega)) (by rfl)) rfl rfl ?_
      refine oG (gM (evv rfl)) rfl rfl ?_
      rw [hal]
      refine oG (g_idxFN (evv rfl) (evv rfl) (by rfl) (by rfl) (by first | omega | (have := of_decide_eq_true hg; omega) | (simp at hg; omega) | (simp only [List.length_set, List.length_append, List.length_cons, List.length_nil, List.length_map, List.length_take, List.length_drop, List.length_replicate]; omega))) rfl rfl ?_
      refine oG (g_fldE (evv rfl) (by first | (simp only [frow, mrow]; omega) | (simp only [frow, mrow, List.length_set, List.length_append, List.length_cons]; omega) | fail) (by first | exact Nat.succ_pos _ | decide)) rfl rfl ?_
      refine oG (g_loadFP (evv rfl) (by rfl) (by first | omega | (have := of_decide_eq_true hg; omega) | (simp at hg; omega) | (simp only [List.length_set, List.length_append, List.length_cons, List.length_nil, List.length_map, List.length_take, List.length_drop, List.length_replicate]; omega)) (by first | (intro; rfl) | exact LenC.h) (by rfl)) rfl rfl ?_
      refine o_alloc rfl rfl (fun _ => ?_)
      refine o_storeW (evv rfl) (evv rfl) (by first | rfl | assumption | exact LenC.h _ | (simp [bys, *]; done) | fail) (by first | (intro _ _ _; exact bys_one _) | exact AllOne.h | (intro _ _ _ u hu; simp at hu; rcases hu with rfl | rfl | rfl | rfl | rfl | rfl | rfl | rfl <;> rfl) | fail) (by first | rfl | exact (LenC.h _).trans rfl | exact (LenC.h _).trans (LenC.h _).symm | (simp [bys, *]; done) | (simp only [bys, List.length_map, *]; rfl) | fail) ?_
      refine oN ?_
      refine cC ?_
      refine rR (id := 10) ?_
      refine oG (gM (evv rfl)) rfl rfl ?_
      refine oG (g_fld (evv rfl)) rfl rfl ?_
      refine oG (g_load (evv rfl) (by rfl) (by rfl)) rfl rfl ?_
      refine oG (g_lenS TyU.h (evv rfl)) rfl rfl ?_
      refine oG (g_bin (evv rfl) (evv rfl) (by rfl)) rfl rfl ?_
      refine oG (g_fld (evv rfl)) rfl rfl ?_
      refine oG (g_load (evv rfl) (by rfl) (by rfl)) rfl rfl ?_
      refine oG (g_lenS TyU.h (evv rfl)) rfl rfl ?_
      refine oG (g_bin (evv rfl) (evv rfl) (by rfl)) rfl rfl ?_
      refine oG (g_fld (evv rfl)) rfl rfl ?_
      refine oG (g_load (evv rfl) (by rfl) (by rfl)) rfl rfl ?_
      refine oG (g_lenS TyU.h (evv rfl)) rfl rfl ?_
      refine oG (g_bin (evv rfl) (evv rfl) (by rfl)) rfl rfl ?_
      refine oG (g_bin (evv rfl) (evv rfl) (by rfl)) rfl rfl ?_
      refine oG (gA (evv rfl)) rfl rfl ?_
      refine oN ?_
      refine c_blk ?_
      refine cC ?_
      generalize IntKind.i64.wrap _ = y1
      refine rR (id := 8) ?_
      refine oG (gM (evv rfl)) rfl rfl ?_
      refine o_giveN (g_bin (evv rfl) (evv rfl) (by rfl)) (by simp only [inR]; omega) rfl ?_
      refine oG (gA (evv rfl)) rfl rfl ?_
      refine oN ?_
      refine c_loop (k + 1, y1) ?_ ?_ (by repeat (first | exact trivial | refine ⟨rfl, ?_⟩ | refine envsub_v rfl (by first | rfl | (refine int_eq ?_; first | omega | (simp; omega) | (simp; done)) | (refine bool_eq ?_; first | (simp [*]; done) | (simp; done)) | (refine str_eq ?_; simp; done) | (refine ptr_eq ?_; omega) | fail) ?_)) ?_ <;> (try dsimp only)
      · omega
      · omega
      · exact Lay.ent
    · refine r_exit rfl ?_
      refine c_blk ?_
      refine cC ?_
      refine rR (id := 4) ?_
      refine oG (gM (evv rfl)) rfl rfl ?_
      refine o_giveN (g_bin (evv rfl) (evv rfl) (by rfl)) (by simp only [inR]; omega) rfl ?_
      refine oG (gA (evv rfl)) rfl rfl ?_
      refine oN ?_
      refine c_loop (i + 1, y) ?_ ?_ (by repeat (first | exact trivial | refine ⟨rfl, ?_⟩ | refine envsub_v rfl (by first | rfl | (refine int_eq ?_; first | omega | (simp; omega) | (simp; done)) | (refine bool_eq ?_; first | (simp [*]; done) | (simp; done)) | (refine str_eq ?_; simp; done) | (refine ptr_eq ?_; omega) | fail) ?_)) ?_ <;> (try dsimp only)
      · omega
      · omega
      · exact Ent.refl _
  · refine r_exit rfl ?_
    refine cC ?_
    refine rS ?_
    refine rR (id := 11) ?_
    refine oG (gM (evv rfl)) rfl rfl ?_
    refine oG (g_bin (evv rfl) (evv rfl) (by rfl)) rfl rfl ?_
    refine oG (gA (evv rfl)) rfl rfl ?_
    refine oN ?_
    refine cC ?_
    first | refine r_ret (rs := [.tmp 2]) rfl rfl _ (Ent.refl _) ?_ | refine c_end (rs := [.tmp 2]) rfl rfl _ (Ent.refl _) ?_
    exact ⟨_, rfl, rfl⟩
end VK

namespace VK
open Go Go.Proofs
set_option linter.unusedSimpArgs false
set_option linter.unusedVariables false
set_option maxRecDepth 100000
set_option maxHeartbeats 40000000
theorem decEntJ (W : World) : Dec (fun {H} => @Go.Proofs.Ytafofdcccmidmaa.Rows.uptoBulk H) Try.prog W 50 entC 8 EntS.ok (fun e => e.op.wt) :=
  (Dec.struct bulkC Try.underlying50 (by kernel_rfl)
    (DecF.cons bulkC rfl (Dec.int bulkC Try.underlying3 (by kernel_rfl)) (DecF.cons bulkC rfl (Dec.int bulkC Try.underlying2 (by kernel_rfl)) (DecF.cons bulkC rfl (decOpS bulkC W) DecF.nil)))).map
    (fun p => ⟨p.1, p.2.1, p.2.2.1⟩) (fun _ => rfl)
    (fun c hc u hu => (AllOne.h (L := []) (vs := entC c)) W W ⟨rfl, rfl, rfl, trivial⟩ u hu)
    (fun p hp => by simp [entC])
    (fun p hp => ⟨hp.1, hp.2.1, hp.2.2.1⟩)
    (fun p => by simp only; omega)
structure ActW (W : World) (a : ActJ) : Prop where
  v : inR .i64 a.view
  f : inR .i64 a.from_
  es : ∀ e ∈ a.es, e.ok
  fl : inR .i64 a.fail
  ks : ∀ z ∈ a.ks, inR .i64 z
  rv : RdW W a.ve (entR a.es)
  rk : RdW W a.kv (mrow i64v 3 a.ks)
def ActJ.wt (a : ActJ) : Nat := (a.es.map fun e => e.op.wt).sum + a.kstate.length
theorem decOf37 (W : World) : Dec (fun {H} => @Go.Proofs.Ytafofdcccmidmaa.Rows.uptoBulk H) Try.prog W 37 actC 10 (ActW W) ActJ.wt :=
  (Dec.struct bulkC Try.underlying37 (by kernel_rfl)
    (DecF.cons bulkC rfl (Dec.int bulkC Try.underlying3 (by kernel_rfl)) (DecF.cons bulkC rfl (Dec.int bulkC Try.underlying2 (by kernel_rfl)) (DecF.cons bulkC rfl (Dec.int bulkC Try.underlying2 (by kernel_rfl))
    (DecF.cons bulkC rfl (Dec.struct bulkC Try.underlying28 (by kernel_rfl)
      (DecF.cons bulkC rfl (Dec.int bulkC Try.underlying2 (by kernel_rfl)) (DecF.cons bulkC rfl (Dec.int bulkC Try.underlying2 (by kernel_rfl)) (DecF.cons bulkC rfl (Dec.int bulkC Try.underlying2 (by kernel_rfl))
      (DecF.cons bulkC rfl (Dec.str bulkC Try.underlying9 (by kernel_rfl)) (DecF.cons bulkC rfl (Dec.slice bulkC Try.underlying26 (by kernel_rfl) (by decide) (decEntJ W)) DecF.nil))))))
    (DecF.cons bulkC rfl (Dec.int bulkC Try.underlying3 (by kernel_rfl)) (DecF.cons bulkC rfl (Dec.slice bulkC Try.underlying35 (by kernel_rfl) (by decide) (Dec.int bulkC Try.underlying3 (by kernel_rfl))) DecF.nil))))))).map
    (fun p => ⟨p.1, p.2.1, p.2.2.1, p.2.2.2.1.1, p.2.2.2.1.2.1, p.2.2.2.1.2.2.1, p.2.2.2.1.2.2.2.1, p.2.2.2.1.2.2.2.2.1.1, p.2.2.2.1.2.2.2.2.1.2, p.2.2.2.2.1, p.2.2.2.2.2.1.1, p.2.2.2.2.2.1.2⟩) (fun _ => rfl)
    (fun c hc u hu => by
      have h1 := RdW_one hc.rv
      have h2 := RdW_one hc.rk
      simp only [actC, List.mem_cons, List.not_mem_nil, or_false] at hu
      rcases hu with rfl | rfl | rfl | rfl | rfl | rfl | rfl | rfl | rfl | rfl
      all_goals first | rfl | exact h1 | exact h2)
    (fun p hp => rfl)
    (fun p hp => by
      obtain ⟨h0, h1, h2, ⟨h3, h4, h5, h6, ⟨h7, h8⟩, _⟩, h9, ⟨h10, h11⟩, _⟩ := hp
      exact ⟨h1, h2, h8, h9, h11, h7, by rw [← frow_one (f := i64v)]; exact h10⟩)
    (fun p => by simp only [ActJ.wt]; omega)
theorem len_wt : ∀ l : List EntS, l.length ≤ (l.map fun e => e.op.wt).sum
  | [] => by simp
  | a :: l => by have := len_wt l; simp only [List.map_cons, List.sum_cons, List.length_cons]; have : 1 ≤ a.op.wt := by { unfold OpS.wt; omega }; omega
theorem scA {W : World} {v : Value} {l : List ActJ} (h1 : Rd [base W] v (frow actC 10 37 l)) (h2 : ∀ a ∈ l, ActW W a) (hb : (l.map ActJ.wt).sum + 1 ≤ 1048576) : ScA [base W] v l :=
  ⟨h1, fun a ha => by
    have h := h2 a ha
    have h3 := le_sum (f := ActJ.wt) ha
    have h4 := len_wt a.es
    have h5 : a.wt = (a.es.map fun e => e.op.wt).sum + a.kstate.length := rfl
    exact ⟨⟨rd_base h.rv, rd_base h.rk⟩, ⟨h.v, h.f, h.es, h.fl, h.ks, by omega, by omega⟩⟩⟩
end VK

namespace VK
open Go Go.Proofs
set_option linter.unusedSimpArgs false
set_option linter.unusedVariables false
set_option maxRecDepth 100000
set_option maxHeartbeats 40000000
theorem rjCheck_c (L : List Atom) (view normal base : Int) (state : List UInt8) (ve : Value) (es : List EntS) [rd : Rd L ve (entR es)] (hl : es.length ≤ 1048576) (hs : state.length ≤ 140737488355000) (hf : ∀ e ∈ es, e.ok) : Fn Try.prog 16 [agg (kC view normal base state ve)] L fun v L' => v = .bool (decide (KeptS.ok ⟨view, normal, base, state, es⟩)) ∧ L' = L := by
  have hgr : gr = 1099511627776 := rfl
  have hn := ok_num view normal base state es
  refine fn_intro Try.func16 rfl Try.ntmps16 rfl (fun W0 => ?_)
  simp only [argE]
  refine rS ?_
  refine rR (id := 0) ?_
  refine o_boxA (evv rfl) rfl (fun _ => ?_)
  refine oG (gA (evv rfl)) rfl rfl ?_
  refine oN ?_
  refine cC ?_
  refine rS ?_
  refine rS ?_
  refine rR (id := 1) ?_
  refine oG (g_fld (evv rfl)) rfl rfl ?_
  refine oG (g_load (evv rfl) (by rfl) (by rfl)) rfl rfl ?_
  refine oG (g_bin (evv rfl) (evv rfl) (by rfl)) rfl rfl ?_
  refine oG (gM (evv rfl)) rfl rfl ?_
  refine o_lazy rfl (fun hg => g_fld (evv rfl)) rfl rfl ?_
  refine o_lazy rfl (fun hg => g_load (evg rfl hg) (by rfl) (by rfl)) rfl rfl ?_
  refine o_lazy rfl (fun hg => g_bin (by first | exact evv rfl | exact evg rfl (by rw [hp]; rfl) | exact evg rfl hp | exact evg rfl hg | exact evg rfl (by first | (simp_all; done) | (simp [*]; done) | fail) | fail) (by first | exact evv rfl | exact evg rfl (by rw [hp]; rfl) | exact evg rfl hp | exact evg rfl hg | exact evg rfl (by first | (simp_all; done) | (simp [*]; done) | fail) | fail) (by rfl)) rfl rfl ?_
  refine oG (g_pick_or (evv rfl) (evv rfl) (fun hp => (by first | exact evv rfl | exact evg rfl (by rw [hp]; rfl) | exact evg rfl hp | exact evg rfl hg | exact evg rfl (by first | (simp_all; done) | (simp [*]; done) | fail) | fail))) rfl rfl ?_
  refine oG (gM (evv rfl)) rfl rfl ?_
  refine o_lazy rfl (fun hg => g_fld (evv rfl)) rfl rfl ?_
  refine o_lazy rfl (fun hg => g_load (evg rfl hg) (by rfl) (by rfl)) rfl rfl ?_
  refine o_lazy rfl (fun hg => g_bin (by first | exact evv rfl | exact evg rfl (by rw [hp]; rfl) | exact evg rfl hp | exact evg rfl hg | exact evg rfl (by first | (simp_all; done) | (simp [*]; done) | fail) | fail) (by first | exact evv rfl | exact evg rfl (by rw [hp]; rfl) | exact evg rfl hp | exact evg rfl hg | exact evg rfl (by first | (simp_all; done) | (simp [*]; done) | fail) | fail) (by rfl)) rfl rfl ?_
  refine oG (g_pick_or (evv rfl) (evv rfl) (fun hp => (by first | exact evv rfl | exact evg rfl (by rw [hp]; rfl) | exact evg rfl hp | exact evg rfl hg | exact evg rfl (by first | (simp_all; done) | (simp [*]; done) | fail) | fail))) rfl rfl ?_
  refine oG (gM (evv rfl)) rfl rfl ?_
  refine o_lazy rfl (fun hg => g_fld (evv rfl)) rfl rfl ?_
  refine o_lazy rfl (fun hg => g_load (evg rfl hg) (by rfl) (by rfl)) rfl rfl ?_
  refine o_lazy rfl (fun hg => g_fld (evv rfl)) rfl rfl ?_
  refine o_lazy rfl (fun hg => g_load (evg rfl hg) (by rfl) (by rfl)) rfl rfl ?_
  refine o_lazy rfl (fun hg => g_bin (by first | exact evv rfl | exact evg rfl (by rw [hp]; rfl) | exact evg rfl hp | exact evg rfl hg | exact evg rfl (by first | (simp_all; done) | (simp [*]; done) | fail) | fail) (by first | exact evv rfl | exact evg rfl (by rw [hp]; rfl) | exact evg rfl hp | exact evg rfl hg | exact evg rfl (by first | (simp_all; done) | (simp [*]; done) | fail) | fail) (by rfl)) rfl rfl ?_
  refine oG (g_pick_or (evv rfl) (evv rfl) (fun hp => (by first | exact evv rfl | exact evg rfl (by rw [hp]; rfl) | exact evg rfl hp | exact evg rfl hg | exact evg rfl (by first | (simp_all; done) | (simp [*]; done) | fail) | fail))) rfl rfl ?_
  refine oG (gM (evv rfl)) rfl rfl ?_
  refine o_lazy rfl (fun hg => g_fld (evv rfl)) rfl rfl ?_
  refine o_lazy rfl (fun hg => g_load (evg rfl hg) (by rfl) (by rfl)) rfl rfl ?_
  refine o_lazy rfl (fun hg => g_bin (by first | exact evv rfl | exact evg rfl (by rw [hp]; rfl) | exact evg rfl hp | exact evg rfl hg | exact evg rfl (by first | (simp_all; done) | (simp [*]; done) | fail) | fail) (by first | exact evv rfl | exact evg rfl (by rw [hp]; rfl) | exact evg rfl hp | exact evg rfl hg | exact evg rfl (by first | (simp_all; done) | (simp [*]; done) | fail) | fail) (by rfl)) rfl rfl ?_
  refine oG (g_pick_or (evv rfl) (evv rfl) (fun hp => (by first | exact evv rfl | exact evg rfl (by rw [hp]; rfl) | exact evg rfl hp | exact evg rfl hg | exact evg rfl (by first | (simp_all; done) | (simp [*]; done) | fail) | fail))) rfl rfl ?_
  refine oG (gM (evv rfl)) rfl rfl ?_
  refine o_lazy rfl (fun hg => g_fld (evv rfl)) rfl rfl ?_
  refine o_lazy rfl (fun hg => g_load (evg rfl hg) (by rfl) (by rfl)) rfl rfl ?_
  refine o_lazy rfl (fun hg => g_bin (by first | exact evv rfl | exact evg rfl (by rw [hp]; rfl) | exact evg rfl hp | exact evg rfl hg | exact evg rfl (by first | (simp_all; done) | (simp [*]; done) | fail) | fail) (by first | exact evv rfl | exact evg rfl (by rw [hp]; rfl) | exact evg rfl hp | exact evg rfl hg | exact evg rfl (by first | (simp_all; done) | (simp [*]; done) | fail) | fail) (by rfl)) rfl rfl ?_
  refine oG (g_pick_or (evv rfl) (evv rfl) (fun hp => (by first | exact evv rfl | exact evg rfl (by rw [hp]; rfl) | exact evg rfl hp | exact evg rfl hg | exact evg rfl (by first | (simp_all; done) | (simp [*]; done) | fail) | fail))) rfl rfl ?_
  refine oN ?_
  refine cC ?_
  rename_i q
  refine r_cond rfl (fun h1 => ?_) (fun h1 => ?_) <;> (try simp only [decide_eq_true_eq, decide_eq_false_iff_not, Bool.and_eq_true, Bool.or_eq_true, Bool.not_eq_true', Bool.and_eq_false_iff, Bool.or_eq_false_iff, Bool.not_eq_false', Bool.not_eq_true, Bool.not_eq_false, Bool.true_eq_false, Bool.false_eq_true, Int.not_lt, Int.not_le, not_and, not_or, ne_eq] at h1)
  · rw [decide_eq_false (fun h => by obtain ⟨⟨a1, a2, a3, a4, a5, a6, _⟩, _⟩ := hn.1 h; omega)]
    refine rS ?_
    refine rR (id := 2) ?_
    refine oG (gA (evv rfl)) rfl rfl ?_
    refine oN ?_
    refine cC ?_
    first | refine r_ret (rs := [.tmp 2]) rfl rfl _ ((Lay.ent (L' := L))) ?_ | refine c_end (rs := [.tmp 2]) rfl rfl _ ((Lay.ent (L' := L))) ?_
    exact ⟨rfl, rfl⟩
  · refine r_skip ?_
    refine cC ?_
    refine rS ?_
    refine rS ?_
    refine rR (id := 3) ?_
    refine oG (g_fld (evv rfl)) rfl rfl ?_
    refine oG (g_load (evv rfl) (by rfl) (by rfl)) rfl rfl ?_
    refine oG (g_lenF (evv rfl)) rfl rfl ?_
    refine oG (g_bin (evv rfl) (evv rfl) (by rfl)) rfl rfl ?_
    refine oG (gM (evv rfl)) rfl rfl ?_
    refine o_lazy rfl (fun hg => g_fld (evv rfl)) rfl rfl ?_
    refine o_lazy rfl (fun hg => g_load (evg rfl hg) (by rfl) (by rfl)) rfl rfl ?_
    refine o_lazy rfl (fun hg => g_fld (evv rfl)) rfl rfl ?_
    refine o_lazy rfl (fun hg => g_load (evg rfl hg) (by rfl) (by rfl)) rfl rfl ?_
    refine o_lazy rfl (fun hg => g_lenF (by first | exact evv rfl | exact evg rfl (by rw [hp]; rfl) | exact evg rfl hp | exact evg rfl hg | exact evg rfl (by first | (simp_all; done) | (simp [*]; done) | fail) | fail)) rfl rfl ?_
    refine o_lazy rfl (fun hg => Gives.as (g_bin (by first | exact evv rfl | exact evg rfl (by rw [hp]; rfl) | exact evg rfl hp | exact evg rfl hg | exact evg rfl (by first | (simp_all; done) | (simp [*]; done) | fail) | fail) (by first | exact evv rfl | exact evg rfl (by rw [hp]; rfl) | exact evg rfl hp | exact evg rfl hg | exact evg rfl (by first | (simp_all; done) | (simp [*]; done) | fail) | fail) (by rfl)) (by rw [wrap_in (by simp only [inR]; omega)])) rfl rfl ?_
    refine o_lazy rfl (fun hg => g_bin (by first | exact evv rfl | exact evg rfl (by rw [hp]; rfl) | exact evg rfl hp | exact evg rfl hg | exact evg rfl (by first | (simp_all; done) | (simp [*]; done) | fail) | fail) (by first | exact evv rfl | exact evg rfl (by rw [hp]; rfl) | exact evg rfl hp | exact evg rfl hg | exact evg rfl (by first | (simp_all; done) | (simp [*]; done) | fail) | fail) (by rfl)) rfl rfl ?_
    refine oG (g_pick_or (evv rfl) (evv rfl) (fun hp => (by first | exact evv rfl | exact evg rfl (by rw [hp]; rfl) | exact evg rfl hp | exact evg rfl hg | exact evg rfl (by first | (simp_all; done) | (simp [*]; done) | fail) | fail))) rfl rfl ?_
    refine oG (gM (evv rfl)) rfl rfl ?_
    refine o_lazy rfl (fun hg => g_fld (evv rfl)) rfl rfl ?_
    refine o_lazy rfl (fun hg => g_load (evg rfl hg) (by rfl) (by rfl)) rfl rfl ?_
    refine o_lazy rfl (fun hg => g_lenS TyU.h (by first | exact evv rfl | exact evg rfl (by rw [hp]; rfl) | exact evg rfl hp | exact evg rfl hg | exact evg rfl (by first | (simp_all; done) | (simp [*]; done) | fail) | fail)) rfl rfl ?_
    refine o_lazy rfl (fun hg => g_bin (by first | exact evv rfl | exact evg rfl (by rw [hp]; rfl) | exact evg rfl hp | exact evg rfl hg | exact evg rfl (by first | (simp_all; done) | (simp [*]; done) | fail) | fail) (by first | exact evv rfl | exact evg rfl (by rw [hp]; rfl) | exact evg rfl hp | exact evg rfl hg | exact evg rfl (by first | (simp_all; done) | (simp [*]; done) | fail) | fail) (by rfl)) rfl rfl ?_
    refine oG (g_pick_or (evv rfl) (evv rfl) (fun hp => (by first | exact evv rfl | exact evg rfl (by rw [hp]; rfl) | exact evg rfl hp | exact evg rfl hg | exact evg rfl (by first | (simp_all; done) | (simp [*]; done) | fail) | fail))) rfl rfl ?_
    refine oG (gM (evv rfl)) rfl rfl ?_
    refine o_lazy rfl (fun hg => g_fld (evv rfl)) rfl rfl ?_
    refine o_lazy rfl (fun hg => g_load (evg rfl hg) (by rfl) (by rfl)) rfl rfl ?_
    refine o_lazy rfl (fun hg => g_bin (by first | exact evv rfl | exact evg rfl (by rw [hp]; rfl) | exact evg rfl hp | exact evg rfl hg | exact evg rfl (by first | (simp_all; done) | (simp [*]; done) | fail) | fail) (by first | exact evv rfl | exact evg rfl (by rw [hp]; rfl) | exact evg rfl hp | exact evg rfl hg | exact evg rfl (by first | (simp_all; done) | (simp [*]; done) | fail) | fail) (by rfl)) rfl rfl ?_
    refine o_lazy rfl (fun hg => gM (by first | exact evv rfl | exact evg rfl (by rw [hp]; rfl) | exact evg rfl hp | exact evg rfl hg | exact evg rfl (by first | (simp_all; done) | (simp [*]; done) | fail) | fail)) rfl rfl ?_
    refine o_lazy rfl (fun hg => g_fld (evv rfl)) rfl rfl ?_
    refine o_lazy rfl (fun hg => g_load (evg rfl hg) (by rfl) (by rfl)) rfl rfl ?_
    refine o_lazy rfl (fun hg => g_lenS TyU.h (by first | exact evv rfl | exact evg rfl (by rw [hp]; rfl) | exact evg rfl hp | exact evg rfl hg | exact evg rfl (by first | (simp_all; done) | (simp [*]; done) | fail) | fail)) rfl rfl ?_
    refine o_lazy rfl (fun hg => g_bin (by first | exact evv rfl | exact evg rfl (by rw [hp]; rfl) | exact evg rfl hp | exact evg rfl hg | exact evg rfl (by first | (simp_all; done) | (simp [*]; done) | fail) | fail) (by first | exact evv rfl | exact evg rfl (by rw [hp]; rfl) | exact evg rfl hp | exact evg rfl hg | exact evg rfl (by first | (simp_all; done) | (simp [*]; done) | fail) | fail) (by rfl)) rfl rfl ?_
    refine o_lazy rfl (fun hg => g_pick_and (by first | exact evv rfl | exact evg rfl (by rw [hp]; rfl) | exact evg rfl hp | exact evg rfl hg | exact evg rfl (by first | (simp_all; done) | (simp [*]; done) | fail) | fail) (by first | exact evv rfl | exact evg rfl (by rw [hp]; rfl) | exact evg rfl hp | exact evg rfl hg | exact evg rfl (by first | (simp_all; done) | (simp [*]; done) | fail) | fail) (fun hp => (by first | exact evv rfl | exact evg rfl (by rw [hp]; rfl) | exact evg rfl hp | exact evg rfl hg | exact evg rfl (by first | (simp_all; done) | (simp [*]; done) | fail) | fail))) rfl rfl ?_
    refine oG (g_pick_or (evv rfl) (evv rfl) (fun hp => (by first | exact evv rfl | exact evg rfl (by rw [hp]; rfl) | exact evg rfl hp | exact evg rfl hg | exact evg rfl (by first | (simp_all; done) | (simp [*]; done) | fail) | fail))) rfl rfl ?_
    refine oN ?_
    refine cC ?_
    refine r_cond rfl (fun h3 => ?_) (fun h3 => ?_) <;> (try simp only [decide_eq_true_eq, decide_eq_false_iff_not, Bool.and_eq_true, Bool.or_eq_true, Bool.not_eq_true', Bool.and_eq_false_iff, Bool.or_eq_false_iff, Bool.not_eq_false', Bool.not_eq_true, Bool.not_eq_false, Bool.true_eq_false, Bool.false_eq_true, Int.not_lt, Int.not_le, not_and, not_or, ne_eq] at h3)
    · rw [decide_eq_false (fun h => by
        obtain ⟨⟨a1, a2, a3, a4, a5, a6, a7, a8, a9, a10⟩, _⟩ := hn.1 h
        have a9' : base = 0 → state.length = 0 := fun h => by rw [a9 h]; rfl
        omega)]
      refine rS ?_
      refine rR (id := 4) ?_
      refine oG (gA (evv rfl)) rfl rfl ?_
      refine oN ?_
      refine cC ?_
      first | refine r_ret (rs := [.tmp 2]) rfl rfl _ ((Lay.ent (L' := L))) ?_ | refine c_end (rs := [.tmp 2]) rfl rfl _ ((Lay.ent (L' := L))) ?_
      exact ⟨rfl, rfl⟩
    · have hnum : numK view normal base state es.length := ⟨by omega, by omega, by omega, by omega, by omega, by omega, by omega, by omega, fun h => List.eq_nil_of_length_eq_zero (by omega), by omega⟩
      refine r_skip ?_
      refine cC ?_
      refine rS ?_
      refine rS ?_
      refine rR (id := 5) ?_
      refine oG (gA (evv rfl)) rfl rfl ?_
      refine oN ?_
      refine cC ?_
      refine r_block ?_
      refine r_loopE (σ := Nat) (fun i => i ≤ es.length ∧ ∀ e ∈ es.take i, ¬ longOp e.op) (fun i => es.length - i) (fun i => [(3, .v (.int .i64 i))]) [1] (fun i => blk q ⟨kC view normal base state ve, 28⟩ :: L) 0 (by dsimp only [pickE, pick1, lk2, Nat.reduceBEq, Nat.reduceAdd, Nat.zero_add, cond_true, cond_false] <;> exact rfl) ?_ (by repeat (first | exact trivial | refine ⟨rfl, ?_⟩ | refine envsub_v rfl (by first | rfl | (refine int_eq ?_; first | omega | (simp; omega) | (simp; done)) | (refine bool_eq ?_; first | (simp [*]; done) | (simp; done)) | (refine str_eq ?_; simp; done) | (refine ptr_eq ?_; omega) | fail) ?_)) ?_ ?_
      · exact ⟨Nat.zero_le _, fun e he => by simp at he⟩
      · exact Lay.ent
      rintro i ⟨hi, hlong⟩; dsimp only [List.cons_append, List.nil_append]
      refine rS ?_
      refine rS ?_
      refine rR (id := 6) ?_
      refine oG (gM (evv rfl)) rfl rfl ?_
      refine oG (g_fld (evv rfl)) rfl rfl ?_
      refine oG (g_load (evv rfl) (by rfl) (by rfl)) rfl rfl ?_
      refine oG (g_lenF (evv rfl)) rfl rfl ?_
      refine oG (g_bin (evv rfl) (evv rfl) (by rfl)) rfl rfl ?_
      refine oN ?_
      refine cC ?_
      refine r_cond rfl (fun hc => ?_) (fun hc => ?_) <;> (try simp only [decide_eq_true_eq, decide_eq_false_iff_not, Bool.and_eq_true, Bool.or_eq_true, Bool.not_eq_true', Bool.and_eq_false_iff, Bool.or_eq_false_iff, Bool.not_eq_false', Bool.not_eq_true, Bool.not_eq_false, Bool.true_eq_false, Bool.false_eq_true, Int.not_lt, Int.not_le, not_and, not_or, ne_eq] at hc)
      · have hi2 : i < es.length := by omega
        have hmem : es.getD i default ∈ es := by rw [List.getD_eq_getElem?_getD, List.getElem?_eq_getElem hi2]; exact List.getElem_mem hi2
        have hop : (es.getD i default).op.ok := (hf _ hmem).2.2
        refine r_skip ?_
        refine cC ?_
        refine rS ?_
        refine r_block ?_
        refine rS ?_
        refine rR (id := 8) ?_
        refine oG (g_fld (evv rfl)) rfl rfl ?_
        refine oG (g_load (evv rfl) (by rfl) (by rfl)) rfl rfl ?_
        refine oG (gM (evv rfl)) rfl rfl ?_
        refine oG (g_idxFN (evv rfl) (evv rfl) (by rfl) (by rfl) (by first | omega | (have := of_decide_eq_true hg; omega) | (simp at hg; omega) | (simp only [List.length_set, List.length_append, List.length_cons, List.length_nil, List.length_map, List.length_take, List.length_drop, List.length_replicate]; omega))) rfl rfl ?_
        refine oG (g_fldE (evv rfl) (by first | (simp only [frow, mrow]; omega) | (simp only [frow, mrow, List.length_set, List.length_append, List.length_cons]; omega) | fail) (by first | exact Nat.succ_pos _ | decide)) rfl rfl ?_
        refine oG (g_loadFP (evv rfl) (by rfl) (by first | omega | (have := of_decide_eq_true hg; omega) | (simp at hg; omega) | (simp only [List.length_set, List.length_append, List.length_cons, List.length_nil, List.length_map, List.length_take, List.length_drop, List.length_replicate]; omega)) (by first | (intro; rfl) | exact LenC.h) (by rfl)) rfl rfl ?_
        (refine o_call rfl _ (Ent.refl _) (ROpEnc_c _ _ (by assumption)) rfl ?_; rintro _ _ ⟨v, rfl, rfl⟩)
        refine oG (gM (evv rfl)) rfl rfl ?_
        refine oG (g_extract (evv rfl) (by rfl)) rfl rfl ?_
        refine oG (g_extract (evv rfl) (by rfl)) rfl rfl ?_
        refine oG (gA (evv rfl)) rfl rfl ?_
        refine oG (gA (evv rfl)) rfl rfl ?_
        refine oN ?_
        refine cC ?_
        refine rS ?_
        refine rR (id := 9) ?_
        refine oG (gM (evv rfl)) rfl rfl ?_
        refine oG (g_bin (evv rfl) (evv rfl) (by rfl)) rfl rfl ?_
        refine oN ?_
        refine cC ?_
        refine r_cond rfl (fun hg => ?_) (fun hg => ?_) <;> (try simp only [decide_eq_true_eq, decide_eq_false_iff_not, Bool.and_eq_true, Bool.or_eq_true, Bool.not_eq_true', Bool.and_eq_false_iff, Bool.or_eq_false_iff, Bool.not_eq_false', Bool.not_eq_true, Bool.not_eq_false, Bool.true_eq_false, Bool.false_eq_true, Int.not_lt, Int.not_le, not_and, not_or, ne_eq] at hg)
        · have hlo : longOp (es.getD i default).op := by
            by_cases h : longOp (es.getD i default).op
            · exact h
            · rw [if_neg h] at hg; exact absurd rfl hg
          rw [decide_eq_false (fun h => (hn.1 h).2 _ hmem hlo)]
          refine rS ?_
          refine rR (id := 10) ?_
          refine oG (gA (evv rfl)) rfl rfl ?_
          refine oN ?_
          refine cC ?_
          first | refine r_ret (rs := [.tmp 2]) rfl rfl _ ((Lay.ent (L' := L))) ?_ | refine c_end (rs := [.tmp 2]) rfl rfl _ ((Lay.ent (L' := L))) ?_
          exact ⟨rfl, rfl⟩
        · have hlo : ¬ longOp (es.getD i default).op := fun h => by rw [if_pos h] at hg; exact absurd hg (by decide)
          refine r_skip ?_
          refine c_blk ?_
          refine cC ?_
          refine rR (id := 7) ?_
          refine oG (gM (evv rfl)) rfl rfl ?_
          refine o_giveN (g_bin (evv rfl) (evv rfl) (by rfl)) (by simp only [inR]; omega) rfl ?_
          refine oG (gA (evv rfl)) rfl rfl ?_
          refine oN ?_
          refine c_loop (i + 1) ?_ ?_ (by repeat (first | exact trivial | refine ⟨rfl, ?_⟩ | refine envsub_v rfl (by first | rfl | (refine int_eq ?_; first | omega | (simp; omega) | (simp; done)) | (refine bool_eq ?_; first | (simp [*]; done) | (simp; done)) | (refine str_eq ?_; simp; done) | (refine ptr_eq ?_; omega) | fail) ?_)) ?_ <;> (try dsimp only)
          · refine ⟨by omega, fun e he => ?_⟩
            rw [List.take_succ_eq_append_getElem hi2, List.mem_append, List.mem_singleton] at he
            rcases he with he | rfl
            · exact hlong e he
            · simpa [hi2] using hlo
          · omega
          · exact Lay.ent
      · obtain rfl : i = es.length := by omega
        rw [List.take_length] at hlong
        rw [decide_eq_true (hn.2 ⟨hnum, hlong⟩)]
        refine r_exit rfl ?_
        refine cC ?_
        refine rS ?_
        refine rR (id := 11) ?_
        refine oG (gA (evv rfl)) rfl rfl ?_
        refine oN ?_
        refine cC ?_
        first | refine r_ret (rs := [.tmp 2]) rfl rfl _ ((Lay.ent (L' := L))) ?_ | refine c_end (rs := [.tmp 2]) rfl rfl _ ((Lay.ent (L' := L))) ?_
        exact ⟨rfl, rfl⟩
end VK

namespace VK
open Go Go.Proofs
set_option linter.unusedSimpArgs false
set_option linter.unusedVariables false
set_option maxRecDepth 100000
set_option maxHeartbeats 40000000
theorem entsB_bound {es : List EntS} (hf : ∀ e ∈ es, e.ok) (i : Nat) : (entsB (es.take i)).length ≤ 3440 * es.length := by
  have := entsB_len (l := es.take i) (fun e he => hf e (List.mem_of_mem_take he))
  rw [List.length_take] at this
  have h2 : 3440 * min i es.length ≤ 3440 * es.length := Nat.mul_le_mul_left _ (Nat.min_le_right _ _)
  omega
theorem rjEntries_c (L : List Atom) (ve : Value) (es : List EntS) [rd : Rd L ve (entR es)] (hf : ∀ e ∈ es, e.ok) (hl : es.length ≤ 1048576) : Fn Try.prog 89 [ve] L fun w L' => True ∧ L' = sl w (bR (entsB es)) :: L := by
  refine fn_intro Try.func89 rfl Try.ntmps89 rfl (fun W0 => ?_)
  simp only [argE]
  refine rS ?_
  refine rR (id := 0) ?_
  refine oG (gA (evv rfl)) rfl rfl ?_
  refine oN ?_
  refine cC ?_
  refine rS ?_
  refine rR (id := 1) ?_
  refine oG (gA (evv rfl)) rfl rfl ?_
  refine oN ?_
  refine cC ?_
  refine rS ?_
  refine rS ?_
  refine rR (id := 2) ?_
  refine oG (gA (evv rfl)) rfl rfl ?_
  refine oN ?_
  refine cC ?_
  refine r_block ?_
  refine r_ent (sl (.slice none 0 0) (mrow by8 5 []) :: L) (Ent.nilM by8 5) ?_
  refine r_loopE (σ := Nat × Value) (fun ⟨i, vb⟩ => i ≤ es.length) (fun ⟨i, vb⟩ => es.length - i) (fun ⟨i, vb⟩ => [(3, .v (vb)), (4, .v (.int .i64 i))]) [0] (fun ⟨i, vb⟩ => sl vb (bR (entsB (es.take i))) :: L) (0, .slice none 0 0) (by dsimp only [pickE, pick1, lk2, Nat.reduceBEq, Nat.reduceAdd, Nat.zero_add, cond_true, cond_false] <;> exact rfl) ?_ (by repeat (first | exact trivial | refine ⟨rfl, ?_⟩ | refine envsub_v rfl (by first | rfl | (refine int_eq ?_; first | omega | (simp; omega) | (simp; done)) | (refine bool_eq ?_; first | (simp [*]; done) | (simp; done)) | (refine str_eq ?_; simp; done) | (refine ptr_eq ?_; omega) | fail) ?_)) ?_ ?_
  · exact Nat.zero_le _
  · exact Ent.refl _
  rintro ⟨i, vb⟩ hi; (try dsimp only at hi); dsimp only [List.cons_append, List.nil_append]
  refine rS ?_
  refine rS ?_
  refine rR (id := 3) ?_
  refine oG (gM (evv rfl)) rfl rfl ?_
  refine oG (gM (evv rfl)) rfl rfl ?_
  refine oG (g_lenF (evv rfl)) rfl rfl ?_
  refine oG (g_bin (evv rfl) (evv rfl) (by rfl)) rfl rfl ?_
  refine oN ?_
  refine cC ?_
  refine r_cond rfl (fun hc => ?_) (fun hc => ?_) <;> (try simp only [decide_eq_true_eq, decide_eq_false_iff_not, Bool.and_eq_true, Bool.or_eq_true, Bool.not_eq_true', Bool.and_eq_false_iff, Bool.or_eq_false_iff, Bool.not_eq_false', Bool.not_eq_true, Bool.not_eq_false, Bool.true_eq_false, Bool.false_eq_true, Int.not_lt, Int.not_le, not_and, not_or, ne_eq] at hc)
  · have hi2 : i < es.length := by omega
    have hmem : es.getD i default ∈ es := by rw [List.getD_eq_getElem?_getD, List.getElem?_eq_getElem hi2]; exact List.getElem_mem hi2
    have he := hf _ hmem
    have hB := entsB_bound hf i
    have hB2 : (entsB (es.take i)).length ≤ 4000000000 := by omega
    have hS := entsB_snoc hi2
    have hop : (es.getD i default).op.ok := he.2.2
    have b1 := intB_len he.1
    have b2 := intB_len he.2.1
    have hbl := opB_len hop
    obtain ⟨⟨hc1, hc2⟩, ⟨hn1, hn2⟩, _⟩ := he
    generalize hbe : entsB (es.take i) = be at *
    refine r_skip ?_
    refine cC ?_
    refine rS ?_
    refine r_block ?_
    refine rS ?_
    refine rR (id := 5) ?_
    refine oG (gM (evv rfl)) rfl rfl ?_
    refine oG (gM (evv rfl)) rfl rfl ?_
    refine oG (g_idxFN (evv rfl) (evv rfl) (by rfl) (by rfl) (by first | omega | (have := of_decide_eq_true hg; omega) | (simp at hg; omega) | (simp only [List.length_set, List.length_append, List.length_cons, List.length_nil, List.length_map, List.length_take, List.length_drop, List.length_replicate]; omega))) rfl rfl ?_
    refine oG (g_fldE (evv rfl) (by first | (simp only [frow, mrow]; omega) | (simp only [frow, mrow, List.length_set, List.length_append, List.length_cons]; omega) | fail) (by first | exact Nat.succ_pos _ | decide)) rfl rfl ?_
    refine oG (g_loadFP (evv rfl) (by rfl) (by first | omega | (have := of_decide_eq_true hg; omega) | (simp at hg; omega) | (simp only [List.length_set, List.length_append, List.length_cons, List.length_nil, List.length_map, List.length_take, List.length_drop, List.length_replicate]; omega)) (by first | (intro; rfl) | exact LenC.h) (by rfl)) rfl rfl ?_
    (refine o_call rfl _ (Ent.refl _) (ROpEnc_c _ _ (by assumption)) rfl ?_; rintro _ _ ⟨v, rfl, rfl⟩)
    refine oG (gM (evv rfl)) rfl rfl ?_
    refine oG (g_extract (evv rfl) (by rfl)) rfl rfl ?_
    refine oG (g_extract (evv rfl) (by rfl)) rfl rfl ?_
    refine oG (gA (evv rfl)) rfl rfl ?_
    refine oG (gA (evv rfl)) rfl rfl ?_
    refine oN ?_
    refine cC ?_
    refine rS ?_
    rw [show (if longOp (es.getD i default).op then [] else encOp (es.getD i default).op) = opB (es.getD i default).op from rfl]
    generalize hoe : opB (es.getD i default).op = oe at *
    have tb := textB_len (s := oe) (by omega)
    refine rR (id := 6) ?_
    refine oG (gM (evv rfl)) rfl rfl ?_
    refine oG (gM (evv rfl)) rfl rfl ?_
    refine oG (gM (evv rfl)) rfl rfl ?_
    refine oG (g_idxFN (evv rfl) (evv rfl) (by rfl) (by rfl) (by first | omega | (have := of_decide_eq_true hg; omega) | (simp at hg; omega) | (simp only [List.length_set, List.length_append, List.length_cons, List.length_nil, List.length_map, List.length_take, List.length_drop, List.length_replicate]; omega))) rfl rfl ?_
    refine oG (g_fldE (evv rfl) (by first | (simp only [frow, mrow]; omega) | (simp only [frow, mrow, List.length_set, List.length_append, List.length_cons]; omega) | fail) (by first | exact Nat.succ_pos _ | decide)) rfl rfl ?_
    refine oG (g_loadFld (evv rfl) (by rfl) (by first | (intro; rfl) | exact LenC.h) (by first | omega | (have := of_decide_eq_true hg; omega) | (simp at hg; omega) | (simp only [List.length_set, List.length_append, List.length_cons, List.length_nil, List.length_map, List.length_take, List.length_drop, List.length_replicate]; omega)) (by rfl)) rfl rfl ?_
    (refine o_call rfl _ (Ent.refl _) (rInt_c _ _ (by omega)) rfl ?_; rintro _ _ ⟨_, rfl⟩)
    refine o_appM (evv rfl) (evv rfl) (by rfl) (by rfl) (by rfl) (by (try simp only [bsOf, List.length_append, List.length_cons, List.length_nil, List.length_take, List.length_drop, List.length_drop, List.length_map, List.length_range]); omega) rfl (fun _ => ?_)
    refine oG (gA (evv rfl)) rfl rfl ?_
    refine oN ?_
    refine cC ?_
    refine rS ?_
    refine rR (id := 7) ?_
    refine oG (gM (evv rfl)) rfl rfl ?_
    refine oG (gM (evv rfl)) rfl rfl ?_
    refine oG (gM (evv rfl)) rfl rfl ?_
    refine oG (g_idxFN (evv rfl) (evv rfl) (by rfl) (by rfl) (by first | omega | (have := of_decide_eq_true hg; omega) | (simp at hg; omega) | (simp only [List.length_set, List.length_append, List.length_cons, List.length_nil, List.length_map, List.length_take, List.length_drop, List.length_replicate]; omega))) rfl rfl ?_
    refine oG (g_fldE (evv rfl) (by first | (simp only [frow, mrow]; omega) | (simp only [frow, mrow, List.length_set, List.length_append, List.length_cons]; omega) | fail) (by first | exact Nat.succ_pos _ | decide)) rfl rfl ?_
    refine oG (g_loadFld (evv rfl) (by rfl) (by first | (intro; rfl) | exact LenC.h) (by first | omega | (have := of_decide_eq_true hg; omega) | (simp at hg; omega) | (simp only [List.length_set, List.length_append, List.length_cons, List.length_nil, List.length_map, List.length_take, List.length_drop, List.length_replicate]; omega)) (by rfl)) rfl rfl ?_
    (refine o_call rfl _ (Ent.refl _) (rInt_c _ _ (by omega)) rfl ?_; rintro _ _ ⟨_, rfl⟩)
    refine o_appM (evv rfl) (evv rfl) (by rfl) (by rfl) (by rfl) (by (try simp only [bsOf, List.length_append, List.length_cons, List.length_nil, List.length_take, List.length_drop, List.length_drop, List.length_map, List.length_range]); omega) rfl (fun _ => ?_)
    refine oG (gA (evv rfl)) rfl rfl ?_
    refine oN ?_
    refine cC ?_
    refine rR (id := 8) ?_
    refine oG (gM (evv rfl)) rfl rfl ?_
    refine oG (gM (evv rfl)) rfl rfl ?_
    refine oG (g_b2sM (evv rfl)) rfl rfl ?_
    (refine o_call rfl _ (Ent.refl _) (rText_c _ _ (by omega)) rfl ?_; rintro _ _ ⟨_, rfl⟩)
    refine o_appM (evv rfl) (evv rfl) (by rfl) (by rfl) (by rfl) (by (try simp only [bsOf, List.length_append, List.length_cons, List.length_nil, List.length_take, List.length_drop, List.length_drop, List.length_map, List.length_range]); omega) rfl (fun _ => ?_)
    refine oG (gA (evv rfl)) rfl rfl ?_
    refine oN ?_
    refine c_blk ?_
    refine cC ?_
    rename_i vn
    refine rR (id := 4) ?_
    refine oG (gM (evv rfl)) rfl rfl ?_
    refine o_giveN (g_bin (evv rfl) (evv rfl) (by rfl)) (by simp only [inR]; omega) rfl ?_
    refine oG (gA (evv rfl)) rfl rfl ?_
    refine oN ?_
    refine c_loop (i + 1, vn) ?_ ?_ (by repeat (first | exact trivial | refine ⟨rfl, ?_⟩ | refine envsub_v rfl (by first | rfl | (refine int_eq ?_; first | omega | (simp; omega) | (simp; done)) | (refine bool_eq ?_; first | (simp [*]; done) | (simp; done)) | (refine str_eq ?_; simp; done) | (refine ptr_eq ?_; omega) | fail) ?_)) ?_ <;> (try dsimp only)
    · omega
    · omega
    · rw [hS, show be ++ entB (es.getD i default) = be ++ intB (es.getD i default).client ++ intB (es.getD i default).number ++ textB oe by rw [← hoe]; simp [entB]]
      exact Lay.ent
  · obtain rfl : i = es.length := by omega
    rw [List.take_length]
    refine r_exit rfl ?_
    refine cC ?_
    refine rS ?_
    refine rR (id := 9) ?_
    refine oG (gM (evv rfl)) rfl rfl ?_
    refine oG (gA (evv rfl)) rfl rfl ?_
    refine oN ?_
    refine cC ?_
    first | refine r_ret (rs := [.tmp 2]) rfl rfl _ (Ent.refl _) ?_ | refine c_end (rs := [.tmp 2]) rfl rfl _ (Ent.refl _) ?_
    exact ⟨trivial, rfl⟩
end VK

namespace VK
open Go Go.Proofs
set_option linter.unusedSimpArgs false
set_option linter.unusedVariables false
set_option maxRecDepth 100000
set_option maxHeartbeats 40000000
theorem rjWhole_c (L : List Atom) (k : KeptS) (ve : Value) [rd : Rd L ve (entR k.ents)] (hk : k.ok) (hf : k.fine) : Fn Try.prog 86 [agg (kC k.view k.normal k.base k.state ve)] L fun w L' => True ∧ L' = sl w (bR (payW k)) :: L := by
  have hgr : gr = 1099511627776 := rfl
  obtain ⟨a1, a2, a3, a4, a5, a6, a7, a8, a9, a10, a11⟩ := hk
  have hfe : ∀ e ∈ k.ents, e.ok := hf
  have hl5 : k.ents.length ≤ 1048576 := by omega
  have e1 : k.view % 18446744073709551616 = k.view := Int.emod_eq_of_lt a1 (by omega)
  have e2 : k.normal % 18446744073709551616 = k.normal := Int.emod_eq_of_lt a3 (by omega)
  have e3 : k.base % 18446744073709551616 = k.base := Int.emod_eq_of_lt a5 (by omega)
  have n0 := num_le 4 (by omega)
  have n1 := num_le k.view.toNat (by omega)
  have n2 := num_le k.normal.toNat (by omega)
  have n3 := num_le k.base.toNat (by omega)
  have n4 := textB_len (s := k.state) (by omega)
  have n5 := num_le k.ents.length (by omega)
  have n6 := entsB_len hfe
  have h4 : (Int.toNat 4) = 4 := rfl
  refine fn_intro Try.func86 rfl Try.ntmps86 rfl (fun W0 => ?_)
  simp only [argE]
  refine rS ?_
  refine rR (id := 0) ?_
  refine o_boxA (evv rfl) rfl (fun _ => ?_)
  refine oG (gA (evv rfl)) rfl rfl ?_
  refine oN ?_
  refine cC ?_
  refine rS ?_
  refine rR (id := 1) ?_
  (refine o_call rfl _ (Ent.refl _) (rNum_l _ (by omega)) rfl ?_; rintro _ _ ⟨_, rfl⟩; (try simp only [Int.toNat_natCast]))
  refine oG (gA (evv rfl)) rfl rfl ?_
  refine oN ?_
  refine cC ?_
  refine rS ?_
  rw [h4]
  refine rR (id := 2) ?_
  refine oG (gM (evv rfl)) rfl rfl ?_
  refine oG (g_fld (evv rfl)) rfl rfl ?_
  refine oG (g_load (evv rfl) (by rfl) (by rfl)) rfl rfl ?_
  refine o_giveN (g_conv TyU.h TyU.h (evv rfl)) (by simp only [inR]; omega) rfl ?_
  (refine o_call rfl _ (Ent.refl _) (rNum_l _ (by omega)) rfl ?_; rintro _ _ ⟨_, rfl⟩; (try simp only [Int.toNat_natCast]))
  refine o_appM (evv rfl) (evv rfl) (by rfl) (by rfl) (by rfl) (by (try simp only [bsOf, List.length_append, List.length_cons, List.length_nil, List.length_take, List.length_drop, List.length_drop, List.length_map, List.length_range]); omega) rfl (fun _ => ?_)
  refine oG (gA (evv rfl)) rfl rfl ?_
  refine oN ?_
  refine cC ?_
  refine rS ?_
  try rw [e1]
  refine rR (id := 3) ?_
  refine oG (gM (evv rfl)) rfl rfl ?_
  refine oG (g_fld (evv rfl)) rfl rfl ?_
  refine oG (g_load (evv rfl) (by rfl) (by rfl)) rfl rfl ?_
  refine o_giveN (g_conv TyU.h TyU.h (evv rfl)) (by simp only [inR]; omega) rfl ?_
  (refine o_call rfl _ (Ent.refl _) (rNum_l _ (by omega)) rfl ?_; rintro _ _ ⟨_, rfl⟩; (try simp only [Int.toNat_natCast]))
  refine o_appM (evv rfl) (evv rfl) (by rfl) (by rfl) (by rfl) (by (try simp only [bsOf, List.length_append, List.length_cons, List.length_nil, List.length_take, List.length_drop, List.length_drop, List.length_map, List.length_range]); omega) rfl (fun _ => ?_)
  refine oG (gA (evv rfl)) rfl rfl ?_
  refine oN ?_
  refine cC ?_
  refine rS ?_
  try rw [e2]
  refine rR (id := 4) ?_
  refine oG (gM (evv rfl)) rfl rfl ?_
  refine oG (g_fld (evv rfl)) rfl rfl ?_
  refine oG (g_load (evv rfl) (by rfl) (by rfl)) rfl rfl ?_
  refine o_giveN (g_conv TyU.h TyU.h (evv rfl)) (by simp only [inR]; omega) rfl ?_
  (refine o_call rfl _ (Ent.refl _) (rNum_l _ (by omega)) rfl ?_; rintro _ _ ⟨_, rfl⟩; (try simp only [Int.toNat_natCast]))
  refine o_appM (evv rfl) (evv rfl) (by rfl) (by rfl) (by rfl) (by (try simp only [bsOf, List.length_append, List.length_cons, List.length_nil, List.length_take, List.length_drop, List.length_drop, List.length_map, List.length_range]); omega) rfl (fun _ => ?_)
  refine oG (gA (evv rfl)) rfl rfl ?_
  refine oN ?_
  refine cC ?_
  refine rS ?_
  try rw [e3]
  refine rR (id := 5) ?_
  refine oG (gM (evv rfl)) rfl rfl ?_
  refine oG (g_fld (evv rfl)) rfl rfl ?_
  refine oG (g_load (evv rfl) (by rfl) (by rfl)) rfl rfl ?_
  (refine o_call rfl _ (Ent.refl _) (rText_c _ _ (by omega)) rfl ?_; rintro _ _ ⟨_, rfl⟩)
  refine o_appM (evv rfl) (evv rfl) (by rfl) (by rfl) (by rfl) (by (try simp only [bsOf, List.length_append, List.length_cons, List.length_nil, List.length_take, List.length_drop, List.length_drop, List.length_map, List.length_range]); omega) rfl (fun _ => ?_)
  refine oG (gA (evv rfl)) rfl rfl ?_
  refine oN ?_
  refine cC ?_
  refine rS ?_
  refine rR (id := 6) ?_
  refine oG (gM (evv rfl)) rfl rfl ?_
  refine oG (g_fld (evv rfl)) rfl rfl ?_
  refine oG (g_load (evv rfl) (by rfl) (by rfl)) rfl rfl ?_
  refine oG (g_lenF (evv rfl)) rfl rfl ?_
  refine o_giveN (g_conv TyU.h TyU.h (evv rfl)) (by simp only [inR]; omega) rfl ?_
  (refine o_call rfl _ (Ent.refl _) (rNum_l _ (by omega)) rfl ?_; rintro _ _ ⟨_, rfl⟩; (try simp only [Int.toNat_natCast]))
  refine o_appM (evv rfl) (evv rfl) (by rfl) (by rfl) (by rfl) (by (try simp only [bsOf, List.length_append, List.length_cons, List.length_nil, List.length_take, List.length_drop, List.length_drop, List.length_map, List.length_range]); omega) rfl (fun _ => ?_)
  refine oG (gA (evv rfl)) rfl rfl ?_
  refine oN ?_
  refine cC ?_
  refine rS ?_
  refine rR (id := 7) ?_
  refine oG (gM (evv rfl)) rfl rfl ?_
  refine oG (g_fld (evv rfl)) rfl rfl ?_
  refine oG (g_load (evv rfl) (by rfl) (by rfl)) rfl rfl ?_
  (refine o_call rfl _ (Ent.refl _) (rjEntries_c _ _ _ (by assumption) (by first | assumption | omega)) rfl ?_; rintro ev _ ⟨-, rfl⟩)
  refine o_appM (evv rfl) (evv rfl) (by rfl) (by rfl) (by rfl) (by (try simp only [bsOf, List.length_append, List.length_cons, List.length_nil, List.length_take, List.length_drop, List.length_drop, List.length_map, List.length_range]); omega) rfl (fun _ => ?_)
  refine oG (gA (evv rfl)) rfl rfl ?_
  refine oN ?_
  refine cC ?_
  rw [show num 4 ++ num k.view.toNat ++ num k.normal.toNat ++ num k.base.toNat ++ textB k.state ++ num k.ents.length ++ entsB k.ents = payW k from rfl]
  rename_i w
  first | refine r_ret (rs := [.tmp 2]) rfl rfl _ ((Lay.ent (L' := sl w (mrow by8 5 (payW k)) :: L))) ?_ | refine c_end (rs := [.tmp 2]) rfl rfl _ ((Lay.ent (L' := sl w (mrow by8 5 (payW k)) :: L))) ?_
  exact ⟨trivial, rfl⟩
end VK

namespace VK
open Go Go.Proofs
set_option linter.unusedSimpArgs false
set_option linter.unusedVariables false
set_option maxRecDepth 100000
set_option maxHeartbeats 40000000
theorem rjRead_c (F : List Atom) (y : Nat) (u : Value) (B : List UInt8) [rd : Rd F u (bR B)] (hB : B.length ≤ 140737488355000) (a : Nat) (ha : a ≤ B.length) (e : Int) (n : Nat) (hn : n ≤ 18446744073709551615) :
    Fn Try.prog 82 [.pointer (some ⟨y, 0, none⟩), .int .u64 (n : Int)] (blk y (rC u a e) :: F) fun w L' => ∃ v ok l a' e', w = .tuple #[v, .bool ok] ∧ L' = sl v (entR l) :: blk y (rC u a' e') :: F ∧ a' ≤ B.length ∧
      ((ok = true ∧ n ≤ 32 ∧ entsR n ⟨B.drop a, e⟩ = some (l, ⟨B.drop a', e'⟩)) ∨ (ok = false ∧ l = [] ∧ (32 < n ∨ entsR n ⟨B.drop a, e⟩ = none))) := by
  refine fn_intro Try.func82 rfl Try.ntmps82 rfl (fun W0 => ?_)
  simp only [argE]
  refine rS ?_
  refine rR (id := 0) ?_
  refine oG (gA (evv rfl)) rfl rfl ?_
  refine oG (gA (evv rfl)) rfl rfl ?_
  refine oN ?_
  refine cC ?_
  refine rS ?_
  refine rS ?_
  refine rR (id := 1) ?_
  refine oG (gM (evv rfl)) rfl rfl ?_
  refine oG (g_bin (evv rfl) (evv rfl) (by rfl)) rfl rfl ?_
  refine oN ?_
  refine cC ?_
  refine r_cond rfl (fun h32 => ?_) (fun h32 => ?_) <;> (try simp only [decide_eq_true_eq, decide_eq_false_iff_not, Bool.and_eq_true, Bool.or_eq_true, Bool.not_eq_true', Bool.and_eq_false_iff, Bool.or_eq_false_iff, Bool.not_eq_false', Bool.not_eq_true, Bool.not_eq_false, Bool.true_eq_false, Bool.false_eq_true, Int.not_lt, Int.not_le, not_and, not_or, ne_eq] at h32)
  · refine rS ?_
    refine rR (id := 2) ?_
    refine oG (gA (evv rfl)) rfl rfl ?_
    refine oG (gA (evv rfl)) rfl rfl ?_
    refine oN ?_
    refine cC ?_
    first | refine r_ret (rs := [.tmp 4, .tmp 5]) rfl rfl _ (((Lay.ent (L' := blk y (rC u a e) :: F)).trans (Ent.nilsl 50 8))) ?_ | refine c_end (rs := [.tmp 4, .tmp 5]) rfl rfl _ (((Lay.ent (L' := blk y (rC u a e) :: F)).trans (Ent.nilsl 50 8))) ?_
    exact ⟨_, _, _, _, _, rfl, rfl, ha, .inr ⟨rfl, rfl, .inl (by omega)⟩⟩
  · have h32 : n ≤ 32 := by omega
    refine r_skip ?_
    refine cC ?_
    refine rS ?_
    refine rR (id := 3) ?_
    refine oG (gA (evv rfl)) rfl rfl ?_
    refine oN ?_
    refine cC ?_
    refine rS ?_
    refine rS ?_
    refine rR (id := 4) ?_
    refine oG (gA (evv rfl)) rfl rfl ?_
    refine oN ?_
    refine cC ?_
    refine r_block ?_
    refine r_ent (sl (.slice none 0 0) (entR []) :: blk y (rC u a e) :: F) (Ent.nilsl 50 8) ?_
    refine r_loopE (σ := Nat × Value × List EntS × Nat × Int) (fun ⟨j, v, l, a1, e1⟩ => j ≤ n ∧ l.length = j ∧ a1 ≤ B.length ∧ entsR n ⟨B.drop a, e⟩ = preE l (entsR (n - j) ⟨B.drop a1, e1⟩)) (fun ⟨j, v, l, a1, e1⟩ => n - j) (fun ⟨j, v, l, a1, e1⟩ => [(6, .v (v)), (7, .v (.int .u64 (j : Int)))]) [0, 1] (fun ⟨j, v, l, a1, e1⟩ => sl v (entR l) :: blk y (rC u a1 e1) :: F) (0, .slice none 0 0, [], a, e) (by dsimp only [pickE, pick1, lk2, Nat.reduceBEq, Nat.reduceAdd, Nat.zero_add, cond_true, cond_false] <;> exact rfl) ?_ (by repeat (first | exact trivial | refine ⟨rfl, ?_⟩ | refine envsub_v rfl (by first | rfl | (refine int_eq ?_; first | omega | (simp; omega) | (simp; done)) | (refine bool_eq ?_; first | (simp [*]; done) | (simp; done)) | (refine str_eq ?_; simp; done) | (refine ptr_eq ?_; omega) | fail) ?_)) ?_ ?_
    · refine ⟨Nat.zero_le _, rfl, ha, ?_⟩
      rw [Nat.sub_zero]
      cases entsR n ⟨B.drop a, e⟩ with
      | none => rfl
      | some x => rfl
    · exact Ent.refl _
    rintro ⟨j, v, l, a1, e1⟩ ⟨hj, hl, ha1, hI⟩; dsimp only [List.cons_append, List.nil_append]
    refine rS ?_
    refine rS ?_
    refine rR (id := 5) ?_
    refine oG (gM (evv rfl)) rfl rfl ?_
    refine oG (gM (evv rfl)) rfl rfl ?_
    refine oG (g_bin (evv rfl) (evv rfl) (by rfl)) rfl rfl ?_
    refine oN ?_
    refine cC ?_
    refine r_cond rfl (fun hc => ?_) (fun hc => ?_) <;> (try simp only [decide_eq_true_eq, decide_eq_false_iff_not, Bool.and_eq_true, Bool.or_eq_true, Bool.not_eq_true', Bool.and_eq_false_iff, Bool.or_eq_false_iff, Bool.not_eq_false', Bool.not_eq_true, Bool.not_eq_false, Bool.true_eq_false, Bool.false_eq_true, Int.not_lt, Int.not_le, not_and, not_or, ne_eq] at hc)
    · have hj2 : n - j = (n - (j + 1)) + 1 := by omega
      have hl32 : l.length + 1 ≤ 32 := by omega
      refine r_skip ?_
      refine cC ?_
      refine rS ?_
      refine r_block ?_
      refine rS ?_
      refine rR (id := 7) ?_
      refine o_alloc rfl rfl (fun _ => ?_)
      refine oN ?_
      refine cC ?_
      refine rS ?_
      refine rR (id := 8) ?_
      refine oG (gM (evv rfl)) rfl rfl ?_
      (refine o_call rfl _ (Ent.refl _) (Fn.atPick (rIntN_g _ (by assumption) (by assumption) _)) rfl ?_; rintro _ _ ⟨ra, re, hra, rfl, hrs, rfl⟩)
      refine oG (g_fld (evv rfl)) rfl rfl ?_
      refine o_store1 (evv rfl) (evv rfl) (by rfl) (by rfl) (by rfl) ?_
      refine oN ?_
      refine cC ?_
      refine rS ?_
      refine rR (id := 9) ?_
      refine oG (gM (evv rfl)) rfl rfl ?_
      (refine o_call rfl _ (Ent.refl _) (Fn.atPick (rIntN_g _ (by assumption) (by assumption) _)) rfl ?_; rintro _ _ ⟨ra, re, hra, rfl, hrs, rfl⟩)
      refine oG (g_fld (evv rfl)) rfl rfl ?_
      refine o_store1 (evv rfl) (evv rfl) (by rfl) (by rfl) (by rfl) ?_
      refine oN ?_
      refine cC ?_
      refine rS ?_
      rename_i q ra0 re0 hra0 hrs0
      have hrs1 := hrs
      have htl := text_len (m := 262144) (s := ⟨B.drop ra, re⟩) (by omega)
      have hT : (numR (numR ⟨B.drop a1, e1⟩).2).2 = ⟨B.drop ra, re⟩ := by rw [hrs0]; exact hrs
      cases hd : decOp (textR 262144 ⟨B.drop ra, re⟩).1 with
      | none =>
        have h1 : entR1 ⟨B.drop a1, e1⟩ = none := by unfold entR1; rw [hT, hd]
        have h2 : entsR n ⟨B.drop a, e⟩ = none := by rw [hI, hj2]; exact preE_none h1
        refine rR (id := 10) ?_
        refine oG (gM (evv rfl)) rfl rfl ?_
        (refine o_call rfl _ (Ent.refl _) (Fn.atPick (rText_g _ (by assumption) (by assumption) _ _ (by omega))) rfl ?_; rintro _ _ ⟨ra, re, hra, rfl, hrs, rfl⟩)
        refine o_s2bM (evv rfl) (by (try simp only [bsOf, List.length_append, List.length_cons, List.length_nil]); omega) rfl (fun _ => ?_)
        (refine o_call rfl _ (Ent.refl _) (ROpDec_c _ _ _ (by first | assumption | omega)) rfl ?_; rintro _ _ ⟨rfl, hLz⟩; obtain rfl := hLz.symm; clear hLz)
        refine oG (gM (evv rfl)) rfl rfl ?_
        refine oG (g_extract (evv rfl) (by rfl)) rfl rfl ?_
        refine oG (g_extract (evv rfl) (by rfl)) rfl rfl ?_
        refine o_alloc rfl rfl (fun _ => ?_)
        refine o_storeW (evv rfl) (evv rfl) (by first | rfl | assumption | exact LenC.h _ | (simp [bys, *]; done) | fail) (by first | (intro _ _ _; exact bys_one _) | exact AllOne.h | (intro _ _ _ u hu; simp at hu; rcases hu with rfl | rfl | rfl | rfl | rfl | rfl | rfl | rfl <;> rfl) | fail) (by first | rfl | exact (LenC.h _).trans rfl | exact (LenC.h _).trans (LenC.h _).symm | (simp [bys, *]; done) | (simp only [bys, List.length_map, *]; rfl) | fail) ?_
        refine oG (gA (evv rfl)) rfl rfl ?_
        refine oN ?_
        refine cC ?_
        refine rS ?_
        refine rS ?_
        simp only [hd, ne_eq, not_true_eq_false, decide_false, Bool.not_false]
        refine rR (id := 11) ?_
        refine oG (gM (evv rfl)) rfl rfl ?_
        refine oG (g_not (evv rfl)) rfl rfl ?_
        refine oN ?_
        refine cC ?_
        refine r_cond_true rfl ?_
        refine rS ?_
        refine rR (id := 12) ?_
        refine oG (gA (evv rfl)) rfl rfl ?_
        refine oG (gA (evv rfl)) rfl rfl ?_
        refine oN ?_
        refine cC ?_
        first | refine r_ret (rs := [.tmp 4, .tmp 5]) rfl rfl _ (((Lay.ent (L' := blk y (rC u ra re) :: F)).trans (Ent.nilsl 50 8))) ?_ | refine c_end (rs := [.tmp 4, .tmp 5]) rfl rfl _ (((Lay.ent (L' := blk y (rC u ra re) :: F)).trans (Ent.nilsl 50 8))) ?_
        exact ⟨_, _, _, _, _, rfl, rfl, hra, .inr ⟨rfl, rfl, .inr h2⟩⟩
      | some o =>
        have h1 : entR1 ⟨B.drop a1, e1⟩ = some (⟨unzig (numR ⟨B.drop a1, e1⟩).1, unzig (numR ⟨B.drop ra0, re0⟩).1, o⟩, (textR 262144 ⟨B.drop ra, re⟩).2) := by unfold entR1; rw [hT, hd, hrs0]
        refine rR (id := 10) ?_
        refine oG (gM (evv rfl)) rfl rfl ?_
        (refine o_call rfl _ (Ent.refl _) (Fn.atPick (rText_g _ (by assumption) (by assumption) _ _ (by omega))) rfl ?_; rintro _ _ ⟨ra, re, hra, rfl, hrs, rfl⟩)
        refine o_s2bM (evv rfl) (by (try simp only [bsOf, List.length_append, List.length_cons, List.length_nil]); omega) rfl (fun _ => ?_)
        (refine o_call rfl _ (Ent.refl _) (ROpDec_c _ _ _ (by first | assumption | omega)) rfl ?_; rintro _ _ ⟨rfl, hLz⟩; obtain rfl := hLz.symm; clear hLz)
        refine oG (gM (evv rfl)) rfl rfl ?_
        refine oG (g_extract (evv rfl) (by rfl)) rfl rfl ?_
        refine oG (g_extract (evv rfl) (by rfl)) rfl rfl ?_
        refine o_alloc rfl rfl (fun _ => ?_)
        refine o_storeW (evv rfl) (evv rfl) (by first | rfl | assumption | exact LenC.h _ | (simp [bys, *]; done) | fail) (by first | (intro _ _ _; exact bys_one _) | exact AllOne.h | (intro _ _ _ u hu; simp at hu; rcases hu with rfl | rfl | rfl | rfl | rfl | rfl | rfl | rfl <;> rfl) | fail) (by first | rfl | exact (LenC.h _).trans rfl | exact (LenC.h _).trans (LenC.h _).symm | (simp [bys, *]; done) | (simp only [bys, List.length_map, *]; rfl) | fail) ?_
        refine oG (gA (evv rfl)) rfl rfl ?_
        refine oN ?_
        refine cC ?_
        refine rS ?_
        refine rS ?_
        rename_i tv ob
        rw [hrs] at h1
        have h2 : entsR n ⟨B.drop a, e⟩ = preE (l ++ [⟨unzig (numR ⟨B.drop a1, e1⟩).1, unzig (numR ⟨B.drop ra0, re0⟩).1, o⟩]) (entsR (n - (j + 1)) ⟨B.drop ra, re⟩) := by rw [hI, hj2]; exact preE_snoc h1
        simp only [hd, Option.getD_some, ne_eq, reduceCtorEq, not_false_eq_true, decide_true, Bool.not_true]
        refine rR (id := 11) ?_
        refine oG (gM (evv rfl)) rfl rfl ?_
        refine oG (g_not (evv rfl)) rfl rfl ?_
        refine oN ?_
        refine cC ?_
        refine r_cond_false rfl ?_
        refine r_skip ?_
        refine cC ?_
        refine rS ?_
        refine rR (id := 13) ?_
        refine oG (g_loadF (evv rfl) (by rfl) (by rfl)) rfl rfl ?_
        refine oG (g_fld (evv rfl)) rfl rfl ?_
        refine o_storeA (evv rfl) (evv rfl) (by first | rfl | assumption | exact LenC.h _ | (simp [bys, *]; done) | fail) (by first | (intro _ _ _; exact bys_one _) | exact AllOne.h | (intro _ _ _ u hu; simp at hu; rcases hu with rfl | rfl | rfl | rfl | rfl | rfl | rfl | rfl <;> rfl) | fail) (by rfl) (by rfl) ?_
        refine oN ?_
        refine cC ?_
        refine rR (id := 14) ?_
        refine oG (gM (evv rfl)) rfl rfl ?_
        refine oG (g_loadF (evv rfl) (by rfl) (by rfl)) rfl rfl ?_
        refine o_litS rfl (by rfl) inferInstance (by rfl) rfl (fun _ => ?_)
        refine o_appF (evv rfl) (evv rfl) (by rfl) (by rfl) (by rfl) (by (try simp only [bsOf, List.length_append, List.length_cons, List.length_nil, List.length_take, List.length_drop, List.length_drop, List.length_map, List.length_range]); omega) rfl (fun _ => ?_)
        refine oG (gA (evv rfl)) rfl rfl ?_
        refine oN ?_
        refine c_blk ?_
        refine cC ?_
        rename_i v'
        refine rR (id := 6) ?_
        refine oG (gM (evv rfl)) rfl rfl ?_
        refine o_giveN (g_bin (evv rfl) (evv rfl) (by rfl)) (by simp only [inR]; omega) rfl ?_
        refine oG (gA (evv rfl)) rfl rfl ?_
        refine oN ?_
        refine c_loop (j + 1, v', l ++ [⟨unzig (numR ⟨B.drop a1, e1⟩).1, unzig (numR ⟨B.drop ra0, re0⟩).1, o⟩], ra, re) ?_ ?_ (by repeat (first | exact trivial | refine ⟨rfl, ?_⟩ | refine envsub_v rfl (by first | rfl | (refine int_eq ?_; first | omega | (simp; omega) | (simp; done)) | (refine bool_eq ?_; first | (simp [*]; done) | (simp; done)) | (refine str_eq ?_; simp; done) | (refine ptr_eq ?_; omega) | fail) ?_)) ?_ <;> (try dsimp only)
        · exact ⟨by omega, by simp [hl], hra, h2⟩
        · omega
        · exact Lay.ent
    · obtain rfl : j = n := by omega
      rw [Nat.sub_self] at hI
      refine r_exit rfl ?_
      refine cC ?_
      refine rS ?_
      refine rR (id := 15) ?_
      refine oG (gM (evv rfl)) rfl rfl ?_
      refine oG (gA (evv rfl)) rfl rfl ?_
      refine oG (gA (evv rfl)) rfl rfl ?_
      refine oN ?_
      refine cC ?_
      first | refine r_ret (rs := [.tmp 4, .tmp 5]) rfl rfl _ (Ent.refl _) ?_ | refine c_end (rs := [.tmp 4, .tmp 5]) rfl rfl _ (Ent.refl _) ?_
      exact ⟨_, _, _, _, _, rfl, rfl, ha1, .inl ⟨rfl, h32, by rw [hI]; simp [entsR, preE]⟩⟩
end VK

namespace VK
open Go Go.Proofs
set_option linter.unusedSimpArgs false
set_option linter.unusedVariables false
set_option maxRecDepth 100000
set_option maxHeartbeats 40000000
def StepK (p : List UInt8) (r : Option KeptS) (x : Bool × KeptS × Nat × Int) : Prop :=
  x.2.2.1 ≤ p.length ∧ x.2.1.fine ∧ x.2.1.ents.length ≤ 1000 ∧ x.2.1.state.length ≤ 140737488355000 ∧ r = if x.1 = true then finK x.2.1 ⟨p.drop x.2.2.1, x.2.2.2⟩ else none
def LieE (ve : Value) (es : List EntS) (l2 : List (Value × Row)) (ve' : Value) (es' : List EntS) : Prop := (ve' = ve ∧ es' = es) ∨ InR l2 ve' (entR es')
theorem LieE.rd {F : List Atom} {ve ve' : Value} {es es' : List EntS} {l2 : List (Value × Row)} (h : LieE ve es l2 ve' es') [rv : Rd F ve (entR es)] : Rd (rom l2 :: F) ve' (entR es') := by
  rcases h with ⟨rfl, rfl⟩ | h
  · exact rv.ent Ent.drop
  · infer_instance
theorem o_rdI {c : Cx} {k : List KI} {E : Env} {R : List Atom} {all rest : List Oper} {ve fv : Value} {es es' : List EntS} {fl : List (Value × Row)} (h : LieE ve es fl fv es') [rd : Rd R ve (entR es)] (hk : Rd (rom fl :: R) fv (entR es') → Ops c all rest k E (rom fl :: R)) : Ops c all rest k E (rom fl :: R) := hk h.rd
def FoldE (F : List Atom) (ve : Value) (es : List EntS) (r : Option KeptS) : Value → List Atom → Prop := fun w L' => ∃ ve' l2, w = foldV' r ve' ∧ L' = rom l2 :: F ∧ LieE ve es l2 ve' (r.getD zeroK).ents
abbrev StK (ve : Value) (es : List EntS) (p : List UInt8) (r : Option KeptS) : Type := {y : (Bool × KeptS × Nat × Int) × Value × List (Value × Row) // StepK p r y.1 ∧ LieE ve es y.2.2 y.2.1 y.1.2.1.ents}
theorem slRom1 {v : Value} {r : Row} {L : List Atom} : Ent (sl v r :: L) (rom [(v, r)] :: L) := Ent.romNil.trans (Ent.swap.trans Ent.romIn)
theorem rjFold_c (F : List Atom) (view normal base : Int) (state : List UInt8) (ve : Value) (es : List EntS) (pv : Value) (p : List UInt8) [rv : Rd F ve (entR es)] [rp' : Rd F pv (bR p)] (hp : p.length ≤ 140737488355000) (hf : ∀ e ∈ es, e.ok) (hk : KeptS.ok ⟨view, normal, base, state, es⟩) :
    Fn Try.prog 59 [agg (kC view normal base state ve), pv] F (FoldE F ve es (foldK ⟨view, normal, base, state, es⟩ p)) := by
  have hgr : gr = 1099511627776 := rfl
  have hk0 := hk
  obtain ⟨a1, a2, a3, a4, a5, a6, a7, a8, a9, a10, a11⟩ := hk
  dsimp only at a1 a2 a3 a4 a5 a6 a7 a8 a9 a10 a11
  have ha0 : 0 ≤ p.length := Nat.zero_le _
  have hN := numR_le ⟨p, 0⟩
  generalize hr : foldK ⟨view, normal, base, state, es⟩ p = r
  have hz : r = none → FoldE F ve es r (tupV [agg (kC 0 0 0 [] (.slice none 0 0)), .bool false]) (rom [((.slice none 0 0), entR [])] :: F) := fun h => by subst h; exact ⟨_, _, rfl, rfl, .inr inferInstance⟩
  have hzE : Ent F (rom [((.slice none 0 0), entR [])] :: F) := (Ent.nilsl 50 8).trans slRom1
  have hw : ∀ m : Nat, ¬ gr < (m : Int) → IntKind.i64.wrap (m : Int) = m := fun m h => wrap_in (by simp only [inR]; omega)
  refine fn_intro Try.func59 rfl Try.ntmps59 rfl (fun W0 => ?_)
  simp only [argE]
  refine rS ?_
  refine rR (id := 0) ?_
  refine o_boxA (evv rfl) rfl (fun _ => ?_)
  refine o_alloc rfl rfl (fun _ => ?_)
  refine oG (gA (evv rfl)) rfl rfl ?_
  refine oN ?_
  refine cC ?_
  refine rS ?_
  refine rR (id := 1) ?_
  refine oG (gM (evv rfl)) rfl rfl ?_
  refine oG (g_buildC rfl (by rfl)) rfl rfl ?_
  refine o_boxA (evv rfl) rfl (fun _ => ?_)
  refine oG (gA (evv rfl)) rfl rfl ?_
  refine oN ?_
  refine cC ?_
  refine rS ?_
  refine rR (id := 2) ?_
  refine oG (g_fld (evv rfl)) rfl rfl ?_
  refine oG (g_load (evv rfl) (by rfl) (by rfl)) rfl rfl ?_
  refine oG (g_fld (evv rfl)) rfl rfl ?_
  refine oG (g_load (evv rfl) (by rfl) (by rfl)) rfl rfl ?_
  refine oG (g_lenF (evv rfl)) rfl rfl ?_
  refine o_giveN (g_bin (evv rfl) (evv rfl) (by rfl)) (by simp only [inR]; omega) rfl ?_
  refine oG (gA (evv rfl)) rfl rfl ?_
  refine oN ?_
  refine cC ?_
  refine rS ?_
  refine rR (id := 3) ?_
  refine oG (gA (evv rfl)) rfl rfl ?_
  refine oN ?_
  refine cC ?_
  refine rS ?_
  refine rR (id := 4) ?_
  refine oG (gA (evv rfl)) rfl rfl ?_
  refine oN ?_
  refine cC ?_
  refine rS ?_
  refine rR (id := 5) ?_
  refine oG (gM (evv rfl)) rfl rfl ?_
  (refine o_call rfl _ (Ent.refl _) (Fn.atPick (rNum_g _ (by assumption) (by assumption) _)) rfl ?_; rintro _ _ ⟨ra, re, hra, rfl, hrs, rfl⟩)
  refine oG (gA (evv rfl)) rfl rfl ?_
  refine oN ?_
  refine cC ?_
  refine rS ?_
  refine rS ?_
  refine rR (id := 6) ?_
  refine oG (gM (evv rfl)) rfl rfl ?_
  refine oN ?_
  refine cC ?_
  rename_i q o y
  rw [List.drop_zero] at hrs ⊢
  refine r_ent (blk y (rC pv ra re) :: blk o ⟨kC 0 0 0 [] (.slice none 0 0), 28⟩ :: blk q ⟨kC view normal base state ve, 28⟩ :: F) (Ent.refl _) ?_
  repeat (first | refine rS ?_ | refine cC ?_ | refine c_blk ?_ | refine r_skip ?_)
  refine r_cutE (σ := StK ve es p r) (fun x => [(8, .v (.bool x.1.1.1))]) [2,4,5,6] (fun x => rom x.1.2.2 :: blk q ⟨kC x.1.1.2.1.view x.1.1.2.1.normal x.1.1.2.1.base x.1.1.2.1.state x.1.2.1, 28⟩ :: blk o ⟨kC 0 0 0 [] (.slice none 0 0), 28⟩ :: blk y (rC pv x.1.1.2.2.1 x.1.1.2.2.2) :: F) (by dsimp only [pickE, pick1, lk2, Nat.reduceBEq, Nat.reduceAdd, Nat.zero_add, cond_true, cond_false] <;> exact rfl) ?_ ?_
  · obtain ⟨ra0, hra0⟩ : ∃ x, x = ra := ⟨_, rfl⟩
    obtain ⟨re0, hre0⟩ : ∃ x, x = re := ⟨_, rfl⟩
    rw [← hra0, ← hre0] at hrs ⊢
    rw [← hra0] at hra
    clear hra0 hre0
    have hrs0 := hrs
    have hM := numR_le ⟨p.drop ra0, re0⟩
    have hu := hr
    unfold foldK at hu
    rw [hrs0] at hu
    generalize (numR ⟨p, 0⟩).1 = n at *
    by_cases k1 : n = 1
    · subst k1
      rw [if_pos rfl] at hu
      refine r_block ?_
      refine rS ?_
      refine rR (id := 7) ?_
      refine oG (g_bin (evv rfl) (evv rfl) (by rfl)) rfl rfl ?_
      refine oG (gA (evv rfl)) rfl rfl ?_
      refine oN ?_
      refine cC ?_
      refine r_cond_true rfl ?_
      refine rS ?_
      refine rR (id := 8) ?_
      refine oG (gM (evv rfl)) rfl rfl ?_
      (refine o_call rfl _ (Ent.refl _) (Fn.atPick (rNum_g _ (by assumption) (by assumption) _)) rfl ?_; rintro _ _ ⟨ra, re, hra, rfl, hrs, rfl⟩)
      refine oG (gA (evv rfl)) rfl rfl ?_
      refine oN ?_
      refine cC ?_
      refine rS ?_
      refine rS ?_
      have hu2 := hu
      unfold foldV at hu2
      rw [hrs] at hu2
      dsimp only at hu2
      generalize (numR ⟨p.drop ra0, re0⟩).1 = m at *
      by_cases hg : gr < (m : Int)
      · have hrn : r = none := by rw [← hu2]; exact if_pos (.inl hg)
        refine rR (id := 9) ?_
        refine oG (gM (evv rfl)) rfl rfl ?_
        refine oG (g_bin (evv rfl) (evv rfl) (by rfl)) rfl rfl ?_
        refine oG (gM (evv rfl)) rfl rfl ?_
        refine o_lazy rfl (fun hg => gM (by first | exact evv rfl | exact evg rfl (by rw [hp]; rfl) | exact evg rfl hp | exact evg rfl hg | exact evg rfl (by first | (simp_all; done) | (simp [*]; done) | fail) | fail)) rfl rfl ?_
        refine o_lazy rfl (fun hg => g_conv TyU.h TyU.h (by first | exact evv rfl | exact evg rfl (by rw [hp]; rfl) | exact evg rfl hp | exact evg rfl hg | exact evg rfl (by first | (simp_all; done) | (simp [*]; done) | fail) | fail)) rfl rfl ?_
        refine o_lazy rfl (fun hg => g_fld (evv rfl)) rfl rfl ?_
        refine o_lazy rfl (fun hg => g_load (evg rfl hg) (by rfl) (by rfl)) rfl rfl ?_
        refine o_lazy rfl (fun hg => g_bin (by first | exact evv rfl | exact evg rfl (by rw [hp]; rfl) | exact evg rfl hp | exact evg rfl hg | exact evg rfl (by first | (simp_all; done) | (simp [*]; done) | fail) | fail) (by first | exact evv rfl | exact evg rfl (by rw [hp]; rfl) | exact evg rfl hp | exact evg rfl hg | exact evg rfl (by first | (simp_all; done) | (simp [*]; done) | fail) | fail) (by rfl)) rfl rfl ?_
        refine oG (g_pick_or (evv rfl) (evv rfl) (fun hp => (by first | exact evv rfl | exact evg rfl (by rw [hp]; rfl) | exact evg rfl hp | exact evg rfl hg | exact evg rfl (by first | (simp_all; done) | (simp [*]; done) | fail) | fail))) rfl rfl ?_
        refine oN ?_
        refine cC ?_
        refine r_cond rfl (fun hbad => ?_) (fun hbad => ?_) <;> (try simp only [decide_eq_true_eq, decide_eq_false_iff_not, Bool.and_eq_true, Bool.or_eq_true, Bool.not_eq_true', Bool.and_eq_false_iff, Bool.or_eq_false_iff, Bool.not_eq_false', Bool.not_eq_true, Bool.not_eq_false, Bool.true_eq_false, Bool.false_eq_true, Int.not_lt, Int.not_le, not_and, not_or, ne_eq] at hbad)
        · refine rS ?_
          refine rR (id := 10) ?_
          refine oG (v := agg [(Go.Value.int Go.IntKind.i64 0), (Go.Value.int Go.IntKind.i64 0), (Go.Value.int Go.IntKind.i64 0), (Go.Value.string { data := #[] }), (Go.Value.slice none 0 0)]) (g_buildC rfl (by rfl)) rfl rfl ?_
          refine o_storeW (evv rfl) (evv rfl) (by first | rfl | assumption | exact LenC.h _ | (simp [bys, *]; done) | fail) (by first | (intro _ _ _; exact bys_one _) | exact AllOne.h | (intro _ _ _ u hu; simp at hu; rcases hu with rfl | rfl | rfl | rfl | rfl | rfl | rfl | rfl <;> rfl) | fail) (by first | rfl | exact (LenC.h _).trans rfl | exact (LenC.h _).trans (LenC.h _).symm | (simp [bys, *]; done) | (simp only [bys, List.length_map, *]; rfl) | fail) ?_
          refine oG (gA (evv rfl)) rfl rfl ?_
          refine oN ?_
          refine cC ?_
          refine r_retC (rs := [.cell 4 28, .tmp 5]) (vs := [agg (kC 0 0 0 [] (.slice none 0 0)), .bool false]) rfl (ro_agg rfl rfl rfl (ro_tmp rfl ro_nil)) _ ((Lay.ent (L' := F)).trans hzE) (hz (hrn))
        · omega
      · have hwm := hw m hg
        refine rR (id := 9) ?_
        refine oG (gM (evv rfl)) rfl rfl ?_
        refine oG (g_bin (evv rfl) (evv rfl) (by rfl)) rfl rfl ?_
        refine oG (gM (evv rfl)) rfl rfl ?_
        refine o_lazy rfl (fun hg => gM (by first | exact evv rfl | exact evg rfl (by rw [hp]; rfl) | exact evg rfl hp | exact evg rfl hg | exact evg rfl (by first | (simp_all; done) | (simp [*]; done) | fail) | fail)) rfl rfl ?_
        refine o_lazy rfl (fun hg => Gives.as (g_conv TyU.h TyU.h (by first | exact evv rfl | exact evg rfl (by rw [hp]; rfl) | exact evg rfl hp | exact evg rfl hg | exact evg rfl (by first | (simp_all; done) | (simp [*]; done) | fail) | fail)) (by rw [wrap_in (by simp only [inR]; omega)])) rfl rfl ?_
        refine o_lazy rfl (fun hg => g_fld (evv rfl)) rfl rfl ?_
        refine o_lazy rfl (fun hg => g_load (evg rfl hg) (by rfl) (by rfl)) rfl rfl ?_
        refine o_lazy rfl (fun hg => g_bin (by first | exact evv rfl | exact evg rfl (by rw [hp]; rfl) | exact evg rfl hp | exact evg rfl hg | exact evg rfl (by first | (simp_all; done) | (simp [*]; done) | fail) | fail) (by first | exact evv rfl | exact evg rfl (by rw [hp]; rfl) | exact evg rfl hp | exact evg rfl hg | exact evg rfl (by first | (simp_all; done) | (simp [*]; done) | fail) | fail) (by rfl)) rfl rfl ?_
        refine oG (g_pick_or (evv rfl) (evv rfl) (fun hp => (by first | exact evv rfl | exact evg rfl (by rw [hp]; rfl) | exact evg rfl hp | exact evg rfl hg | exact evg rfl (by first | (simp_all; done) | (simp [*]; done) | fail) | fail))) rfl rfl ?_
        refine oN ?_
        refine cC ?_
        try simp only [hwm]
        refine r_cond rfl (fun hbad => ?_) (fun hbad => ?_) <;> (try simp only [decide_eq_true_eq, decide_eq_false_iff_not, Bool.and_eq_true, Bool.or_eq_true, Bool.not_eq_true', Bool.and_eq_false_iff, Bool.or_eq_false_iff, Bool.not_eq_false', Bool.not_eq_true, Bool.not_eq_false, Bool.true_eq_false, Bool.false_eq_true, Int.not_lt, Int.not_le, not_and, not_or, ne_eq] at hbad)
        · have hrn : r = none := by rw [← hu2]; exact if_pos (by omega)
          refine rS ?_
          refine rR (id := 10) ?_
          refine oG (v := agg [(Go.Value.int Go.IntKind.i64 0), (Go.Value.int Go.IntKind.i64 0), (Go.Value.int Go.IntKind.i64 0), (Go.Value.string { data := #[] }), (Go.Value.slice none 0 0)]) (g_buildC rfl (by rfl)) rfl rfl ?_
          refine o_storeW (evv rfl) (evv rfl) (by first | rfl | assumption | exact LenC.h _ | (simp [bys, *]; done) | fail) (by first | (intro _ _ _; exact bys_one _) | exact AllOne.h | (intro _ _ _ u hu; simp at hu; rcases hu with rfl | rfl | rfl | rfl | rfl | rfl | rfl | rfl <;> rfl) | fail) (by first | rfl | exact (LenC.h _).trans rfl | exact (LenC.h _).trans (LenC.h _).symm | (simp [bys, *]; done) | (simp only [bys, List.length_map, *]; rfl) | fail) ?_
          refine oG (gA (evv rfl)) rfl rfl ?_
          refine oN ?_
          refine cC ?_
          refine r_retC (rs := [.cell 4 28, .tmp 5]) (vs := [agg (kC 0 0 0 [] (.slice none 0 0)), .bool false]) rfl (ro_agg rfl rfl rfl (ro_tmp rfl ro_nil)) _ ((Lay.ent (L' := F)).trans hzE) (hz (hrn))
        · have hS : StepK p r (true, ⟨m, normal, base, state, es⟩, ra, re) := ⟨hra, hf, by dsimp only; omega, by dsimp only; omega, by rw [← hu2]; exact if_neg (by omega)⟩
          refine r_skip ?_
          refine cC ?_
          refine rS ?_
          refine rR (id := 11) ?_
          refine oG (gM (evv rfl)) rfl rfl ?_
          refine o_giveN (g_conv TyU.h TyU.h (evv rfl)) (by simp only [inR]; omega) rfl ?_
          refine oG (g_fld (evv rfl)) rfl rfl ?_
          refine o_store1 (evv rfl) (evv rfl) (by rfl) (by rfl) (by rfl) ?_
          refine oN ?_
          refine cC ?_
          refine rR (id := 12) ?_
          refine oG (gA (evv rfl)) rfl rfl ?_
          refine oN ?_
          refine c_blk ?_
          try simp only [hwm]
          exact c_cut (⟨((true, ⟨m, normal, base, state, es⟩, ra, re), ve, []), ⟨hS, .inl ⟨rfl, rfl⟩⟩⟩ : StK ve es p r) (by repeat (first | exact trivial | refine ⟨rfl, ?_⟩ | refine envsub_v rfl (by first | rfl | (refine int_eq ?_; first | omega | (simp; omega) | (simp; done)) | (refine bool_eq ?_; first | (simp [*]; done) | (simp; done)) | (refine str_eq ?_; simp; done) | (refine ptr_eq ?_; omega) | fail) ?_)) (((Lay.ent (L' := blk q ⟨kC m normal base state ve, 28⟩ :: blk o ⟨kC 0 0 0 [] (.slice none 0 0), 28⟩ :: blk y (rC pv ra re) :: F)).trans Ent.romNil))
    rw [if_neg k1] at hu
    by_cases k2 : n = 2
    · subst k2
      rw [if_pos rfl] at hu
      refine r_block ?_
      refine rS ?_
      refine rR (id := 7) ?_
      refine oG (g_bin (evv rfl) (evv rfl) (by rfl)) rfl rfl ?_
      refine oG (gA (evv rfl)) rfl rfl ?_
      refine oN ?_
      refine cC ?_
      refine r_cond_false rfl ?_
      refine rS ?_
      refine rR (id := 13) ?_
      refine oG (g_bin (evv rfl) (evv rfl) (by rfl)) rfl rfl ?_
      refine oG (gA (evv rfl)) rfl rfl ?_
      refine oN ?_
      refine cC ?_
      refine r_cond_true rfl ?_
      refine rS ?_
      refine rR (id := 14) ?_
      refine oG (gM (evv rfl)) rfl rfl ?_
      (refine o_call (vs := [_, .int .u64 ((1 : Nat) : Int)]) rfl _ (PickR.ent (K := blk _)) (rjRead_c _ _ _ _ (by assumption) _ (by assumption) _ 1 (by omega)) rfl ?_; rintro _ _ ⟨lv, lok, ll, la, le, rfl, rfl, hla, hle⟩)
      refine oG (gM (evv rfl)) rfl rfl ?_
      refine oG (g_extract (evv rfl) (by rfl)) rfl rfl ?_
      refine oG (g_extract (evv rfl) (by rfl)) rfl rfl ?_
      refine oG (gA (evv rfl)) rfl rfl ?_
      refine oG (gA (evv rfl)) rfl rfl ?_
      refine oN ?_
      refine cC ?_
      have hll : ll.length ≤ 1 := by
        rcases hle with ⟨_, _, hE⟩ | ⟨_, rfl, _⟩
        · exact Nat.le_of_eq (entsR_len hE)
        · exact Nat.zero_le _
      have hlo : ∀ e ∈ ll, e.ok := by
        rcases hle with ⟨_, _, hE⟩ | ⟨_, rfl, _⟩
        · exact entsR_ok hE
        · simp
      have hfa : ∀ e ∈ es ++ ll, e.ok := fun e he => by
        rcases List.mem_append.1 he with he | he
        · exact hf e he
        · exact hlo e he
      have hS : StepK p r (lok, ⟨view, normal, base, state, es ++ ll⟩, la, le) := by
        refine ⟨hla, hfa, by simp only [List.length_append]; omega, by dsimp only; omega, ?_⟩
        rw [← hu]
        unfold foldE
        rcases hle with ⟨rfl, _, hE⟩ | ⟨rfl, rfl, hE⟩
        · rw [hE]; rfl
        · rcases hE with hE | hE
          · omega
          · rw [hE]; rfl
      refine rR (id := 15) ?_
      refine o_lit0S (by rfl) rfl (fun _ => ?_)
      refine oG (g_fld (evv rfl)) rfl rfl ?_
      refine oG (g_load (evv rfl) (by rfl) (by rfl)) rfl rfl ?_
      refine o_appF (evv rfl) (evv rfl) (by rfl) (by rfl) (by rfl) (by (try simp only [bsOf, List.length_append, List.length_cons, List.length_nil, List.length_take, List.length_drop, List.length_drop, List.length_map, List.length_range]); omega) rfl (fun _ => ?_)
      refine oG (gM (evv rfl)) rfl rfl ?_
      refine o_appF (evv rfl) (evv rfl) (by rfl) (by rfl) (by rfl) (by (try simp only [bsOf, List.length_append, List.length_cons, List.length_nil, List.length_take, List.length_drop, List.length_drop, List.length_map, List.length_range]); omega) rfl (fun _ => ?_)
      refine oG (g_fld (evv rfl)) rfl rfl ?_
      refine o_store1 (evv rfl) (evv rfl) (by rfl) (by rfl) (by rfl) ?_
      refine oN ?_
      refine c_blk ?_
      rename_i nv
      rw [List.nil_append]
      exact c_cut (⟨((lok, ⟨view, normal, base, state, es ++ ll⟩, la, le), nv, [(nv, entR (es ++ ll))]), ⟨hS, .inr inferInstance⟩⟩ : StK ve es p r) (by repeat (first | exact trivial | refine ⟨rfl, ?_⟩ | refine envsub_v rfl (by first | rfl | (refine int_eq ?_; first | omega | (simp; omega) | (simp; done)) | (refine bool_eq ?_; first | (simp [*]; done) | (simp; done)) | (refine str_eq ?_; simp; done) | (refine ptr_eq ?_; omega) | fail) ?_)) (((Lay.ent (L' := sl nv (entR (es ++ ll)) :: blk q ⟨kC view normal base state nv, 28⟩ :: blk o ⟨kC 0 0 0 [] (.slice none 0 0), 28⟩ :: blk y (rC pv la le) :: F)).trans slRom1))
    rw [if_neg k2] at hu
    by_cases k3 : n = 3
    · subst k3
      rw [if_pos rfl] at hu
      refine r_block ?_
      refine rS ?_
      refine rR (id := 7) ?_
      refine oG (g_bin (evv rfl) (evv rfl) (by rfl)) rfl rfl ?_
      refine oG (gA (evv rfl)) rfl rfl ?_
      refine oN ?_
      refine cC ?_
      refine r_cond_false rfl ?_
      refine rS ?_
      refine rR (id := 13) ?_
      refine oG (g_bin (evv rfl) (evv rfl) (by rfl)) rfl rfl ?_
      refine oG (gA (evv rfl)) rfl rfl ?_
      refine oN ?_
      refine cC ?_
      refine r_cond_false rfl ?_
      refine rS ?_
      refine rR (id := 16) ?_
      refine oG (g_bin (evv rfl) (evv rfl) (by rfl)) rfl rfl ?_
      refine oG (gA (evv rfl)) rfl rfl ?_
      refine oN ?_
      refine cC ?_
      refine r_cond_true rfl ?_
      refine rS ?_
      refine rR (id := 17) ?_
      refine oG (gM (evv rfl)) rfl rfl ?_
      (refine o_call rfl _ (Ent.refl _) (Fn.atPick (rNum_g _ (by assumption) (by assumption) _)) rfl ?_; rintro _ _ ⟨ra, re, hra, rfl, hrs, rfl⟩)
      refine oG (gA (evv rfl)) rfl rfl ?_
      refine oN ?_
      refine cC ?_
      refine rS ?_
      refine rR (id := 18) ?_
      refine oG (gM (evv rfl)) rfl rfl ?_
      (refine o_call rfl _ (Ent.refl _) (Fn.atPick (rNum_g _ (by assumption) (by assumption) _)) rfl ?_; rintro _ _ ⟨ra, re, hra, rfl, hrs, rfl⟩)
      refine oG (gA (evv rfl)) rfl rfl ?_
      refine oN ?_
      refine cC ?_
      refine rS ?_
      refine rS ?_
      rename_i ra1 re1 hra1 hrs1
      have hu3 := hu
      unfold foldA at hu3
      rw [hrs1] at hu3
      rw [hrs] at hu3
      dsimp only at hu3
      have hMb := numR_le ⟨p.drop ra1, re1⟩
      have hM3 := numR_le ⟨p.drop ra, re⟩
      have hlast : KeptS.last ⟨view, normal, base, state, es⟩ = base + es.length := rfl
      rw [hlast] at hu3
      generalize (numR ⟨p.drop ra0, re0⟩).1 = m at *
      generalize (numR ⟨p.drop ra1, re1⟩).1 = f at *
      by_cases hg : gr < (m : Int) ∨ gr < (f : Int)
      · have hrn : r = none := by rw [← hu3]; exact if_pos (by omega)
        refine rR (id := 19) ?_
        refine oG (gM (evv rfl)) rfl rfl ?_
        refine oG (g_bin (evv rfl) (evv rfl) (by rfl)) rfl rfl ?_
        refine oG (gM (evv rfl)) rfl rfl ?_
        refine o_lazy rfl (fun hg => gM (by first | exact evv rfl | exact evg rfl (by rw [hp]; rfl) | exact evg rfl hp | exact evg rfl hg | exact evg rfl (by first | (simp_all; done) | (simp [*]; done) | fail) | fail)) rfl rfl ?_
        refine o_lazy rfl (fun hg => g_bin (by first | exact evv rfl | exact evg rfl (by rw [hp]; rfl) | exact evg rfl hp | exact evg rfl hg | exact evg rfl (by first | (simp_all; done) | (simp [*]; done) | fail) | fail) (by first | exact evv rfl | exact evg rfl (by rw [hp]; rfl) | exact evg rfl hp | exact evg rfl hg | exact evg rfl (by first | (simp_all; done) | (simp [*]; done) | fail) | fail) (by rfl)) rfl rfl ?_
        refine oG (g_pick_or (evv rfl) (evv rfl) (fun hp => (by first | exact evv rfl | exact evg rfl (by rw [hp]; rfl) | exact evg rfl hp | exact evg rfl hg | exact evg rfl (by first | (simp_all; done) | (simp [*]; done) | fail) | fail))) rfl rfl ?_
        refine oG (gM (evv rfl)) rfl rfl ?_
        refine o_lazy rfl (fun hg => gM (by first | exact evv rfl | exact evg rfl (by rw [hp]; rfl) | exact evg rfl hp | exact evg rfl hg | exact evg rfl (by first | (simp_all; done) | (simp [*]; done) | fail) | fail)) rfl rfl ?_
        refine o_lazy rfl (fun hg => g_conv TyU.h TyU.h (by first | exact evv rfl | exact evg rfl (by rw [hp]; rfl) | exact evg rfl hp | exact evg rfl hg | exact evg rfl (by first | (simp_all; done) | (simp [*]; done) | fail) | fail)) rfl rfl ?_
        refine o_lazy rfl (fun hg => g_fld (evv rfl)) rfl rfl ?_
        refine o_lazy rfl (fun hg => g_load (evg rfl hg) (by rfl) (by rfl)) rfl rfl ?_
        refine o_lazy rfl (fun hg => g_bin (by first | exact evv rfl | exact evg rfl (by rw [hp]; rfl) | exact evg rfl hp | exact evg rfl hg | exact evg rfl (by first | (simp_all; done) | (simp [*]; done) | fail) | fail) (by first | exact evv rfl | exact evg rfl (by rw [hp]; rfl) | exact evg rfl hp | exact evg rfl hg | exact evg rfl (by first | (simp_all; done) | (simp [*]; done) | fail) | fail) (by rfl)) rfl rfl ?_
        refine oG (g_pick_or (evv rfl) (evv rfl) (fun hp => (by first | exact evv rfl | exact evg rfl (by rw [hp]; rfl) | exact evg rfl hp | exact evg rfl hg | exact evg rfl (by first | (simp_all; done) | (simp [*]; done) | fail) | fail))) rfl rfl ?_
        refine oG (gM (evv rfl)) rfl rfl ?_
        refine o_lazy rfl (fun hg => gM (by first | exact evv rfl | exact evg rfl (by rw [hp]; rfl) | exact evg rfl hp | exact evg rfl hg | exact evg rfl (by first | (simp_all; done) | (simp [*]; done) | fail) | fail)) rfl rfl ?_
        refine o_lazy rfl (fun hg => g_conv TyU.h TyU.h (by first | exact evv rfl | exact evg rfl (by rw [hp]; rfl) | exact evg rfl hp | exact evg rfl hg | exact evg rfl (by first | (simp_all; done) | (simp [*]; done) | fail) | fail)) rfl rfl ?_
        refine o_lazy rfl (fun hg => g_fld (evv rfl)) rfl rfl ?_
        refine o_lazy rfl (fun hg => g_load (evg rfl hg) (by rfl) (by rfl)) rfl rfl ?_
        refine o_lazy rfl (fun hg => g_bin (by first | exact evv rfl | exact evg rfl (by rw [hp]; rfl) | exact evg rfl hp | exact evg rfl hg | exact evg rfl (by first | (simp_all; done) | (simp [*]; done) | fail) | fail) (by first | exact evv rfl | exact evg rfl (by rw [hp]; rfl) | exact evg rfl hp | exact evg rfl hg | exact evg rfl (by first | (simp_all; done) | (simp [*]; done) | fail) | fail) (by rfl)) rfl rfl ?_
        refine oG (g_pick_or (evv rfl) (evv rfl) (fun hp => (by first | exact evv rfl | exact evg rfl (by rw [hp]; rfl) | exact evg rfl hp | exact evg rfl hg | exact evg rfl (by first | (simp_all; done) | (simp [*]; done) | fail) | fail))) rfl rfl ?_
        refine oG (gM (evv rfl)) rfl rfl ?_
        refine o_lazy rfl (fun hg => gM (by first | exact evv rfl | exact evg rfl (by rw [hp]; rfl) | exact evg rfl hp | exact evg rfl hg | exact evg rfl (by first | (simp_all; done) | (simp [*]; done) | fail) | fail)) rfl rfl ?_
        refine o_lazy rfl (fun hg => g_conv TyU.h TyU.h (by first | exact evv rfl | exact evg rfl (by rw [hp]; rfl) | exact evg rfl hp | exact evg rfl hg | exact evg rfl (by first | (simp_all; done) | (simp [*]; done) | fail) | fail)) rfl rfl ?_
        refine o_lazy rfl (fun hg => gM (by first | exact evv rfl | exact evg rfl (by rw [hp]; rfl) | exact evg rfl hp | exact evg rfl hg | exact evg rfl (by first | (simp_all; done) | (simp [*]; done) | fail) | fail)) rfl rfl ?_
        refine o_lazy rfl (fun hg => g_bin (by first | exact evv rfl | exact evg rfl (by rw [hp]; rfl) | exact evg rfl hp | exact evg rfl hg | exact evg rfl (by first | (simp_all; done) | (simp [*]; done) | fail) | fail) (by first | exact evv rfl | exact evg rfl (by rw [hp]; rfl) | exact evg rfl hp | exact evg rfl hg | exact evg rfl (by first | (simp_all; done) | (simp [*]; done) | fail) | fail) (by rfl)) rfl rfl ?_
        refine oG (g_pick_or (evv rfl) (evv rfl) (fun hp => (by first | exact evv rfl | exact evg rfl (by rw [hp]; rfl) | exact evg rfl hp | exact evg rfl hg | exact evg rfl (by first | (simp_all; done) | (simp [*]; done) | fail) | fail))) rfl rfl ?_
        refine oN ?_
        refine cC ?_
        refine r_cond rfl (fun hbad => ?_) (fun hbad => ?_) <;> (try simp only [decide_eq_true_eq, decide_eq_false_iff_not, Bool.and_eq_true, Bool.or_eq_true, Bool.not_eq_true', Bool.and_eq_false_iff, Bool.or_eq_false_iff, Bool.not_eq_false', Bool.not_eq_true, Bool.not_eq_false, Bool.true_eq_false, Bool.false_eq_true, Int.not_lt, Int.not_le, not_and, not_or, ne_eq] at hbad)
        · refine rS ?_
          refine rR (id := 20) ?_
          refine oG (v := agg [(Go.Value.int Go.IntKind.i64 0), (Go.Value.int Go.IntKind.i64 0), (Go.Value.int Go.IntKind.i64 0), (Go.Value.string { data := #[] }), (Go.Value.slice none 0 0)]) (g_buildC rfl (by rfl)) rfl rfl ?_
          refine o_storeW (evv rfl) (evv rfl) (by first | rfl | assumption | exact LenC.h _ | (simp [bys, *]; done) | fail) (by first | (intro _ _ _; exact bys_one _) | exact AllOne.h | (intro _ _ _ u hu; simp at hu; rcases hu with rfl | rfl | rfl | rfl | rfl | rfl | rfl | rfl <;> rfl) | fail) (by first | rfl | exact (LenC.h _).trans rfl | exact (LenC.h _).trans (LenC.h _).symm | (simp [bys, *]; done) | (simp only [bys, List.length_map, *]; rfl) | fail) ?_
          refine oG (gA (evv rfl)) rfl rfl ?_
          refine oN ?_
          refine cC ?_
          refine r_retC (rs := [.cell 4 28, .tmp 5]) (vs := [agg (kC 0 0 0 [] (.slice none 0 0)), .bool false]) rfl (ro_agg rfl rfl rfl (ro_tmp rfl ro_nil)) _ ((Lay.ent (L' := F)).trans hzE) (hz (hrn))
        · omega
      · have hwm := hw m (by omega)
        have hwf := hw f (by omega)
        refine rR (id := 19) ?_
        refine oG (gM (evv rfl)) rfl rfl ?_
        refine oG (g_bin (evv rfl) (evv rfl) (by rfl)) rfl rfl ?_
        refine oG (gM (evv rfl)) rfl rfl ?_
        refine o_lazy rfl (fun hg => gM (by first | exact evv rfl | exact evg rfl (by rw [hp]; rfl) | exact evg rfl hp | exact evg rfl hg | exact evg rfl (by first | (simp_all; done) | (simp [*]; done) | fail) | fail)) rfl rfl ?_
        refine o_lazy rfl (fun hg => g_bin (by first | exact evv rfl | exact evg rfl (by rw [hp]; rfl) | exact evg rfl hp | exact evg rfl hg | exact evg rfl (by first | (simp_all; done) | (simp [*]; done) | fail) | fail) (by first | exact evv rfl | exact evg rfl (by rw [hp]; rfl) | exact evg rfl hp | exact evg rfl hg | exact evg rfl (by first | (simp_all; done) | (simp [*]; done) | fail) | fail) (by rfl)) rfl rfl ?_
        refine oG (g_pick_or (evv rfl) (evv rfl) (fun hp => (by first | exact evv rfl | exact evg rfl (by rw [hp]; rfl) | exact evg rfl hp | exact evg rfl hg | exact evg rfl (by first | (simp_all; done) | (simp [*]; done) | fail) | fail))) rfl rfl ?_
        refine oG (gM (evv rfl)) rfl rfl ?_
        refine o_lazy rfl (fun hg => gM (by first | exact evv rfl | exact evg rfl (by rw [hp]; rfl) | exact evg rfl hp | exact evg rfl hg | exact evg rfl (by first | (simp_all; done) | (simp [*]; done) | fail) | fail)) rfl rfl ?_
        refine o_lazy rfl (fun hg => Gives.as (g_conv TyU.h TyU.h (by first | exact evv rfl | exact evg rfl (by rw [hp]; rfl) | exact evg rfl hp | exact evg rfl hg | exact evg rfl (by first | (simp_all; done) | (simp [*]; done) | fail) | fail)) (by rw [wrap_in (by simp only [inR]; omega)])) rfl rfl ?_
        refine o_lazy rfl (fun hg => g_fld (evv rfl)) rfl rfl ?_
        refine o_lazy rfl (fun hg => g_load (evg rfl hg) (by rfl) (by rfl)) rfl rfl ?_
        refine o_lazy rfl (fun hg => g_bin (by first | exact evv rfl | exact evg rfl (by rw [hp]; rfl) | exact evg rfl hp | exact evg rfl hg | exact evg rfl (by first | (simp_all; done) | (simp [*]; done) | fail) | fail) (by first | exact evv rfl | exact evg rfl (by rw [hp]; rfl) | exact evg rfl hp | exact evg rfl hg | exact evg rfl (by first | (simp_all; done) | (simp [*]; done) | fail) | fail) (by rfl)) rfl rfl ?_
        refine oG (g_pick_or (evv rfl) (evv rfl) (fun hp => (by first | exact evv rfl | exact evg rfl (by rw [hp]; rfl) | exact evg rfl hp | exact evg rfl hg | exact evg rfl (by first | (simp_all; done) | (simp [*]; done) | fail) | fail))) rfl rfl ?_
        refine oG (gM (evv rfl)) rfl rfl ?_
        refine o_lazy rfl (fun hg => gM (by first | exact evv rfl | exact evg rfl (by rw [hp]; rfl) | exact evg rfl hp | exact evg rfl hg | exact evg rfl (by first | (simp_all; done) | (simp [*]; done) | fail) | fail)) rfl rfl ?_
        refine o_lazy rfl (fun hg => Gives.as (g_conv TyU.h TyU.h (by first | exact evv rfl | exact evg rfl (by rw [hp]; rfl) | exact evg rfl hp | exact evg rfl hg | exact evg rfl (by first | (simp_all; done) | (simp [*]; done) | fail) | fail)) (by rw [wrap_in (by simp only [inR]; omega)])) rfl rfl ?_
        refine o_lazy rfl (fun hg => g_fld (evv rfl)) rfl rfl ?_
        refine o_lazy rfl (fun hg => g_load (evg rfl hg) (by rfl) (by rfl)) rfl rfl ?_
        refine o_lazy rfl (fun hg => g_bin (by first | exact evv rfl | exact evg rfl (by rw [hp]; rfl) | exact evg rfl hp | exact evg rfl hg | exact evg rfl (by first | (simp_all; done) | (simp [*]; done) | fail) | fail) (by first | exact evv rfl | exact evg rfl (by rw [hp]; rfl) | exact evg rfl hp | exact evg rfl hg | exact evg rfl (by first | (simp_all; done) | (simp [*]; done) | fail) | fail) (by rfl)) rfl rfl ?_
        refine oG (g_pick_or (evv rfl) (evv rfl) (fun hp => (by first | exact evv rfl | exact evg rfl (by rw [hp]; rfl) | exact evg rfl hp | exact evg rfl hg | exact evg rfl (by first | (simp_all; done) | (simp [*]; done) | fail) | fail))) rfl rfl ?_
        refine oG (gM (evv rfl)) rfl rfl ?_
        refine o_lazy rfl (fun hg => gM (by first | exact evv rfl | exact evg rfl (by rw [hp]; rfl) | exact evg rfl hp | exact evg rfl hg | exact evg rfl (by first | (simp_all; done) | (simp [*]; done) | fail) | fail)) rfl rfl ?_
        refine o_lazy rfl (fun hg => Gives.as (g_conv TyU.h TyU.h (by first | exact evv rfl | exact evg rfl (by rw [hp]; rfl) | exact evg rfl hp | exact evg rfl hg | exact evg rfl (by first | (simp_all; done) | (simp [*]; done) | fail) | fail)) (by rw [wrap_in (by simp only [inR]; omega)])) rfl rfl ?_
        refine o_lazy rfl (fun hg => gM (by first | exact evv rfl | exact evg rfl (by rw [hp]; rfl) | exact evg rfl hp | exact evg rfl hg | exact evg rfl (by first | (simp_all; done) | (simp [*]; done) | fail) | fail)) rfl rfl ?_
        refine o_lazy rfl (fun hg => g_bin (by first | exact evv rfl | exact evg rfl (by rw [hp]; rfl) | exact evg rfl hp | exact evg rfl hg | exact evg rfl (by first | (simp_all; done) | (simp [*]; done) | fail) | fail) (by first | exact evv rfl | exact evg rfl (by rw [hp]; rfl) | exact evg rfl hp | exact evg rfl hg | exact evg rfl (by first | (simp_all; done) | (simp [*]; done) | fail) | fail) (by rfl)) rfl rfl ?_
        refine oG (g_pick_or (evv rfl) (evv rfl) (fun hp => (by first | exact evv rfl | exact evg rfl (by rw [hp]; rfl) | exact evg rfl hp | exact evg rfl hg | exact evg rfl (by first | (simp_all; done) | (simp [*]; done) | fail) | fail))) rfl rfl ?_
        refine oN ?_
        refine cC ?_
        try simp only [hwm, hwf]
        refine r_cond rfl (fun hbad => ?_) (fun hbad => ?_) <;> (try simp only [decide_eq_true_eq, decide_eq_false_iff_not, Bool.and_eq_true, Bool.or_eq_true, Bool.not_eq_true', Bool.and_eq_false_iff, Bool.or_eq_false_iff, Bool.not_eq_false', Bool.not_eq_true, Bool.not_eq_false, Bool.true_eq_false, Bool.false_eq_true, Int.not_lt, Int.not_le, not_and, not_or, ne_eq] at hbad)
        · have hrn : r = none := by rw [← hu3]; exact if_pos (by omega)
          refine rS ?_
          refine rR (id := 20) ?_
          refine oG (v := agg [(Go.Value.int Go.IntKind.i64 0), (Go.Value.int Go.IntKind.i64 0), (Go.Value.int Go.IntKind.i64 0), (Go.Value.string { data := #[] }), (Go.Value.slice none 0 0)]) (g_buildC rfl (by rfl)) rfl rfl ?_
          refine o_storeW (evv rfl) (evv rfl) (by first | rfl | assumption | exact LenC.h _ | (simp [bys, *]; done) | fail) (by first | (intro _ _ _; exact bys_one _) | exact AllOne.h | (intro _ _ _ u hu; simp at hu; rcases hu with rfl | rfl | rfl | rfl | rfl | rfl | rfl | rfl <;> rfl) | fail) (by first | rfl | exact (LenC.h _).trans rfl | exact (LenC.h _).trans (LenC.h _).symm | (simp [bys, *]; done) | (simp only [bys, List.length_map, *]; rfl) | fail) ?_
          refine oG (gA (evv rfl)) rfl rfl ?_
          refine oN ?_
          refine cC ?_
          refine r_retC (rs := [.cell 4 28, .tmp 5]) (vs := [agg (kC 0 0 0 [] (.slice none 0 0)), .bool false]) rfl (ro_agg rfl rfl rfl (ro_tmp rfl ro_nil)) _ ((Lay.ent (L' := F)).trans hzE) (hz (hrn))
        · rw [if_neg (by omega)] at hu3
          refine r_skip ?_
          refine cC ?_
          refine rS ?_
          refine rR (id := 21) ?_
          refine oG (gM (evv rfl)) rfl rfl ?_
          refine oG (gM (evv rfl)) rfl rfl ?_
          (refine o_call rfl _ (Ent.refl _) (Fn.atPick (rNum_g _ (by assumption) (by assumption) _)) rfl ?_; rintro _ _ ⟨ra, re, hra, rfl, hrs, rfl⟩)
          (refine o_call rfl _ (PickR.ent (K := blk _)) (rjRead_c _ _ _ _ (by assumption) _ (by assumption) _ _ (by first | assumption | omega)) rfl ?_; rintro _ _ ⟨lv, lok, ll, la, le, rfl, rfl, hla, hle⟩)
          refine oG (gM (evv rfl)) rfl rfl ?_
          refine oG (g_extract (evv rfl) (by rfl)) rfl rfl ?_
          refine oG (g_extract (evv rfl) (by rfl)) rfl rfl ?_
          refine oG (gA (evv rfl)) rfl rfl ?_
          refine oG (gA (evv rfl)) rfl rfl ?_
          refine oN ?_
          refine cC ?_
          refine rS ?_
          rename_i ra2 re2 hra2 hrs2
          unfold manyR at hu3
          rw [hrs] at hu3
          have hll : ll.length ≤ 32 := by
            rcases hle with ⟨_, h, hE⟩ | ⟨_, rfl, _⟩
            · rw [entsR_len hE]; exact h
            · exact Nat.zero_le _
          have hlo : ∀ e ∈ ll, e.ok := by
            rcases hle with ⟨_, _, hE⟩ | ⟨_, rfl, _⟩
            · exact entsR_ok hE
            · simp
          have hfa : ∀ e ∈ es.take ((f : Int) - base).toNat ++ ll, e.ok := fun e he => by
            rcases List.mem_append.1 he with he | he
            · exact hf e (List.mem_of_mem_take he)
            · exact hlo e he
          have hS : StepK p r (lok, ⟨m, m, base, state, es.take ((f : Int) - base).toNat ++ ll⟩, la, le) := by
            refine ⟨hla, hfa, by simp only [List.length_append, List.length_take]; omega, by dsimp only; omega, ?_⟩
            rw [← hu3]
            rcases hle with ⟨rfl, h, hE⟩ | ⟨rfl, rfl, hE⟩
            · rw [if_neg (by omega), hE]; rfl
            · by_cases h3 : 32 < (numR ⟨p.drop ra2, re2⟩).1
              · rw [if_pos h3]; rfl
              · rw [if_neg h3, hE.resolve_left h3]; rfl
          clear hle hu hu3 hr
          refine rR (id := 22) ?_
          refine oG (gM (evv rfl)) rfl rfl ?_
          refine o_giveN (g_conv TyU.h TyU.h (evv rfl)) (by simp only [inR]; omega) rfl ?_
          refine oG (g_fld (evv rfl)) rfl rfl ?_
          refine o_store1 (evv rfl) (evv rfl) (by rfl) (by rfl) (by rfl) ?_
          refine oN ?_
          refine cC ?_
          refine rS ?_
          refine rR (id := 23) ?_
          refine oG (gM (evv rfl)) rfl rfl ?_
          refine o_giveN (g_conv TyU.h TyU.h (evv rfl)) (by simp only [inR]; omega) rfl ?_
          refine oG (g_fld (evv rfl)) rfl rfl ?_
          refine o_store1 (evv rfl) (evv rfl) (by rfl) (by rfl) (by rfl) ?_
          refine oN ?_
          refine cC ?_
          refine rR (id := 24) ?_
          refine o_lit0S (by rfl) rfl (fun _ => ?_)
          refine oG (g_fld (evv rfl)) rfl rfl ?_
          refine oG (g_load (evv rfl) (by rfl) (by rfl)) rfl rfl ?_
          refine oG (gM (evv rfl)) rfl rfl ?_
          refine o_giveN (g_conv TyU.h TyU.h (evv rfl)) (by simp only [inR]; omega) rfl ?_
          refine oG (g_fld (evv rfl)) rfl rfl ?_
          refine oG (g_load (evv rfl) (by rfl) (by rfl)) rfl rfl ?_
          refine o_giveN (g_bin (evv rfl) (evv rfl) (by rfl)) (by simp only [inR]; omega) rfl ?_
          refine oG (g_subF (evv rfl) _ _ bnd_none (bnd_to (evv rfl) (by omega)) (by rfl) (by omega) (by first | omega | (simp only [List.length_append, List.length_cons, List.length_nil, List.length_set, List.length_map]; omega))) rfl rfl ?_
          refine o_appF (evv rfl) (evv rfl) (by rfl) (by rfl) (by rfl) (by (try simp only [bsOf, List.length_append, List.length_cons, List.length_nil, List.length_take, List.length_drop, List.length_drop, List.length_map, List.length_range]); omega) rfl (fun _ => ?_)
          refine oG (gM (evv rfl)) rfl rfl ?_
          refine o_appF (evv rfl) (evv rfl) (by rfl) (by rfl) (by rfl) (by (try simp only [bsOf, List.length_append, List.length_cons, List.length_nil, List.length_take, List.length_drop, List.length_drop, List.length_map, List.length_range]); omega) rfl (fun _ => ?_)
          refine oG (g_fld (evv rfl)) rfl rfl ?_
          refine o_store1 (evv rfl) (evv rfl) (by rfl) (by rfl) (by rfl) ?_
          refine oN ?_
          refine c_blk ?_
          rename_i nv
          simp only [List.nil_append, List.drop_zero, Nat.sub_zero]
          exact c_cut (⟨((lok, ⟨m, m, base, state, es.take ((f : Int) - base).toNat ++ ll⟩, la, le), nv, [(nv, entR (es.take ((f : Int) - base).toNat ++ ll))]), ⟨hS, .inr inferInstance⟩⟩ : StK ve es p r) (by repeat (first | exact trivial | refine ⟨rfl, ?_⟩ | refine envsub_v rfl (by first | rfl | (refine int_eq ?_; first | omega | (simp; omega) | (simp; done)) | (refine bool_eq ?_; first | (simp [*]; done) | (simp; done)) | (refine str_eq ?_; simp; done) | (refine ptr_eq ?_; omega) | fail) ?_)) (((Lay.ent (L' := sl nv (entR (es.take ((f : Int) - base).toNat ++ ll)) :: blk q ⟨kC m m base state nv, 28⟩ :: blk o ⟨kC 0 0 0 [] (.slice none 0 0), 28⟩ :: blk y (rC pv la le) :: F)).trans slRom1))
    rw [if_neg k3] at hu
    by_cases k4 : n = 4
    · subst k4
      rw [if_pos rfl] at hu
      refine r_block ?_
      refine rS ?_
      refine rR (id := 7) ?_
      refine oG (g_bin (evv rfl) (evv rfl) (by rfl)) rfl rfl ?_
      refine oG (gA (evv rfl)) rfl rfl ?_
      refine oN ?_
      refine cC ?_
      refine r_cond_false rfl ?_
      refine rS ?_
      refine rR (id := 13) ?_
      refine oG (g_bin (evv rfl) (evv rfl) (by rfl)) rfl rfl ?_
      refine oG (gA (evv rfl)) rfl rfl ?_
      refine oN ?_
      refine cC ?_
      refine r_cond_false rfl ?_
      refine rS ?_
      refine rR (id := 16) ?_
      refine oG (g_bin (evv rfl) (evv rfl) (by rfl)) rfl rfl ?_
      refine oG (gA (evv rfl)) rfl rfl ?_
      refine oN ?_
      refine cC ?_
      refine r_cond_false rfl ?_
      refine rS ?_
      refine rR (id := 25) ?_
      refine oG (g_bin (evv rfl) (evv rfl) (by rfl)) rfl rfl ?_
      refine oG (gA (evv rfl)) rfl rfl ?_
      refine oN ?_
      refine cC ?_
      refine r_cond_true rfl ?_
      refine rS ?_
      refine rR (id := 26) ?_
      refine oG (gM (evv rfl)) rfl rfl ?_
      (refine o_call rfl _ (Ent.refl _) (Fn.atPick (rNum_g _ (by assumption) (by assumption) _)) rfl ?_; rintro _ _ ⟨ra, re, hra, rfl, hrs, rfl⟩)
      refine oG (gA (evv rfl)) rfl rfl ?_
      refine oN ?_
      refine cC ?_
      refine rS ?_
      refine rR (id := 27) ?_
      refine oG (gM (evv rfl)) rfl rfl ?_
      (refine o_call rfl _ (Ent.refl _) (Fn.atPick (rNum_g _ (by assumption) (by assumption) _)) rfl ?_; rintro _ _ ⟨ra, re, hra, rfl, hrs, rfl⟩)
      refine oG (gA (evv rfl)) rfl rfl ?_
      refine oN ?_
      refine cC ?_
      refine rS ?_
      refine rR (id := 28) ?_
      refine oG (gM (evv rfl)) rfl rfl ?_
      (refine o_call rfl _ (Ent.refl _) (Fn.atPick (rNum_g _ (by assumption) (by assumption) _)) rfl ?_; rintro _ _ ⟨ra, re, hra, rfl, hrs, rfl⟩)
      refine oG (gA (evv rfl)) rfl rfl ?_
      refine oN ?_
      refine cC ?_
      refine rS ?_
      refine rR (id := 29) ?_
      refine oG (gM (evv rfl)) rfl rfl ?_
      (refine o_call rfl _ (Ent.refl _) (Fn.atPick (rText_g _ (by assumption) (by assumption) _ _ (by omega))) rfl ?_; rintro _ _ ⟨ra, re, hra, rfl, hrs, rfl⟩)
      refine oG (gA (evv rfl)) rfl rfl ?_
      refine oN ?_
      refine cC ?_
      refine rS ?_
      refine rS ?_
      rename_i ra1 re1 hra1 hrs1 ra2 re2 hra2 hrs2 ra3 re3 hra3 hrs3
      have hu3 := hu
      unfold foldW at hu3
      rw [hrs1, hrs2, hrs3] at hu3
      rw [hrs] at hu3
      try dsimp only at hu3
      have hMb := numR_le ⟨p.drop ra1, re1⟩
      have hMc := numR_le ⟨p.drop ra2, re2⟩
      have hM3 := numR_le ⟨p.drop ra, re⟩
      have htl := text_len (m := 65536) (s := ⟨p.drop ra3, re3⟩) (by omega)
      generalize (numR ⟨p.drop ra0, re0⟩).1 = m at *
      generalize (numR ⟨p.drop ra1, re1⟩).1 = f at *
      generalize (numR ⟨p.drop ra2, re2⟩).1 = g at *
      generalize (textR 65536 ⟨p.drop ra3, re3⟩).1 = tx at *
      by_cases hg : gr < (m : Int) ∨ gr < (f : Int) ∨ gr < (g : Int)
      · have hrn : r = none := by rw [← hu3]; exact if_pos (by omega)
        refine rR (id := 30) ?_
        refine oG (gM (evv rfl)) rfl rfl ?_
        refine oG (g_bin (evv rfl) (evv rfl) (by rfl)) rfl rfl ?_
        refine oG (gM (evv rfl)) rfl rfl ?_
        refine o_lazy rfl (fun hg => gM (by first | exact evv rfl | exact evg rfl (by rw [hp]; rfl) | exact evg rfl hp | exact evg rfl hg | exact evg rfl (by first | (simp_all; done) | (simp [*]; done) | fail) | fail)) rfl rfl ?_
        refine o_lazy rfl (fun hg => g_bin (by first | exact evv rfl | exact evg rfl (by rw [hp]; rfl) | exact evg rfl hp | exact evg rfl hg | exact evg rfl (by first | (simp_all; done) | (simp [*]; done) | fail) | fail) (by first | exact evv rfl | exact evg rfl (by rw [hp]; rfl) | exact evg rfl hp | exact evg rfl hg | exact evg rfl (by first | (simp_all; done) | (simp [*]; done) | fail) | fail) (by rfl)) rfl rfl ?_
        refine oG (g_pick_or (evv rfl) (evv rfl) (fun hp => (by first | exact evv rfl | exact evg rfl (by rw [hp]; rfl) | exact evg rfl hp | exact evg rfl hg | exact evg rfl (by first | (simp_all; done) | (simp [*]; done) | fail) | fail))) rfl rfl ?_
        refine oG (gM (evv rfl)) rfl rfl ?_
        refine o_lazy rfl (fun hg => gM (by first | exact evv rfl | exact evg rfl (by rw [hp]; rfl) | exact evg rfl hp | exact evg rfl hg | exact evg rfl (by first | (simp_all; done) | (simp [*]; done) | fail) | fail)) rfl rfl ?_
        refine o_lazy rfl (fun hg => g_bin (by first | exact evv rfl | exact evg rfl (by rw [hp]; rfl) | exact evg rfl hp | exact evg rfl hg | exact evg rfl (by first | (simp_all; done) | (simp [*]; done) | fail) | fail) (by first | exact evv rfl | exact evg rfl (by rw [hp]; rfl) | exact evg rfl hp | exact evg rfl hg | exact evg rfl (by first | (simp_all; done) | (simp [*]; done) | fail) | fail) (by rfl)) rfl rfl ?_
        refine oG (g_pick_or (evv rfl) (evv rfl) (fun hp => (by first | exact evv rfl | exact evg rfl (by rw [hp]; rfl) | exact evg rfl hp | exact evg rfl hg | exact evg rfl (by first | (simp_all; done) | (simp [*]; done) | fail) | fail))) rfl rfl ?_
        refine oN ?_
        refine cC ?_
        refine r_cond rfl (fun hbad => ?_) (fun hbad => ?_) <;> (try simp only [decide_eq_true_eq, decide_eq_false_iff_not, Bool.and_eq_true, Bool.or_eq_true, Bool.not_eq_true', Bool.and_eq_false_iff, Bool.or_eq_false_iff, Bool.not_eq_false', Bool.not_eq_true, Bool.not_eq_false, Bool.true_eq_false, Bool.false_eq_true, Int.not_lt, Int.not_le, not_and, not_or, ne_eq] at hbad)
        · refine rS ?_
          refine rR (id := 31) ?_
          refine oG (v := agg [(Go.Value.int Go.IntKind.i64 0), (Go.Value.int Go.IntKind.i64 0), (Go.Value.int Go.IntKind.i64 0), (Go.Value.string { data := #[] }), (Go.Value.slice none 0 0)]) (g_buildC rfl (by rfl)) rfl rfl ?_
          refine o_storeW (evv rfl) (evv rfl) (by first | rfl | assumption | exact LenC.h _ | (simp [bys, *]; done) | fail) (by first | (intro _ _ _; exact bys_one _) | exact AllOne.h | (intro _ _ _ u hu; simp at hu; rcases hu with rfl | rfl | rfl | rfl | rfl | rfl | rfl | rfl <;> rfl) | fail) (by first | rfl | exact (LenC.h _).trans rfl | exact (LenC.h _).trans (LenC.h _).symm | (simp [bys, *]; done) | (simp only [bys, List.length_map, *]; rfl) | fail) ?_
          refine oG (gA (evv rfl)) rfl rfl ?_
          refine oN ?_
          refine cC ?_
          refine r_retC (rs := [.cell 4 28, .tmp 5]) (vs := [agg (kC 0 0 0 [] (.slice none 0 0)), .bool false]) rfl (ro_agg rfl rfl rfl (ro_tmp rfl ro_nil)) _ ((Lay.ent (L' := F)).trans hzE) (hz (hrn))
        · omega
      · have hwm := hw m (by omega)
        have hwf := hw f (by omega)
        have hwg := hw g (by omega)
        refine rR (id := 30) ?_
        refine oG (gM (evv rfl)) rfl rfl ?_
        refine oG (g_bin (evv rfl) (evv rfl) (by rfl)) rfl rfl ?_
        refine oG (gM (evv rfl)) rfl rfl ?_
        refine o_lazy rfl (fun hg => gM (by first | exact evv rfl | exact evg rfl (by rw [hp]; rfl) | exact evg rfl hp | exact evg rfl hg | exact evg rfl (by first | (simp_all; done) | (simp [*]; done) | fail) | fail)) rfl rfl ?_
        refine o_lazy rfl (fun hg => g_bin (by first | exact evv rfl | exact evg rfl (by rw [hp]; rfl) | exact evg rfl hp | exact evg rfl hg | exact evg rfl (by first | (simp_all; done) | (simp [*]; done) | fail) | fail) (by first | exact evv rfl | exact evg rfl (by rw [hp]; rfl) | exact evg rfl hp | exact evg rfl hg | exact evg rfl (by first | (simp_all; done) | (simp [*]; done) | fail) | fail) (by rfl)) rfl rfl ?_
        refine oG (g_pick_or (evv rfl) (evv rfl) (fun hp => (by first | exact evv rfl | exact evg rfl (by rw [hp]; rfl) | exact evg rfl hp | exact evg rfl hg | exact evg rfl (by first | (simp_all; done) | (simp [*]; done) | fail) | fail))) rfl rfl ?_
        refine oG (gM (evv rfl)) rfl rfl ?_
        refine o_lazy rfl (fun hg => gM (by first | exact evv rfl | exact evg rfl (by rw [hp]; rfl) | exact evg rfl hp | exact evg rfl hg | exact evg rfl (by first | (simp_all; done) | (simp [*]; done) | fail) | fail)) rfl rfl ?_
        refine o_lazy rfl (fun hg => g_bin (by first | exact evv rfl | exact evg rfl (by rw [hp]; rfl) | exact evg rfl hp | exact evg rfl hg | exact evg rfl (by first | (simp_all; done) | (simp [*]; done) | fail) | fail) (by first | exact evv rfl | exact evg rfl (by rw [hp]; rfl) | exact evg rfl hp | exact evg rfl hg | exact evg rfl (by first | (simp_all; done) | (simp [*]; done) | fail) | fail) (by rfl)) rfl rfl ?_
        refine oG (g_pick_or (evv rfl) (evv rfl) (fun hp => (by first | exact evv rfl | exact evg rfl (by rw [hp]; rfl) | exact evg rfl hp | exact evg rfl hg | exact evg rfl (by first | (simp_all; done) | (simp [*]; done) | fail) | fail))) rfl rfl ?_
        refine oN ?_
        refine cC ?_
        refine r_cond rfl (fun hbad => ?_) (fun hbad => ?_) <;> (try simp only [decide_eq_true_eq, decide_eq_false_iff_not, Bool.and_eq_true, Bool.or_eq_true, Bool.not_eq_true', Bool.and_eq_false_iff, Bool.or_eq_false_iff, Bool.not_eq_false', Bool.not_eq_true, Bool.not_eq_false, Bool.true_eq_false, Bool.false_eq_true, Int.not_lt, Int.not_le, not_and, not_or, ne_eq] at hbad)
        · omega
        · rw [if_neg (by omega)] at hu3
          refine r_skip ?_
          refine cC ?_
          refine rS ?_
          refine rR (id := 32) ?_
          refine oG (gM (evv rfl)) rfl rfl ?_
          refine oG (gM (evv rfl)) rfl rfl ?_
          (refine o_call rfl _ (Ent.refl _) (Fn.atPick (rNum_g _ (by assumption) (by assumption) _)) rfl ?_; rintro _ _ ⟨ra, re, hra, rfl, hrs, rfl⟩)
          (refine o_call rfl _ (PickR.ent (K := blk _)) (rjRead_c _ _ _ _ (by assumption) _ (by assumption) _ _ (by first | assumption | omega)) rfl ?_; rintro _ _ ⟨lv, lok, ll, la, le, rfl, rfl, hla, hle⟩)
          refine oG (gM (evv rfl)) rfl rfl ?_
          refine oG (g_extract (evv rfl) (by rfl)) rfl rfl ?_
          refine oG (g_extract (evv rfl) (by rfl)) rfl rfl ?_
          refine oG (gA (evv rfl)) rfl rfl ?_
          refine oG (gA (evv rfl)) rfl rfl ?_
          refine oN ?_
          refine cC ?_
          rename_i ra4 re4 hra4 hrs4
          unfold manyR at hu3
          rw [hrs] at hu3
          have hll : ll.length ≤ 32 := by
            rcases hle with ⟨_, h, hE⟩ | ⟨_, rfl, _⟩
            · rw [entsR_len hE]; exact h
            · exact Nat.zero_le _
          have hlo : ∀ e ∈ ll, e.ok := by
            rcases hle with ⟨_, _, hE⟩ | ⟨_, rfl, _⟩
            · exact entsR_ok hE
            · simp
          have hS : StepK p r (lok, ⟨m, f, g, tx, ll⟩, la, le) := by
            refine ⟨hla, hlo, by dsimp only; omega, by dsimp only; omega, ?_⟩
            rw [← hu3]
            rcases hle with ⟨rfl, h, hE⟩ | ⟨rfl, rfl, hE⟩
            · rw [if_neg (by omega), hE]; rfl
            · by_cases h3 : 32 < (numR ⟨p.drop ra4, re4⟩).1
              · rw [if_pos h3]; rfl
              · rw [if_neg h3, hE.resolve_left h3]; rfl
          clear hle hu hu3 hr
          refine rR (id := 33) ?_
          refine oG (gM (evv rfl)) rfl rfl ?_
          refine o_giveN (g_conv TyU.h TyU.h (evv rfl)) (by simp only [inR]; omega) rfl ?_
          refine oG (gM (evv rfl)) rfl rfl ?_
          refine o_giveN (g_conv TyU.h TyU.h (evv rfl)) (by simp only [inR]; omega) rfl ?_
          refine oG (gM (evv rfl)) rfl rfl ?_
          refine o_giveN (g_conv TyU.h TyU.h (evv rfl)) (by simp only [inR]; omega) rfl ?_
          refine oG (gM (evv rfl)) rfl rfl ?_
          refine oG (gM (evv rfl)) rfl rfl ?_
          refine oG (g_buildC rfl (by rfl)) rfl rfl ?_
          refine o_storeW (evv rfl) (evv rfl) (by first | rfl | assumption | exact LenC.h _ | (simp [bys, *]; done) | fail) (by first | (intro _ _ _; exact bys_one _) | exact AllOne.h | (intro _ _ _ u hu; simp at hu; rcases hu with rfl | rfl | rfl | rfl | rfl | rfl | rfl | rfl <;> rfl) | fail) (by first | rfl | exact (LenC.h _).trans rfl | exact (LenC.h _).trans (LenC.h _).symm | (simp [bys, *]; done) | (simp only [bys, List.length_map, *]; rfl) | fail) ?_
          refine oN ?_
          refine c_blk ?_
          try simp only [hwm, hwf, hwg]
          exact c_cut (⟨((lok, ⟨m, f, g, tx, ll⟩, la, le), lv, [(lv, entR ll)]), ⟨hS, .inr inferInstance⟩⟩ : StK ve es p r) (by repeat (first | exact trivial | refine ⟨rfl, ?_⟩ | refine envsub_v rfl (by first | rfl | (refine int_eq ?_; first | omega | (simp; omega) | (simp; done)) | (refine bool_eq ?_; first | (simp [*]; done) | (simp; done)) | (refine str_eq ?_; simp; done) | (refine ptr_eq ?_; omega) | fail) ?_)) (((Lay.ent (L' := sl lv (entR ll) :: blk q ⟨kC m f g tx lv, 28⟩ :: blk o ⟨kC 0 0 0 [] (.slice none 0 0), 28⟩ :: blk y (rC pv la le) :: F)).trans slRom1))
    · rw [if_neg k4] at hu
      have hS : StepK p r (false, ⟨view, normal, base, state, es⟩, ra0, re0) := ⟨hra, hf, by dsimp only; omega, by dsimp only; omega, hu.symm⟩
      have d1 : decide ((n : Int) = 1) = false := decide_eq_false (by omega)
      have d2 : decide ((n : Int) = 2) = false := decide_eq_false (by omega)
      have d3 : decide ((n : Int) = 3) = false := decide_eq_false (by omega)
      have d4 : decide ((n : Int) = 4) = false := decide_eq_false (by omega)
      refine r_block ?_
      refine rS ?_
      refine rR (id := 7) ?_
      refine oG (g_bin (evv rfl) (evv rfl) (by rfl)) rfl rfl ?_
      refine oG (gA (evv rfl)) rfl rfl ?_
      refine oN ?_
      refine cC ?_
      simp only [d1]
      refine r_cond_false rfl ?_
      refine rS ?_
      refine rR (id := 13) ?_
      refine oG (g_bin (evv rfl) (evv rfl) (by rfl)) rfl rfl ?_
      refine oG (gA (evv rfl)) rfl rfl ?_
      refine oN ?_
      refine cC ?_
      simp only [d2]
      refine r_cond_false rfl ?_
      refine rS ?_
      refine rR (id := 16) ?_
      refine oG (g_bin (evv rfl) (evv rfl) (by rfl)) rfl rfl ?_
      refine oG (gA (evv rfl)) rfl rfl ?_
      refine oN ?_
      refine cC ?_
      simp only [d3]
      refine r_cond_false rfl ?_
      refine rS ?_
      refine rR (id := 25) ?_
      refine oG (g_bin (evv rfl) (evv rfl) (by rfl)) rfl rfl ?_
      refine oG (gA (evv rfl)) rfl rfl ?_
      refine oN ?_
      refine cC ?_
      simp only [d4]
      refine r_cond_false rfl ?_
      refine r_skip ?_
      refine c_blk ?_
      exact c_cut (⟨((false, ⟨view, normal, base, state, es⟩, ra0, re0), ve, []), ⟨hS, .inl ⟨rfl, rfl⟩⟩⟩ : StK ve es p r) (by repeat (first | exact trivial | refine ⟨rfl, ?_⟩ | refine envsub_v rfl (by first | rfl | (refine int_eq ?_; first | omega | (simp; omega) | (simp; done)) | (refine bool_eq ?_; first | (simp [*]; done) | (simp; done)) | (refine str_eq ?_; simp; done) | (refine ptr_eq ?_; omega) | fail) ?_)) (((Lay.ent (L' := blk q ⟨kC view normal base state ve, 28⟩ :: blk o ⟨kC 0 0 0 [] (.slice none 0 0), 28⟩ :: blk y (rC pv ra0 re0) :: F)).trans Ent.romNil))
  · rintro ⟨⟨⟨ok, k', a', e'⟩, fv, l2⟩, ⟨h1, h2, h3, h4, h5⟩, h6⟩
    dsimp only [List.cons_append, List.nil_append] at h1 h2 h3 h4 h5 h6 ⊢
    have hfe : ∀ e ∈ k'.ents, e.ok := h2
    have h8 : Rd (rom l2 :: F) fv (entR k'.ents) := h6.rd
    haveI h7 : ∀ A B C, Rd (rom l2 :: A :: B :: C :: F) fv (entR k'.ents) := fun A B C => h8.ent (Ent.cons (Ent.drop.trans (Ent.drop.trans Ent.drop)))
    have hl5 : k'.ents.length ≤ 1048576 := by omega
    cases ok with
    | false =>
      have hrn : r = none := h5
      refine cC ?_
      refine rS ?_
      refine rS ?_
      refine rR (id := 34) ?_
      refine oG (gM (evv rfl)) rfl rfl ?_
      refine oG (g_not (evv rfl)) rfl rfl ?_
      refine oG (gM (evv rfl)) rfl rfl ?_
      refine o_lazy rfl (fun hg => gM (by first | exact evv rfl | exact evg rfl (by rw [hp]; rfl) | exact evg rfl hp | exact evg rfl hg | exact evg rfl (by first | (simp_all; done) | (simp [*]; done) | fail) | fail)) rfl rfl ?_
      refine o_lazy rfl (fun hg => g_nil (by first | exact evv rfl | exact evg rfl (by rw [hp]; rfl) | exact evg rfl hp | exact evg rfl hg | exact evg rfl (by first | (simp_all; done) | (simp [*]; done) | fail) | fail)) rfl rfl ?_
      refine o_lazy rfl (fun hg => g_fld (evg rfl hg)) rfl rfl ?_
      refine o_lazy rfl (fun hg => g_load (evg rfl hg) (by rfl) (by rfl)) rfl rfl ?_
      refine o_lazy rfl (fun hg => g_bin (by first | exact evv rfl | exact evg rfl (by rw [hp]; rfl) | exact evg rfl hp | exact evg rfl hg | exact evg rfl (by first | (simp_all; done) | (simp [*]; done) | fail) | fail) (by first | exact evv rfl | exact evg rfl (by rw [hp]; rfl) | exact evg rfl hp | exact evg rfl hg | exact evg rfl (by first | (simp_all; done) | (simp [*]; done) | fail) | fail) (by rfl)) rfl rfl ?_
      refine oG (g_pick (b := true) (evv rfl) (fun _ => (evv rfl)) (fun h => by cases h)) rfl rfl ?_
      refine oG (gM (evv rfl)) rfl rfl ?_
      refine o_lazy rfl (fun hg => gM (by first | exact evv rfl | exact evg rfl (by rw [hp]; rfl) | exact evg rfl hp | exact evg rfl hg | exact evg rfl (by first | (simp_all; done) | (simp [*]; done) | fail) | fail)) rfl rfl ?_
      refine o_lazy (v0 := undef) rfl (fun hg => absurd hg (by first | (simp; done) | fail)) rfl rfl ?_
      refine o_lazy (v0 := undef) rfl (fun hg => absurd hg (by first | (simp; done) | fail)) rfl rfl ?_
      refine oG (g_pick (b := true) (evv rfl) (fun _ => (evv rfl)) (fun h => by cases h)) rfl rfl ?_
      refine oG (gM (evv rfl)) rfl rfl ?_
      refine o_lazy rfl (fun hg => g_loadF (evv rfl) (by rfl) (by rfl)) rfl rfl ?_
      refine o_lazy (v0 := undef) rfl (fun hg => absurd hg (by first | (simp; done) | fail)) rfl rfl ?_
      refine o_lazy (v0 := undef) rfl (fun hg => absurd hg (by first | (simp; done) | fail)) rfl rfl ?_
      refine oG (g_pick (b := true) (evv rfl) (fun _ => (evv rfl)) (fun h => by cases h)) rfl rfl ?_
      refine oN ?_
      refine cC ?_
      refine r_cond_true rfl ?_
      refine rS ?_
      refine rR (id := 35) ?_
      refine oG (v := agg [(Go.Value.int Go.IntKind.i64 0), (Go.Value.int Go.IntKind.i64 0), (Go.Value.int Go.IntKind.i64 0), (Go.Value.string { data := #[] }), (Go.Value.slice none 0 0)]) (g_buildC rfl (by rfl)) rfl rfl ?_
      refine o_storeW (evv rfl) (evv rfl) (by first | rfl | assumption | exact LenC.h _ | (simp [bys, *]; done) | fail) (by first | (intro _ _ _; exact bys_one _) | exact AllOne.h | (intro _ _ _ u hu; simp at hu; rcases hu with rfl | rfl | rfl | rfl | rfl | rfl | rfl | rfl <;> rfl) | fail) (by first | rfl | exact (LenC.h _).trans rfl | exact (LenC.h _).trans (LenC.h _).symm | (simp [bys, *]; done) | (simp only [bys, List.length_map, *]; rfl) | fail) ?_
      refine oG (gA (evv rfl)) rfl rfl ?_
      refine oN ?_
      refine cC ?_
      refine r_retC (rs := [.cell 4 28, .tmp 5]) (vs := [agg (kC 0 0 0 [] (.slice none 0 0)), .bool false]) rfl (ro_agg rfl rfl rfl (ro_tmp rfl ro_nil)) _ ((Lay.ent (L' := F)).trans hzE) (hz (hrn))
    | true =>
      have hrf : r = finK k' ⟨p.drop a', e'⟩ := h5
      refine cC ?_
      refine rS ?_
      refine rS ?_
      refine rR (id := 34) ?_
      refine oG (gM (evv rfl)) rfl rfl ?_
      refine oG (g_not (evv rfl)) rfl rfl ?_
      refine oG (gM (evv rfl)) rfl rfl ?_
      refine o_gyes rfl ?_
      refine oG (gM (evv rfl)) rfl rfl ?_
      refine o_gyes rfl ?_
      refine oG (g_nil (evv rfl)) rfl rfl ?_
      refine o_gyes rfl ?_
      refine oG (g_fld (evv rfl)) rfl rfl ?_
      refine o_gyes rfl ?_
      refine oG (g_load (evv rfl) (by rfl) (by rfl)) rfl rfl ?_
      refine o_gyes rfl ?_
      refine oG (g_bin (evv rfl) (evv rfl) (by rfl)) rfl rfl ?_
      refine oG (g_pick (b := false) (evv rfl) (fun h => by cases h) (fun _ => (evv rfl))) rfl rfl ?_
      refine oG (gM (evv rfl)) rfl rfl ?_
      refine o_lazy rfl (fun hg => gM (by first | exact evv rfl | exact evg rfl (by rw [hp]; rfl) | exact evg rfl hp | exact evg rfl hg | exact evg rfl (by first | (simp_all; done) | (simp [*]; done) | fail) | fail)) rfl rfl ?_
      by_cases he : e' = 0
      · simp only [decide_eq_true he, Bool.not_true, Bool.not_false]
        refine o_sure (t := 167) rfl rfl ?_
        refine o_gyes rfl ?_
        (refine o_call rfl _ (Ent.refl _) (Fn.atPick (rLeft_g _ (by assumption) (by assumption) _)) rfl ?_; rintro _ _ ⟨rfl, rfl⟩)
        refine o_gyes rfl ?_
        refine oG (g_bin (evv rfl) (evv rfl) (by rfl)) rfl rfl ?_
        refine oG (g_pick (b := false) (evv rfl) (fun h => by cases h) (fun _ => (evv rfl))) rfl rfl ?_
        refine oG (gM (evv rfl)) rfl rfl ?_
        refine o_lazy rfl (fun hg => g_loadF (evv rfl) (by rfl) (by rfl)) rfl rfl ?_
        by_cases hb : ((p.drop a').length : Int) = 0
        · simp only [decide_eq_true hb, Bool.not_true, Bool.not_false, Bool.or_self]
          refine o_sure (t := 172) rfl rfl ?_
          refine o_gyes rfl ?_
          (refine o_call rfl _ (Ent.refl _) (rjCheck_c _ _ _ _ _ _ _ (by first | assumption | omega) (by first | assumption | omega) (by assumption)) rfl ?_; rintro _ _ ⟨rfl, hLz⟩; obtain rfl := hLz.symm; clear hLz)
          refine o_gyes rfl ?_
          refine oG (g_not (evv rfl)) rfl rfl ?_
          refine oG (g_pick (b := false) (evv rfl) (fun h => by cases h) (fun _ => (evv rfl))) rfl rfl ?_
          refine oN ?_
          refine cC ?_
          by_cases hok : k'.ok
          · have hrs : r = some k' := by rw [hrf]; exact if_pos ⟨he, List.eq_nil_of_length_eq_zero (show (p.drop a').length = 0 by omega), hok⟩
            simp only [show (⟨k'.view, k'.normal, k'.base, k'.state, k'.ents⟩ : KeptS) = k' from rfl, decide_eq_true hok, Bool.not_true, Bool.or_self]
            refine r_cond_false rfl ?_
            refine r_skip ?_
            refine cC ?_
            refine rS ?_
            refine rR (id := 36) ?_
            refine oG (g_loadF (evv rfl) (by rfl) (by rfl)) rfl rfl ?_
            refine o_storeW (evv rfl) (evv rfl) (by first | rfl | assumption | exact LenC.h _ | (simp [bys, *]; done) | fail) (by first | (intro _ _ _; exact bys_one _) | exact AllOne.h | (intro _ _ _ u hu; simp at hu; rcases hu with rfl | rfl | rfl | rfl | rfl | rfl | rfl | rfl <;> rfl) | fail) (by first | rfl | exact (LenC.h _).trans rfl | exact (LenC.h _).trans (LenC.h _).symm | (simp [bys, *]; done) | (simp only [bys, List.length_map, *]; rfl) | fail) ?_
            refine oG (gA (evv rfl)) rfl rfl ?_
            refine oN ?_
            refine cC ?_
            refine r_retC (rs := [.cell 4 28, .tmp 5]) (vs := [agg (kC k'.view k'.normal k'.base k'.state fv), .bool true]) rfl (ro_agg rfl rfl rfl (ro_tmp rfl ro_nil)) _ (Lay.ent (L' := rom l2 :: F)) ?_
            subst hrs
            exact ⟨fv, l2, rfl, rfl, h6⟩
          · have hrn : r = none := by rw [hrf]; exact if_neg (fun h => hok h.2.2)
            simp only [show (⟨k'.view, k'.normal, k'.base, k'.state, k'.ents⟩ : KeptS) = k' from rfl, decide_eq_false hok, Bool.not_false, Bool.or_true]
            refine r_cond_true rfl ?_
            refine rS ?_
            refine rR (id := 35) ?_
            refine oG (v := agg [(Go.Value.int Go.IntKind.i64 0), (Go.Value.int Go.IntKind.i64 0), (Go.Value.int Go.IntKind.i64 0), (Go.Value.string { data := #[] }), (Go.Value.slice none 0 0)]) (g_buildC rfl (by rfl)) rfl rfl ?_
            refine o_storeW (evv rfl) (evv rfl) (by first | rfl | assumption | exact LenC.h _ | (simp [bys, *]; done) | fail) (by first | (intro _ _ _; exact bys_one _) | exact AllOne.h | (intro _ _ _ u hu; simp at hu; rcases hu with rfl | rfl | rfl | rfl | rfl | rfl | rfl | rfl <;> rfl) | fail) (by first | rfl | exact (LenC.h _).trans rfl | exact (LenC.h _).trans (LenC.h _).symm | (simp [bys, *]; done) | (simp only [bys, List.length_map, *]; rfl) | fail) ?_
            refine oG (gA (evv rfl)) rfl rfl ?_
            refine oN ?_
            refine cC ?_
            refine r_retC (rs := [.cell 4 28, .tmp 5]) (vs := [agg (kC 0 0 0 [] (.slice none 0 0)), .bool false]) rfl (ro_agg rfl rfl rfl (ro_tmp rfl ro_nil)) _ ((Lay.ent (L' := F)).trans hzE) (hz (hrn))
        · have hrn : r = none := by rw [hrf]; exact if_neg (fun h => hb (by have h0 : p.drop a' = [] := h.2.1; rw [h0]; rfl))
          simp only [decide_eq_false hb, Bool.not_true, Bool.not_false, Bool.or_true]
          refine o_lazy (v0 := undef) rfl (fun hg => absurd hg (by first | (simp; done) | fail)) rfl rfl ?_
          refine o_lazy (v0 := undef) rfl (fun hg => absurd hg (by first | (simp; done) | fail)) rfl rfl ?_
          refine oG (g_pick (b := true) (evv rfl) (fun _ => (evv rfl)) (fun h => by cases h)) rfl rfl ?_
          refine oN ?_
          refine cC ?_
          refine r_cond_true rfl ?_
          refine rS ?_
          refine rR (id := 35) ?_
          refine oG (v := agg [(Go.Value.int Go.IntKind.i64 0), (Go.Value.int Go.IntKind.i64 0), (Go.Value.int Go.IntKind.i64 0), (Go.Value.string { data := #[] }), (Go.Value.slice none 0 0)]) (g_buildC rfl (by rfl)) rfl rfl ?_
          refine o_storeW (evv rfl) (evv rfl) (by first | rfl | assumption | exact LenC.h _ | (simp [bys, *]; done) | fail) (by first | (intro _ _ _; exact bys_one _) | exact AllOne.h | (intro _ _ _ u hu; simp at hu; rcases hu with rfl | rfl | rfl | rfl | rfl | rfl | rfl | rfl <;> rfl) | fail) (by first | rfl | exact (LenC.h _).trans rfl | exact (LenC.h _).trans (LenC.h _).symm | (simp [bys, *]; done) | (simp only [bys, List.length_map, *]; rfl) | fail) ?_
          refine oG (gA (evv rfl)) rfl rfl ?_
          refine oN ?_
          refine cC ?_
          refine r_retC (rs := [.cell 4 28, .tmp 5]) (vs := [agg (kC 0 0 0 [] (.slice none 0 0)), .bool false]) rfl (ro_agg rfl rfl rfl (ro_tmp rfl ro_nil)) _ ((Lay.ent (L' := F)).trans hzE) (hz (hrn))
      · have hrn : r = none := by rw [hrf]; exact if_neg (fun h => he h.1)
        simp only [decide_eq_false he, Bool.not_true, Bool.not_false]
        refine o_lazy (v0 := undef) rfl (fun hg => absurd hg (by first | (simp; done) | fail)) rfl rfl ?_
        refine o_lazy (v0 := undef) rfl (fun hg => absurd hg (by first | (simp; done) | fail)) rfl rfl ?_
        refine oG (g_pick (b := true) (evv rfl) (fun _ => (evv rfl)) (fun h => by cases h)) rfl rfl ?_
        refine oG (gM (evv rfl)) rfl rfl ?_
        refine o_lazy rfl (fun hg => g_loadF (evv rfl) (by rfl) (by rfl)) rfl rfl ?_
        refine o_lazy (v0 := undef) rfl (fun hg => absurd hg (by first | (simp; done) | fail)) rfl rfl ?_
        refine o_lazy (v0 := undef) rfl (fun hg => absurd hg (by first | (simp; done) | fail)) rfl rfl ?_
        refine oG (g_pick (b := true) (evv rfl) (fun _ => (evv rfl)) (fun h => by cases h)) rfl rfl ?_
        refine oN ?_
        refine cC ?_
        refine r_cond_true rfl ?_
        refine rS ?_
        refine rR (id := 35) ?_
        refine oG (v := agg [(Go.Value.int Go.IntKind.i64 0), (Go.Value.int Go.IntKind.i64 0), (Go.Value.int Go.IntKind.i64 0), (Go.Value.string { data := #[] }), (Go.Value.slice none 0 0)]) (g_buildC rfl (by rfl)) rfl rfl ?_
        refine o_storeW (evv rfl) (evv rfl) (by first | rfl | assumption | exact LenC.h _ | (simp [bys, *]; done) | fail) (by first | (intro _ _ _; exact bys_one _) | exact AllOne.h | (intro _ _ _ u hu; simp at hu; rcases hu with rfl | rfl | rfl | rfl | rfl | rfl | rfl | rfl <;> rfl) | fail) (by first | rfl | exact (LenC.h _).trans rfl | exact (LenC.h _).trans (LenC.h _).symm | (simp [bys, *]; done) | (simp only [bys, List.length_map, *]; rfl) | fail) ?_
        refine oG (gA (evv rfl)) rfl rfl ?_
        refine oN ?_
        refine cC ?_
        refine r_retC (rs := [.cell 4 28, .tmp 5]) (vs := [agg (kC 0 0 0 [] (.slice none 0 0)), .bool false]) rfl (ro_agg rfl rfl rfl (ro_tmp rfl ro_nil)) _ ((Lay.ent (L' := F)).trans hzE) (hz (hrn))
end VK

namespace VK
open Go Go.Proofs
set_option linter.unusedSimpArgs false
set_option linter.unusedVariables false
set_option maxRecDepth 100000
set_option maxHeartbeats 40000000
abbrev rpo (r : Nat) (x : Pt) : Atom := blk r (rpB x.b0 x.b1 x.s0 x.s1 x.live x.armed x.down)
theorem rjdo_c (F : List Atom) (j r : Nat) (cs : List Value) (x : Pt) (hx : x.ok) (kind area : Int) (bv : Value) (b : List UInt8) (rd : Rd F bv (bR b)) (hb : b.length ≤ 1000000000) :
    Fn Try.prog 87 [.pointer (some ⟨j, 0, none⟩), .int .i64 kind, .int .i64 area, bv] (blk j ⟨.pointer (some ⟨r, 0, none⟩) :: cs, 67⟩ :: rpo r x :: F) fun w L' => w = .int .i64 (doT x ⟨kind, area, bv, b, 0, .slice none 0 0, []⟩).1 ∧ L' = blk j ⟨.pointer (some ⟨r, 0, none⟩) :: cs, 67⟩ :: rpo r (doT x ⟨kind, area, bv, b, 0, .slice none 0 0, []⟩).2 :: F := by
  have hrd : ∀ A, RdC (A :: F) ⟨kind, area, bv, b, 0, .slice none 0 0, []⟩ := fun A => ⟨rd.ent Ent.drop, Rd.nilM i64v _⟩
  refine fn_intro Try.func87 rfl Try.ntmps87 rfl (fun W0 => ?_)
  simp only [argE]
  refine rS ?_
  refine rR (id := 0) ?_
  refine oG (gA (evv rfl)) rfl rfl ?_
  refine oN ?_
  refine cC ?_
  refine rS ?_
  refine rR (id := 1) ?_
  refine oG (gM (evv rfl)) rfl rfl ?_
  refine oG (g_nil (evv rfl)) rfl rfl ?_
  refine oG (g_fld (evv rfl)) rfl rfl ?_
  refine oG (g_load (evv rfl) (by rfl) (by rfl)) rfl rfl ?_
  refine oG (gM (evv rfl)) rfl rfl ?_
  refine oG (gM (evv rfl)) rfl rfl ?_
  refine oG (gM (evv rfl)) rfl rfl ?_
  refine oG (g_buildC rfl (by rfl)) rfl rfl ?_
  refine o_call (vs := [.pointer (some ⟨r, 0, none⟩), agg (rcallC ⟨kind, area, bv, b, 0, .slice none 0 0, []⟩)]) rfl _ Ent.swap (rDo_c (blk j ⟨.pointer (some ⟨r, 0, none⟩) :: cs, 67⟩ :: F) r x hx ⟨kind, area, bv, b, 0, .slice none 0 0, []⟩ (rd := hrd _) (by simp) hb (show inR .i64 0 from ⟨by decide, by decide⟩)) rfl ?_
  rintro _ _ ⟨rfl, rfl⟩
  refine oG (gA (evv rfl)) rfl rfl ?_
  refine oN ?_
  refine cC ?_
  skip
  first | refine r_ret (rs := [.tmp 8]) rfl rfl _ (Ent.swap) ?_ | refine c_end (rs := [.tmp 8]) rfl rfl _ (Ent.swap) ?_
  exact ⟨rfl, rfl⟩
theorem rjdo0_c (F : List Atom) (j r : Nat) (cs : List Value) (x : Pt) (hx : x.ok) (area : Int) (bv : Value) (b : List UInt8) [rd : Rd F bv (bR b)] (hb : b.length ≤ 1000000000) :
    Fn Try.prog 87 [.pointer (some ⟨j, 0, none⟩), .int .i64 0, .int .i64 area, bv] (blk j ⟨.pointer (some ⟨r, 0, none⟩) :: cs, 67⟩ :: rpo r x :: F) fun w L' => w = .int .i64 (appT x area b).1 ∧ L' = blk j ⟨.pointer (some ⟨r, 0, none⟩) :: cs, 67⟩ :: rpo r (appT x area b).2 :: F := by
  have := rjdo_c F j r cs x hx 0 area bv b rd hb
  rw [doT_0 rfl] at this; exact this
theorem rjdo1_c (F : List Atom) (j r : Nat) (cs : List Value) (x : Pt) (hx : x.ok) (area : Int) :
    Fn Try.prog 87 [.pointer (some ⟨j, 0, none⟩), .int .i64 1, .int .i64 area, .slice none 0 0] (blk j ⟨.pointer (some ⟨r, 0, none⟩) :: cs, 67⟩ :: rpo r x :: F) fun w L' => w = .int .i64 (synT x area).1 ∧ L' = blk j ⟨.pointer (some ⟨r, 0, none⟩) :: cs, 67⟩ :: rpo r (synT x area).2 :: F := by
  have := rjdo_c F j r cs x hx 1 area (.slice none 0 0) [] (Rd.nilM by8 _) (by simp)
  rw [doT_1 rfl] at this; exact this
theorem rjdo2_c (F : List Atom) (j r : Nat) (cs : List Value) (x : Pt) (hx : x.ok) (area : Int) :
    Fn Try.prog 87 [.pointer (some ⟨j, 0, none⟩), .int .i64 2, .int .i64 area, .slice none 0 0] (blk j ⟨.pointer (some ⟨r, 0, none⟩) :: cs, 67⟩ :: rpo r x :: F) fun w L' => w = .int .i64 (wipT x area).1 ∧ L' = blk j ⟨.pointer (some ⟨r, 0, none⟩) :: cs, 67⟩ :: rpo r (wipT x area).2 :: F := by
  have := rjdo_c F j r cs x hx 2 area (.slice none 0 0) [] (Rd.nilM by8 _) (by simp)
  rw [doT_2 rfl] at this; exact this
theorem rjdo3_c (F : List Atom) (j r : Nat) (cs : List Value) (x : Pt) (hx : x.ok) :
    Fn Try.prog 87 [.pointer (some ⟨j, 0, none⟩), .int .i64 3, .int .i64 0, .slice none 0 0] (blk j ⟨.pointer (some ⟨r, 0, none⟩) :: cs, 67⟩ :: rpo r x :: F) fun w L' => w = .int .i64 (flpT x).1 ∧ L' = blk j ⟨.pointer (some ⟨r, 0, none⟩) :: cs, 67⟩ :: rpo r (flpT x).2 :: F := by
  have := rjdo_c F j r cs x hx 3 0 (.slice none 0 0) [] (Rd.nilM by8 _) (by simp)
  rw [doT_3 rfl] at this; exact this
end VK

namespace VK
open Go Go.Proofs
set_option linter.unusedSimpArgs false
set_option linter.unusedVariables false
set_option maxRecDepth 100000
set_option maxHeartbeats 40000000
abbrev rjo (j r : Nat) (k : KeptS) (ve : Value) : Atom := blk j ⟨.pointer (some ⟨r, 0, none⟩) :: kC k.view k.normal k.base k.state ve, 67⟩
theorem rjWrite_c (F : List Atom) (j r : Nat) (x : Pt) (k : KeptS) (ve pv : Value) (b : List UInt8) [rv : Rd F ve (entR k.ents)] [rp' : Rd F pv (bR b)] (hx : x.ok) (hk : k.ok) (hf : k.fine) (hb : b.length ≤ 262144) (hs : sizeP x + 262152 ≤ 1000000000) :
    Fn Try.prog 63 [.pointer (some ⟨j, 0, none⟩), pv] (rjo j r k ve :: rpo r x :: F) fun w L' => ∃ ve' l2, w = .int .i64 (writeT x k b).1 ∧ L' = rjo j r (writeT x k b).2.2 ve' :: rpo r (writeT x k b).2.1 :: rom l2 :: F ∧ LieE ve k.ents l2 ve' (writeT x k b).2.2.ents := by
  obtain ⟨view, normal, base, state, es⟩ := k
  have hb2 : b.length ≤ 140737488355000 := by omega
  have hfe : ∀ e ∈ es, e.ok := hf
  generalize hr : foldK ⟨view, normal, base, state, es⟩ b = r'
  refine fn_intro Try.func63 rfl Try.ntmps63 rfl (fun W0 => ?_)
  simp only [argE]
  refine rS ?_
  refine rR (id := 0) ?_
  refine oG (gA (evv rfl)) rfl rfl ?_
  refine oN ?_
  refine cC ?_
  refine rS ?_
  refine rR (id := 1) ?_
  refine oG (gM (evv rfl)) rfl rfl ?_
  refine oG (g_nil (evv rfl)) rfl rfl ?_
  refine oG (g_fld (evv rfl)) rfl rfl ?_
  refine oG (g_loadF (evv rfl) (by rfl) (by rfl)) rfl rfl ?_
  refine oG (gM (evv rfl)) rfl rfl ?_
  (refine o_call rfl _ (Ent.refl _) (rjFold_c _ _ _ _ _ _ _ _ _ (by first | assumption | omega) (by assumption) (by assumption)) rfl ?_; rintro _ _ ⟨fv, fl, rfl, rfl, hfr⟩; simp only [foldV']; refine o_rdI hfr fun hfi => ?_)
  refine oG (gM (evv rfl)) rfl rfl ?_
  refine oG (g_extract (evv rfl) (by rfl)) rfl rfl ?_
  refine oG (g_extract (evv rfl) (by rfl)) rfl rfl ?_
  refine o_alloc rfl rfl (fun _ => ?_)
  refine o_storeW (evv rfl) (evv rfl) (by first | rfl | assumption | exact LenC.h _ | (simp [bys, *]; done) | fail) (by first | (intro _ _ _; exact bys_one _) | exact AllOne.h | (intro _ _ _ u hu; simp at hu; rcases hu with rfl | rfl | rfl | rfl | rfl | rfl | rfl | rfl <;> rfl) | fail) (by first | rfl | exact (LenC.h _).trans rfl | exact (LenC.h _).trans (LenC.h _).symm | (simp [bys, *]; done) | (simp only [bys, List.length_map, *]; rfl) | fail) ?_
  refine oG (gA (evv rfl)) rfl rfl ?_
  refine oN ?_
  refine cC ?_
  refine rS ?_
  refine rS ?_
  rename_i c
  clear hfi
  rw [hr] at hfr ⊢
  cases r' with
  | none =>
    rw [writeT_none hr]
    simp only [Option.getD_none, Option.isSome_none]
    refine rR (id := 2) ?_
    refine oG (gM (evv rfl)) rfl rfl ?_
    refine oG (g_not (evv rfl)) rfl rfl ?_
    refine oN ?_
    refine cC ?_
    refine r_cond_true rfl ?_
    refine rS ?_
    refine rR (id := 3) ?_
    refine oG (gA (evv rfl)) rfl rfl ?_
    refine oN ?_
    refine cC ?_
    first | refine r_ret (rs := [.tmp 4]) rfl rfl _ ((Lay.ent (L' := rjo j r ⟨view, normal, base, state, es⟩ ve :: rpo r x :: rom fl :: F))) ?_ | refine c_end (rs := [.tmp 4]) rfl rfl _ ((Lay.ent (L' := rjo j r ⟨view, normal, base, state, es⟩ ve :: rpo r x :: rom fl :: F))) ?_
    exact ⟨ve, fl, rfl, rfl, .inl ⟨rfl, rfl⟩⟩
  | some k' =>
    have hfr' : frR b = (frameB b, 0) := if_neg (by omega)
    have hl8 := frame_len b
    have hb9 : b.length ≤ 1048576 := by omega
    have hm9 : (frameB b).length ≤ 1000000000 := by omega
    rw [writeT_some hr]
    simp only [Option.getD_some, Option.isSome_some] at hfr ⊢
    obtain ⟨hx1, hz1⟩ := appT_ok hx (i := x.live) (m := frameB b) (by omega)
    rcases hA : appT x x.live (frameB b) with ⟨e1, x1⟩
    rw [hA] at hx1 hz1
    dsimp only at hx1 hz1 ⊢
    rcases hB : synT x1 x1.live with ⟨e2, x2⟩
    dsimp only
    refine rR (id := 2) ?_
    refine oG (gM (evv rfl)) rfl rfl ?_
    refine oG (g_not (evv rfl)) rfl rfl ?_
    refine oN ?_
    refine cC ?_
    refine r_cond_false rfl ?_
    refine r_skip ?_
    refine cC ?_
    refine rS ?_
    refine rR (id := 4) ?_
    refine oG (gM (evv rfl)) rfl rfl ?_
    (refine o_call rfl _ (Ent.refl _) (rFrame_c _ _ _ (by first | assumption | omega)) rfl ?_; rintro _ _ ⟨ff, rfl, rfl⟩)
    refine oG (gM (evv rfl)) rfl rfl ?_
    refine oG (g_extract (evv rfl) (by rfl)) rfl rfl ?_
    refine oG (g_extract (evv rfl) (by rfl)) rfl rfl ?_
    refine oG (gA (evv rfl)) rfl rfl ?_
    refine oG (gA (evv rfl)) rfl rfl ?_
    refine oN ?_
    refine cC ?_
    refine rS ?_
    rw [hfr']
    dsimp only
    refine rR (id := 5) ?_
    refine oG (gM (evv rfl)) rfl rfl ?_
    refine oG (gM (evv rfl)) rfl rfl ?_
    refine oG (g_nil (evv rfl)) rfl rfl ?_
    refine oG (g_fld (evv rfl)) rfl rfl ?_
    refine oG (g_load (evv rfl) (by rfl) (by rfl)) rfl rfl ?_
    refine oG (g_nil (evv rfl)) rfl rfl ?_
    refine oG (g_fld (evv rfl)) rfl rfl ?_
    refine oG (g_load (evv rfl) (by rfl) (by rfl)) rfl rfl ?_
    refine oG (gM (evv rfl)) rfl rfl ?_
    (refine o_call rfl _ (pick2 (K1 := blk _) (K2 := blk _)) (rjdo0_c _ _ _ _ _ (by assumption) _ _ _ (by first | assumption | omega)) rfl ?_; rintro _ _ ⟨rfl, rfl⟩)
    refine oG (gA (evv rfl)) rfl rfl ?_
    refine oN ?_
    refine cC ?_
    refine rS ?_
    refine rS ?_
    rw [hA]
    dsimp only
    by_cases h1 : e1 = 0
    · subst h1
      refine rR (id := 6) ?_
      refine oG (gM (evv rfl)) rfl rfl ?_
      refine oG (g_bin (evv rfl) (evv rfl) (by rfl)) rfl rfl ?_
      refine oN ?_
      refine cC ?_
      refine r_cond_true rfl ?_
      refine rR (id := 7) ?_
      refine oG (gM (evv rfl)) rfl rfl ?_
      refine oG (gM (evv rfl)) rfl rfl ?_
      refine oG (g_nil (evv rfl)) rfl rfl ?_
      refine oG (g_fld (evv rfl)) rfl rfl ?_
      refine oG (g_load (evv rfl) (by rfl) (by rfl)) rfl rfl ?_
      refine oG (g_nil (evv rfl)) rfl rfl ?_
      refine oG (g_fld (evv rfl)) rfl rfl ?_
      refine oG (g_load (evv rfl) (by rfl) (by rfl)) rfl rfl ?_
      (refine o_call rfl _ (pick2 (K1 := blk _) (K2 := blk _)) (rjdo1_c _ _ _ _ _ (by assumption) _) rfl ?_; rintro _ _ ⟨rfl, rfl⟩)
      refine oG (gA (evv rfl)) rfl rfl ?_
      refine oN ?_
      refine cC ?_
      refine rS ?_
      refine rS ?_
      rw [hB]
      dsimp only
      by_cases h2 : e2 = 0
      · subst h2
        have hq0 := hfr.rd (F := F)
        haveI hq : ∀ A B C D, Rd (A :: B :: C :: D :: rom fl :: F) fv (entR k'.ents) := fun A B C D => hq0.ent (Ent.drop.trans (Ent.drop.trans (Ent.drop.trans Ent.drop)))
        refine rR (id := 8) ?_
        refine oG (gM (evv rfl)) rfl rfl ?_
        refine oG (g_bin (evv rfl) (evv rfl) (by rfl)) rfl rfl ?_
        refine oN ?_
        refine cC ?_
        refine r_cond_true rfl ?_
        refine rR (id := 9) ?_
        refine oG (gM (evv rfl)) rfl rfl ?_
        refine oG (g_loadF (evv rfl) (by rfl) (by rfl)) rfl rfl ?_
        refine oG (g_nil (evv rfl)) rfl rfl ?_
        refine oG (g_fld (evv rfl)) rfl rfl ?_
        refine o_storeA (evv rfl) (evv rfl) (by first | rfl | assumption | exact LenC.h _ | (simp [bys, *]; done) | fail) (by first | (intro _ _ _; exact bys_one _) | exact AllOne.h | (intro _ _ _ u hu; simp at hu; rcases hu with rfl | rfl | rfl | rfl | rfl | rfl | rfl | rfl <;> rfl) | fail) (by rfl) (by rfl) ?_
        refine oN ?_
        refine cC ?_
        refine rS ?_
        refine rR (id := 10) ?_
        refine oG (gM (evv rfl)) rfl rfl ?_
        refine oG (gA (evv rfl)) rfl rfl ?_
        refine oN ?_
        refine cC ?_
        first | refine r_ret (rs := [.tmp 4]) rfl rfl _ ((Lay.ent (L' := rjo j r k' fv :: rpo r x2 :: rom fl :: F))) ?_ | refine c_end (rs := [.tmp 4]) rfl rfl _ ((Lay.ent (L' := rjo j r k' fv :: rpo r x2 :: rom fl :: F))) ?_
        exact ⟨fv, fl, rfl, rfl, hfr⟩
      · rw [if_neg (show ¬ (0 : Int) ≠ 0 by decide), if_pos h2]
        refine rR (id := 8) ?_
        refine oG (gM (evv rfl)) rfl rfl ?_
        refine oG (g_bin (evv rfl) (evv rfl) (by rfl)) rfl rfl ?_
        refine oN ?_
        refine cC ?_
        refine r_cond rfl (fun g2 => ?_) (fun g2 => ?_) <;> (try simp only [decide_eq_true_eq, decide_eq_false_iff_not, Bool.and_eq_true, Bool.or_eq_true, Bool.not_eq_true', Bool.and_eq_false_iff, Bool.or_eq_false_iff, Bool.not_eq_false', Bool.not_eq_true, Bool.not_eq_false, Bool.true_eq_false, Bool.false_eq_true, Int.not_lt, Int.not_le, not_and, not_or, ne_eq] at g2)
        · exact absurd g2 h2
        · refine r_skip ?_
          refine cC ?_
          refine rS ?_
          refine rR (id := 10) ?_
          refine oG (gM (evv rfl)) rfl rfl ?_
          refine oG (gA (evv rfl)) rfl rfl ?_
          refine oN ?_
          refine cC ?_
          first | refine r_ret (rs := [.tmp 4]) rfl rfl _ ((Lay.ent (L' := rjo j r ⟨view, normal, base, state, es⟩ ve :: rpo r x2 :: rom fl :: F))) ?_ | refine c_end (rs := [.tmp 4]) rfl rfl _ ((Lay.ent (L' := rjo j r ⟨view, normal, base, state, es⟩ ve :: rpo r x2 :: rom fl :: F))) ?_
          exact ⟨ve, fl, rfl, rfl, .inl ⟨rfl, rfl⟩⟩
    · rw [if_pos h1]
      refine rR (id := 6) ?_
      refine oG (gM (evv rfl)) rfl rfl ?_
      refine oG (g_bin (evv rfl) (evv rfl) (by rfl)) rfl rfl ?_
      refine oN ?_
      refine cC ?_
      refine r_cond rfl (fun g1 => ?_) (fun g1 => ?_) <;> (try simp only [decide_eq_true_eq, decide_eq_false_iff_not, Bool.and_eq_true, Bool.or_eq_true, Bool.not_eq_true', Bool.and_eq_false_iff, Bool.or_eq_false_iff, Bool.not_eq_false', Bool.not_eq_true, Bool.not_eq_false, Bool.true_eq_false, Bool.false_eq_true, Int.not_lt, Int.not_le, not_and, not_or, ne_eq] at g1)
      · exact absurd g1 h1
      · refine r_skip ?_
        refine cC ?_
        refine rS ?_
        refine rS ?_
        refine rR (id := 8) ?_
        refine oG (gM (evv rfl)) rfl rfl ?_
        refine oG (g_bin (evv rfl) (evv rfl) (by rfl)) rfl rfl ?_
        refine oN ?_
        refine cC ?_
        refine r_cond rfl (fun g2 => ?_) (fun g2 => ?_) <;> (try simp only [decide_eq_true_eq, decide_eq_false_iff_not, Bool.and_eq_true, Bool.or_eq_true, Bool.not_eq_true', Bool.and_eq_false_iff, Bool.or_eq_false_iff, Bool.not_eq_false', Bool.not_eq_true, Bool.not_eq_false, Bool.true_eq_false, Bool.false_eq_true, Int.not_lt, Int.not_le, not_and, not_or, ne_eq] at g2)
        · exact absurd g2 h1
        · refine r_skip ?_
          refine cC ?_
          refine rS ?_
          refine rR (id := 10) ?_
          refine oG (gM (evv rfl)) rfl rfl ?_
          refine oG (gA (evv rfl)) rfl rfl ?_
          refine oN ?_
          refine cC ?_
          first | refine r_ret (rs := [.tmp 4]) rfl rfl _ ((Lay.ent (L' := rjo j r ⟨view, normal, base, state, es⟩ ve :: rpo r x1 :: rom fl :: F))) ?_ | refine c_end (rs := [.tmp 4]) rfl rfl _ ((Lay.ent (L' := rjo j r ⟨view, normal, base, state, es⟩ ve :: rpo r x1 :: rom fl :: F))) ?_
          exact ⟨ve, fl, rfl, rfl, .inl ⟨rfl, rfl⟩⟩
end VK

namespace VK
open Go Go.Proofs
set_option linter.unusedSimpArgs false
set_option linter.unusedVariables false
set_option maxRecDepth 100000
set_option maxHeartbeats 40000000
theorem layG_go {o : Int} {f : List UInt8} {x : Pt} {i : Nat} (h : (layG o f x i).1 = 0) : layG o f x (i + 1) = layS o f i (layG o f x i).2 := if_pos h
theorem layG_no {o : Int} {f : List UInt8} {x : Pt} {i : Nat} (h : (layG o f x i).1 ≠ 0) : layG o f x (i + 1) = layG o f x i := if_neg h
theorem rjLay_c (F : List Atom) (j r : Nat) (x : Pt) (k0 k : KeptS) (ve0 ve : Value) [r0 : Rd F ve0 (entR k0.ents)] [rv : Rd F ve (entR k.ents)] (hx : x.ok) (hf : k.fine) (hl : k.ents.length ≤ 1048576) (hst : k.state.length ≤ 140737488355000) (hs : sizeP x + 262152 ≤ 1000000000) :
    Fn Try.prog 60 [.pointer (some ⟨j, 0, none⟩), agg (kC k.view k.normal k.base k.state ve)] (rjo j r k0 ve0 :: rpo r x :: F) fun w L' => w = .int .i64 (layT x k0 k).1 ∧ L' = rjo j r (layT x k0 k).2.2 (if (layT x k0 k).1 = 0 then ve else ve0) :: rpo r (layT x k0 k).2.1 :: F := by
  have hfe : ∀ e ∈ k.ents, e.ok := hf
  have hlv := hx.l
  refine fn_intro Try.func60 rfl Try.ntmps60 rfl (fun W0 => ?_)
  simp only [argE]
  refine rS ?_
  refine rR (id := 0) ?_
  refine o_boxA (evv rfl) rfl (fun _ => ?_)
  refine oG (gA (evv rfl)) rfl rfl ?_
  refine oN ?_
  refine cC ?_
  refine rS ?_
  refine rS ?_
  refine rR (id := 1) ?_
  refine oG (g_loadF (evv rfl) (by rfl) (by rfl)) rfl rfl ?_
  (refine o_call rfl _ (Ent.refl _) (rjCheck_c _ _ _ _ _ _ _ (by first | assumption | omega) (by first | assumption | omega) (by assumption)) rfl ?_; rintro _ _ ⟨rfl, hLz⟩; obtain rfl := hLz.symm; clear hLz)
  refine oG (g_not (evv rfl)) rfl rfl ?_
  refine oN ?_
  refine cC ?_
  rw [show (⟨k.view, k.normal, k.base, k.state, k.ents⟩ : KeptS) = k from rfl]
  by_cases hk : k.ok
  · have hpl := payW_len hk hf
    have hfr' : frR (payW k) = (frameB (payW k), 0) := if_neg (by omega)
    have hl8 := frame_len (payW k)
    have hT : layT x k0 k = ((layG (1 - x.live) (frameB (payW k)) x 5).1, (layG (1 - x.live) (frameB (payW k)) x 5).2, if (layG (1 - x.live) (frameB (payW k)) x 5).1 = 0 then k else k0) := if_neg (by simpa using hk)
    rw [hT]
    dsimp only
    have hbl : (payW k).length ≤ 1048576 := by omega
    have hfl : (frameB (payW k)).length ≤ 1000000000 := by omega
    have hG := layG_ok hx (o := 1 - x.live) (f := frameB (payW k)) (by omega)
    have o0 := (hG 0).1
    have o1 := (hG 1).1
    have o2 := (hG 2).1
    have o3 := (hG 3).1
    have o4 := (hG 4).1
    simp only [decide_eq_true hk]
    rename_i c
    refine r_cond_false rfl ?_
    refine r_skip ?_
    refine cC ?_
    refine rS ?_
    refine rR (id := 3) ?_
    refine oG (g_loadF (evv rfl) (by rfl) (by rfl)) rfl rfl ?_
    refine o_call (vs := [agg (kC k.view k.normal k.base k.state ve)]) rfl _ (Ent.refl _) (rjWhole_c _ k ve hk hf) rfl ?_
    rintro wv _ ⟨-, rfl⟩
    (refine o_call rfl _ (Ent.refl _) (rFrame_c _ _ _ (by first | assumption | omega)) rfl ?_; rintro _ _ ⟨ff, rfl, rfl⟩)
    refine oG (gM (evv rfl)) rfl rfl ?_
    refine oG (g_extract (evv rfl) (by rfl)) rfl rfl ?_
    refine oG (g_extract (evv rfl) (by rfl)) rfl rfl ?_
    refine oG (gA (evv rfl)) rfl rfl ?_
    refine oG (gA (evv rfl)) rfl rfl ?_
    refine oN ?_
    refine cC ?_
    refine rS ?_
    rw [hfr']
    dsimp only
    refine rR (id := 4) ?_
    refine oG (gM (evv rfl)) rfl rfl ?_
    refine oG (g_nil (evv rfl)) rfl rfl ?_
    refine oG (g_fld (evv rfl)) rfl rfl ?_
    refine oG (g_load (evv rfl) (by rfl) (by rfl)) rfl rfl ?_
    refine oG (g_nil (evv rfl)) rfl rfl ?_
    refine oG (g_fld (evv rfl)) rfl rfl ?_
    refine oG (g_load (evv rfl) (by rfl) (by rfl)) rfl rfl ?_
    refine o_giveN (g_bin (evv rfl) (evv rfl) (by rfl)) (by simp only [inR]; omega) rfl ?_
    refine oG (gA (evv rfl)) rfl rfl ?_
    refine oN ?_
    refine cC ?_
    refine rS ?_
    refine rR (id := 5) ?_
    refine oG (gM (evv rfl)) rfl rfl ?_
    refine oG (gM (evv rfl)) rfl rfl ?_
    (refine o_call rfl _ (pick2 (K1 := blk _) (K2 := blk _)) (rjdo2_c _ _ _ _ _ (by assumption) _) rfl ?_; rintro _ _ ⟨rfl, rfl⟩)
    refine oG (gA (evv rfl)) rfl rfl ?_
    refine oN ?_
    refine cC ?_
    refine rS ?_
    refine rS ?_
    have hq1 : wipT x (1 - (x.live : Int)) = layG (1 - x.live) (frameB (payW k)) x 1 := (layG_go (i := 0) (x := x) (o := 1 - (x.live : Int)) (f := frameB (payW k)) rfl).symm
    rw [hq1]
    refine rR (id := 6) ?_
    refine oG (gM (evv rfl)) rfl rfl ?_
    refine oG (g_bin (evv rfl) (evv rfl) (by rfl)) rfl rfl ?_
    refine oN ?_
    refine cC ?_
    repeat (first | refine rS ?_ | refine cC ?_ | refine c_blk ?_ | refine r_block ?_ | refine r_skip ?_)
    refine r_cutE (σ := Unit) (fun u => [(8, .v (.int .i64 (layG (1 - x.live) (frameB (payW k)) x 2).1))]) [0,3,5,7] (fun u => blk c ⟨kC k.view k.normal k.base k.state ve, 28⟩ :: rjo j r k0 ve0 :: rpo r (layG (1 - x.live) (frameB (payW k)) x 2).2 :: sl ff (bR (frameB (payW k))) :: F) (by dsimp only [pickE, pick1, lk2, Nat.reduceBEq, Nat.reduceAdd, Nat.zero_add, cond_true, cond_false] <;> exact rfl) ?_ ?_
    · refine r_cond rfl (fun g => ?_) (fun g => ?_) <;> (try simp only [decide_eq_true_eq, decide_eq_false_iff_not, Bool.and_eq_true, Bool.or_eq_true, Bool.not_eq_true', Bool.and_eq_false_iff, Bool.or_eq_false_iff, Bool.not_eq_false', Bool.not_eq_true, Bool.not_eq_false, Bool.true_eq_false, Bool.false_eq_true, Int.not_lt, Int.not_le, not_and, not_or, ne_eq] at g)
      · have hq : appT (layG (1 - x.live) (frameB (payW k)) x 1).2 (1 - (x.live : Int)) (frameB (payW k)) = layG (1 - x.live) (frameB (payW k)) x 2 := (layG_go (i := 1) g).symm
        refine rR (id := 7) ?_
        refine oG (gM (evv rfl)) rfl rfl ?_
        refine oG (gM (evv rfl)) rfl rfl ?_
        refine oG (gM (evv rfl)) rfl rfl ?_
        (refine o_call rfl _ (pick2 (K1 := blk _) (K2 := blk _)) (rjdo0_c _ _ _ _ _ (by assumption) _ _ _ (by first | assumption | omega)) rfl ?_; rintro _ _ ⟨rfl, rfl⟩)
        refine oG (gA (evv rfl)) rfl rfl ?_
        refine oN ?_
        rw [hq]
        exact c_cut () (by repeat (first | exact trivial | refine ⟨rfl, ?_⟩ | refine envsub_v rfl (by first | rfl | (refine int_eq ?_; first | omega | (simp; omega) | (simp; done)) | (refine bool_eq ?_; first | (simp [*]; done) | (simp; done)) | (refine str_eq ?_; simp; done) | (refine ptr_eq ?_; omega) | fail) ?_)) (Lay.ent)
      · have hq : layG (1 - x.live) (frameB (payW k)) x 2 = layG (1 - x.live) (frameB (payW k)) x 1 := layG_no (i := 1) g
        rw [hq]
        refine r_skip ?_
        exact c_cut () (by repeat (first | exact trivial | refine ⟨rfl, ?_⟩ | refine envsub_v rfl (by first | rfl | (refine int_eq ?_; first | omega | (simp; omega) | (simp; done)) | (refine bool_eq ?_; first | (simp [*]; done) | (simp; done)) | (refine str_eq ?_; simp; done) | (refine ptr_eq ?_; omega) | fail) ?_)) (Lay.ent)
    intro u
    dsimp only [List.cons_append, List.nil_append]
    refine cC ?_
    refine rS ?_
    refine rS ?_
    refine rR (id := 8) ?_
    refine oG (gM (evv rfl)) rfl rfl ?_
    refine oG (g_bin (evv rfl) (evv rfl) (by rfl)) rfl rfl ?_
    refine oN ?_
    refine cC ?_
    repeat (first | refine rS ?_ | refine cC ?_ | refine c_blk ?_ | refine r_block ?_ | refine r_skip ?_)
    refine r_cutE (σ := Unit) (fun u => [(8, .v (.int .i64 (layG (1 - x.live) (frameB (payW k)) x 3).1))]) [0,3,5,7] (fun u => blk c ⟨kC k.view k.normal k.base k.state ve, 28⟩ :: rjo j r k0 ve0 :: rpo r (layG (1 - x.live) (frameB (payW k)) x 3).2 :: sl ff (bR (frameB (payW k))) :: F) (by dsimp only [pickE, pick1, lk2, Nat.reduceBEq, Nat.reduceAdd, Nat.zero_add, cond_true, cond_false] <;> exact rfl) ?_ ?_
    · refine r_cond rfl (fun g => ?_) (fun g => ?_) <;> (try simp only [decide_eq_true_eq, decide_eq_false_iff_not, Bool.and_eq_true, Bool.or_eq_true, Bool.not_eq_true', Bool.and_eq_false_iff, Bool.or_eq_false_iff, Bool.not_eq_false', Bool.not_eq_true, Bool.not_eq_false, Bool.true_eq_false, Bool.false_eq_true, Int.not_lt, Int.not_le, not_and, not_or, ne_eq] at g)
      · have hq : synT (layG (1 - x.live) (frameB (payW k)) x 2).2 (1 - (x.live : Int)) = layG (1 - x.live) (frameB (payW k)) x 3 := (layG_go (i := 2) g).symm
        refine rR (id := 9) ?_
        refine oG (gM (evv rfl)) rfl rfl ?_
        refine oG (gM (evv rfl)) rfl rfl ?_
        (refine o_call rfl _ (pick2 (K1 := blk _) (K2 := blk _)) (rjdo1_c _ _ _ _ _ (by assumption) _) rfl ?_; rintro _ _ ⟨rfl, rfl⟩)
        refine oG (gA (evv rfl)) rfl rfl ?_
        refine oN ?_
        rw [hq]
        exact c_cut () (by repeat (first | exact trivial | refine ⟨rfl, ?_⟩ | refine envsub_v rfl (by first | rfl | (refine int_eq ?_; first | omega | (simp; omega) | (simp; done)) | (refine bool_eq ?_; first | (simp [*]; done) | (simp; done)) | (refine str_eq ?_; simp; done) | (refine ptr_eq ?_; omega) | fail) ?_)) (Lay.ent)
      · have hq : layG (1 - x.live) (frameB (payW k)) x 3 = layG (1 - x.live) (frameB (payW k)) x 2 := layG_no (i := 2) g
        rw [hq]
        refine r_skip ?_
        exact c_cut () (by repeat (first | exact trivial | refine ⟨rfl, ?_⟩ | refine envsub_v rfl (by first | rfl | (refine int_eq ?_; first | omega | (simp; omega) | (simp; done)) | (refine bool_eq ?_; first | (simp [*]; done) | (simp; done)) | (refine str_eq ?_; simp; done) | (refine ptr_eq ?_; omega) | fail) ?_)) (Lay.ent)
    intro u
    dsimp only [List.cons_append, List.nil_append]
    refine cC ?_
    refine rS ?_
    refine rS ?_
    refine rR (id := 10) ?_
    refine oG (gM (evv rfl)) rfl rfl ?_
    refine oG (g_bin (evv rfl) (evv rfl) (by rfl)) rfl rfl ?_
    refine oN ?_
    refine cC ?_
    repeat (first | refine rS ?_ | refine cC ?_ | refine c_blk ?_ | refine r_block ?_ | refine r_skip ?_)
    refine r_cutE (σ := Unit) (fun u => [(8, .v (.int .i64 (layG (1 - x.live) (frameB (payW k)) x 4).1))]) [0,3,5,7] (fun u => blk c ⟨kC k.view k.normal k.base k.state ve, 28⟩ :: rjo j r k0 ve0 :: rpo r (layG (1 - x.live) (frameB (payW k)) x 4).2 :: sl ff (bR (frameB (payW k))) :: F) (by dsimp only [pickE, pick1, lk2, Nat.reduceBEq, Nat.reduceAdd, Nat.zero_add, cond_true, cond_false] <;> exact rfl) ?_ ?_
    · refine r_cond rfl (fun g => ?_) (fun g => ?_) <;> (try simp only [decide_eq_true_eq, decide_eq_false_iff_not, Bool.and_eq_true, Bool.or_eq_true, Bool.not_eq_true', Bool.and_eq_false_iff, Bool.or_eq_false_iff, Bool.not_eq_false', Bool.not_eq_true, Bool.not_eq_false, Bool.true_eq_false, Bool.false_eq_true, Int.not_lt, Int.not_le, not_and, not_or, ne_eq] at g)
      · have hq : flpT (layG (1 - x.live) (frameB (payW k)) x 3).2 = layG (1 - x.live) (frameB (payW k)) x 4 := (layG_go (i := 3) g).symm
        refine rR (id := 11) ?_
        refine oG (gM (evv rfl)) rfl rfl ?_
        (refine o_call rfl _ (pick2 (K1 := blk _) (K2 := blk _)) (rjdo3_c _ _ _ _ _ (by assumption)) rfl ?_; rintro _ _ ⟨rfl, rfl⟩)
        refine oG (gA (evv rfl)) rfl rfl ?_
        refine oN ?_
        rw [hq]
        exact c_cut () (by repeat (first | exact trivial | refine ⟨rfl, ?_⟩ | refine envsub_v rfl (by first | rfl | (refine int_eq ?_; first | omega | (simp; omega) | (simp; done)) | (refine bool_eq ?_; first | (simp [*]; done) | (simp; done)) | (refine str_eq ?_; simp; done) | (refine ptr_eq ?_; omega) | fail) ?_)) (Lay.ent)
      · have hq : layG (1 - x.live) (frameB (payW k)) x 4 = layG (1 - x.live) (frameB (payW k)) x 3 := layG_no (i := 3) g
        rw [hq]
        refine r_skip ?_
        exact c_cut () (by repeat (first | exact trivial | refine ⟨rfl, ?_⟩ | refine envsub_v rfl (by first | rfl | (refine int_eq ?_; first | omega | (simp; omega) | (simp; done)) | (refine bool_eq ?_; first | (simp [*]; done) | (simp; done)) | (refine str_eq ?_; simp; done) | (refine ptr_eq ?_; omega) | fail) ?_)) (Lay.ent)
    intro u
    dsimp only [List.cons_append, List.nil_append]
    refine cC ?_
    refine rS ?_
    refine rS ?_
    refine rR (id := 12) ?_
    refine oG (gM (evv rfl)) rfl rfl ?_
    refine oG (g_bin (evv rfl) (evv rfl) (by rfl)) rfl rfl ?_
    refine oN ?_
    refine cC ?_
    repeat (first | refine rS ?_ | refine cC ?_ | refine c_blk ?_ | refine r_block ?_ | refine r_skip ?_)
    refine r_cutE (σ := Unit) (fun u => [(8, .v (.int .i64 (layG (1 - x.live) (frameB (payW k)) x 5).1))]) [0,3,5,7] (fun u => blk c ⟨kC k.view k.normal k.base k.state ve, 28⟩ :: rjo j r k0 ve0 :: rpo r (layG (1 - x.live) (frameB (payW k)) x 5).2 :: sl ff (bR (frameB (payW k))) :: F) (by dsimp only [pickE, pick1, lk2, Nat.reduceBEq, Nat.reduceAdd, Nat.zero_add, cond_true, cond_false] <;> exact rfl) ?_ ?_
    · refine r_cond rfl (fun g => ?_) (fun g => ?_) <;> (try simp only [decide_eq_true_eq, decide_eq_false_iff_not, Bool.and_eq_true, Bool.or_eq_true, Bool.not_eq_true', Bool.and_eq_false_iff, Bool.or_eq_false_iff, Bool.not_eq_false', Bool.not_eq_true, Bool.not_eq_false, Bool.true_eq_false, Bool.false_eq_true, Int.not_lt, Int.not_le, not_and, not_or, ne_eq] at g)
      · have hq : wipT (layG (1 - x.live) (frameB (payW k)) x 4).2 (1 - (1 - (x.live : Int))) = layG (1 - x.live) (frameB (payW k)) x 5 := (layG_go (i := 4) g).symm
        refine rR (id := 13) ?_
        refine oG (gM (evv rfl)) rfl rfl ?_
        refine oG (gM (evv rfl)) rfl rfl ?_
        refine o_giveN (g_bin (evv rfl) (evv rfl) (by rfl)) (by simp only [inR]; omega) rfl ?_
        (refine o_call rfl _ (pick2 (K1 := blk _) (K2 := blk _)) (rjdo2_c _ _ _ _ _ (by assumption) _) rfl ?_; rintro _ _ ⟨rfl, rfl⟩)
        refine oG (gA (evv rfl)) rfl rfl ?_
        refine oN ?_
        rw [hq]
        exact c_cut () (by repeat (first | exact trivial | refine ⟨rfl, ?_⟩ | refine envsub_v rfl (by first | rfl | (refine int_eq ?_; first | omega | (simp; omega) | (simp; done)) | (refine bool_eq ?_; first | (simp [*]; done) | (simp; done)) | (refine str_eq ?_; simp; done) | (refine ptr_eq ?_; omega) | fail) ?_)) (Lay.ent)
      · have hq : layG (1 - x.live) (frameB (payW k)) x 5 = layG (1 - x.live) (frameB (payW k)) x 4 := layG_no (i := 4) g
        rw [hq]
        refine r_skip ?_
        exact c_cut () (by repeat (first | exact trivial | refine ⟨rfl, ?_⟩ | refine envsub_v rfl (by first | rfl | (refine int_eq ?_; first | omega | (simp; omega) | (simp; done)) | (refine bool_eq ?_; first | (simp [*]; done) | (simp; done)) | (refine str_eq ?_; simp; done) | (refine ptr_eq ?_; omega) | fail) ?_)) (Lay.ent)
    intro u
    dsimp only [List.cons_append, List.nil_append]
    refine cC ?_
    refine rS ?_
    refine rS ?_
    refine rR (id := 14) ?_
    refine oG (gM (evv rfl)) rfl rfl ?_
    refine oG (g_bin (evv rfl) (evv rfl) (by rfl)) rfl rfl ?_
    refine oN ?_
    refine cC ?_
    refine r_cond rfl (fun g => ?_) (fun g => ?_) <;> (try simp only [decide_eq_true_eq, decide_eq_false_iff_not, Bool.and_eq_true, Bool.or_eq_true, Bool.not_eq_true', Bool.and_eq_false_iff, Bool.or_eq_false_iff, Bool.not_eq_false', Bool.not_eq_true, Bool.not_eq_false, Bool.true_eq_false, Bool.false_eq_true, Int.not_lt, Int.not_le, not_and, not_or, ne_eq] at g)
    · rw [if_pos g, if_pos g]
      refine rR (id := 15) ?_
      refine oG (gM (evv rfl)) rfl rfl ?_
      refine oG (g_loadF (evv rfl) (by rfl) (by rfl)) rfl rfl ?_
      refine oG (g_nil (evv rfl)) rfl rfl ?_
      refine oG (g_fld (evv rfl)) rfl rfl ?_
      refine o_storeA (evv rfl) (evv rfl) (by first | rfl | assumption | exact LenC.h _ | (simp [bys, *]; done) | fail) (by first | (intro _ _ _; exact bys_one _) | exact AllOne.h | (intro _ _ _ u hu; simp at hu; rcases hu with rfl | rfl | rfl | rfl | rfl | rfl | rfl | rfl <;> rfl) | fail) (by rfl) (by rfl) ?_
      refine oN ?_
      refine cC ?_
      refine rS ?_
      refine rR (id := 16) ?_
      refine oG (gM (evv rfl)) rfl rfl ?_
      refine oG (gA (evv rfl)) rfl rfl ?_
      refine oN ?_
      refine cC ?_
      first | refine r_ret (rs := [.tmp 4]) rfl rfl _ ((Lay.ent (L' := rjo j r k ve :: rpo r (layG (1 - x.live) (frameB (payW k)) x 5).2 :: F))) ?_ | refine c_end (rs := [.tmp 4]) rfl rfl _ ((Lay.ent (L' := rjo j r k ve :: rpo r (layG (1 - x.live) (frameB (payW k)) x 5).2 :: F))) ?_
      exact ⟨rfl, rfl⟩
    · rw [if_neg g, if_neg g]
      refine r_skip ?_
      refine cC ?_
      refine rS ?_
      refine rR (id := 16) ?_
      refine oG (gM (evv rfl)) rfl rfl ?_
      refine oG (gA (evv rfl)) rfl rfl ?_
      refine oN ?_
      refine cC ?_
      first | refine r_ret (rs := [.tmp 4]) rfl rfl _ ((Lay.ent (L' := rjo j r k0 ve0 :: rpo r (layG (1 - x.live) (frameB (payW k)) x 5).2 :: F))) ?_ | refine c_end (rs := [.tmp 4]) rfl rfl _ ((Lay.ent (L' := rjo j r k0 ve0 :: rpo r (layG (1 - x.live) (frameB (payW k)) x 5).2 :: F))) ?_
      exact ⟨rfl, rfl⟩
  · have hT : layT x k0 k = (1, x, k0) := if_pos hk
    rw [hT]
    simp only [decide_eq_false hk]
    refine r_cond_true rfl ?_
    refine rS ?_
    refine rR (id := 2) ?_
    refine oG (gA (evv rfl)) rfl rfl ?_
    refine oN ?_
    refine cC ?_
    first | refine r_ret (rs := [.tmp 4]) rfl rfl _ ((Lay.ent (L' := rjo j r k0 ve0 :: rpo r x :: F))) ?_ | refine c_end (rs := [.tmp 4]) rfl rfl _ ((Lay.ent (L' := rjo j r k0 ve0 :: rpo r x :: F))) ?_
    exact ⟨rfl, rfl⟩
end VK
