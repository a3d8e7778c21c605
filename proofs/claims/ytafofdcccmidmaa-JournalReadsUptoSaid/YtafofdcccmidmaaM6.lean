/- What the proof rests on, part 6 of 6: the walker's lemmas, the walks of the functions and the plain laws. Conditions: none. -/
import Derived.Test.YtafofdcccmidmaaM5
namespace VK
open Go Go.Proofs
set_option linter.unusedSimpArgs false
set_option linter.unusedVariables false
set_option maxRecDepth 100000
set_option maxHeartbeats 40000000
theorem jawake_c (F : List Atom) : Fn Try.prog 8 [] F fun w L' => w = .bool true ∧ L' = F := by
  obtain ⟨x1, x2, x3, A⟩ := awk_is
  obtain ⟨hv, he, ha, hb, i1, i2, i3, n1, n2, n3, hl⟩ := A
  have n0 : sizeP zeroPt = 0 := rfl
  have hz := open_inv inv_zero
  have k0 : zeroPt.ok := inv_zero.ok
  have k1 : x1.ok := i1.ok
  have k2 : x2.ok := i2.ok
  have k3 : x3.ok := i3.ok
  obtain ⟨c0, f0⟩ := inv_zero.k
  obtain ⟨c1, f1⟩ := i1.k
  obtain ⟨c2, f2⟩ := i2.k
  obtain ⟨c3, f3⟩ := i3.k
  have he0 := ent0_fit.1
  have hnil : ∀ e ∈ ([] : List EntS), e.ok := by simp
  haveI rn : ∀ L, Rd L (.slice none 0 0) (entR []) := fun L => Rd.nilF entC 8 50
  have r3 : inR .i64 3 := ⟨by decide, by decide⟩
  have r0 : inR .i64 0 := ⟨by decide, by decide⟩
  have r1 : inR .i64 1 := ⟨by decide, by decide⟩
  refine fn_intro Try.func8 rfl Try.ntmps8 rfl (fun W0 => ?_)
  simp only [argE]
  refine r_seq ?_
  refine r_region (id := 0) ?_
  refine o_give (g_assign (evv rfl)) rfl rfl ?_
  refine o_nil ?_
  refine c_code ?_
  refine r_seq ?_
  refine r_region (id := 1) ?_
  (refine o_call rfl _ (Ent.refl _) (New_c _) rfl ?_; rintro _ _ ⟨np, rfl, rfl⟩)
  refine o_give (g_assign (evv rfl)) rfl rfl ?_
  refine o_nil ?_
  refine c_code ?_
  refine r_seq ?_
  refine r_region (id := 2) ?_
  refine o_give (g_move (evv rfl)) rfl rfl ?_
  (refine o_call rfl _ (PickR.ent (K := pt _)) (Open_ok _ _ _ _ _ (by assumption) (by first | assumption | omega) (by assumption)) rfl ?_; rintro _ _ ⟨oj, ov, rfl, rfl⟩; dsimp only [openV])
  refine o_give (g_move (evv rfl)) rfl rfl ?_
  refine o_give (g_extract (evv rfl) (by rfl)) rfl rfl ?_
  refine o_give (g_extract (evv rfl) (by rfl)) rfl rfl ?_
  refine o_give (g_extract (evv rfl) (by rfl)) rfl rfl ?_
  refine o_alloc rfl rfl (fun _ => ?_)
  refine o_give (g_assign (evv rfl)) rfl rfl ?_
  refine o_storeW (evv rfl) (evv rfl) (by first | rfl | assumption | exact LenC.h _ | (simp [bys, *]; done) | fail) (by first | (intro _ _ _; exact bys_one _) | exact AllOne.h | (intro _ _ _ u hu; simp at hu; rcases hu with rfl | rfl | rfl | rfl | rfl | rfl | rfl | rfl <;> rfl) | fail) (by first | rfl | exact (LenC.h _).trans rfl | exact (LenC.h _).trans (LenC.h _).symm | (simp [bys, *]; done) | (simp only [bys, List.length_map, *]; rfl) | fail) ?_
  refine o_give (g_assign (evv rfl)) rfl rfl ?_
  refine o_nil ?_
  refine c_code ?_
  refine r_seq ?_
  refine r_seq ?_
  refine r_region (id := 3) ?_
  refine o_give (g_move (evv rfl)) rfl rfl ?_
  refine o_give (g_bin (evv rfl) (evv rfl) (by rfl)) rfl rfl ?_
  refine o_give (g_move (evv rfl)) rfl rfl ?_
  refine o_gyes rfl ?_
  refine o_give (g_move (evv rfl)) rfl rfl ?_
  refine o_gyes rfl ?_
  refine o_give (g_pnil TyU.h (evv rfl) (evv rfl) (by simp) (by rfl)) rfl rfl ?_
  refine o_give (g_pick (b := false) (evv rfl) (fun h => by cases h) (fun _ => (evv rfl))) rfl rfl ?_
  refine o_give (g_move (evv rfl)) rfl rfl ?_
  refine o_gyes rfl ?_
  refine o_give (g_fld (evv rfl)) rfl rfl ?_
  refine o_gyes rfl ?_
  refine o_give (g_load (evv rfl) (by rfl) (by rfl)) rfl rfl ?_
  refine o_gyes rfl ?_
  refine o_give (g_bin (evv rfl) (evv rfl) (by rfl)) rfl rfl ?_
  refine o_give (g_pick (b := false) (evv rfl) (fun h => by cases h) (fun _ => (evv rfl))) rfl rfl ?_
  refine o_give (g_move (evv rfl)) rfl rfl ?_
  refine o_gyes rfl ?_
  refine o_give (g_fld (evv rfl)) rfl rfl ?_
  refine o_gyes rfl ?_
  refine o_give (g_load (evv rfl) (by rfl) (by rfl)) rfl rfl ?_
  refine o_gyes rfl ?_
  refine o_give (g_lenF (evv rfl)) rfl rfl ?_
  refine o_gyes rfl ?_
  refine o_give (g_bin (evv rfl) (evv rfl) (by rfl)) rfl rfl ?_
  refine o_give (g_pick (b := false) (evv rfl) (fun h => by cases h) (fun _ => (evv rfl))) rfl rfl ?_
  refine o_nil ?_
  refine c_code ?_
  refine r_cond_false rfl ?_
  refine r_skip ?_
  refine c_code ?_
  refine r_seq ?_
  refine r_region (id := 5) ?_
  refine o_give (g_move (evv rfl)) rfl rfl ?_
  (refine o_call rfl _ (pick2 (K1 := jr _) (K2 := pt _)) (View_c _ _ _ _ _ _ (by assumption) (by assumption) (by assumption) (by first | assumption | omega)) rfl ?_; rintro _ _ ⟨rfl, rfl⟩)
  refine o_give (g_assign (evv rfl)) rfl rfl ?_
  refine o_nil ?_
  refine c_code ?_
  refine r_seq ?_
  rw [hv]
  dsimp only
  refine r_region (id := 6) ?_
  refine o_give (g_move (evv rfl)) rfl rfl ?_
  refine o_give (g_buildC rfl (by rfl)) rfl rfl ?_
  refine o_give (g_buildC rfl (by rfl)) rfl rfl ?_
  refine o_call (vs := [.pointer (some ⟨oj, 0, none⟩), agg (entC ent0)]) rfl _ (pick2 (K1 := jr _) (K2 := pt _)) (Entry_c _ _ _ _ _ ent0 k1 c1 f1 he0 (by omega)) rfl ?_
  rintro _ _ ⟨rfl, rfl⟩
  rw [he]
  dsimp only
  refine o_give (g_assign (evv rfl)) rfl rfl ?_
  refine o_nil ?_
  refine c_code ?_
  refine r_seq ?_
  refine r_region (id := 7) ?_
  refine o_give (g_move (evv rfl)) rfl rfl ?_
  refine o_call (vs := [.pointer (some ⟨oj, 0, none⟩), .int .i64 3, .int .i64 0, .slice none 0 0]) rfl _ (pick2 (K1 := jr _) (K2 := pt _)) (Adopt_c _ _ _ _ _ 3 0 (.slice none 0 0) [] k2 c2 f2 hnil (by decide) (by omega) r3 r0) rfl ?_
  rintro _ _ ⟨rfl, rfl⟩
  rw [ha]
  dsimp only
  refine o_give (g_assign (evv rfl)) rfl rfl ?_
  refine o_nil ?_
  refine c_code ?_
  refine r_seq ?_
  refine r_region (id := 8) ?_
  refine o_give (g_move (evv rfl)) rfl rfl ?_
  refine o_call (vs := [.pointer (some ⟨oj, 0, none⟩), .int .i64 3, .int .i64 1, .slice none 0 0]) rfl _ (pick2 (K1 := jr _) (K2 := pt _)) (Adopt_c _ _ _ _ _ 3 1 (.slice none 0 0) [] k3 c3 f3 hnil (by decide) (by omega) r3 r1) rfl ?_
  rintro _ _ ⟨rfl, rfl⟩
  rw [hb]
  dsimp only
  refine o_give (g_assign (evv rfl)) rfl rfl ?_
  refine o_nil ?_
  refine c_code ?_
  refine r_seq ?_
  refine r_region (id := 9) ?_
  refine o_give (g_move (evv rfl)) rfl rfl ?_
  (refine o_call rfl _ (PickR.ent (K := jr _)) (Kept_c _ _ _ _ (by assumption)) rfl ?_; rintro _ _ ⟨kv, rfl, rfl⟩)
  refine o_storeW (evv rfl) (evv rfl) (by first | rfl | assumption | exact LenC.h _ | (simp [bys, *]; done) | fail) (by first | (intro _ _ _; exact bys_one _) | exact AllOne.h | (intro _ _ _ u hu; simp at hu; rcases hu with rfl | rfl | rfl | rfl | rfl | rfl | rfl | rfl <;> rfl) | fail) (by first | rfl | exact (LenC.h _).trans rfl | exact (LenC.h _).trans (LenC.h _).symm | (simp [bys, *]; done) | (simp only [bys, List.length_map, *]; rfl) | fail) ?_
  refine o_nil ?_
  refine c_code ?_
  refine r_seq ?_
  refine r_region (id := 10) ?_
  refine o_give (g_move (evv rfl)) rfl rfl ?_
  refine o_give (g_bin (evv rfl) (evv rfl) (by rfl)) rfl rfl ?_
  refine o_give (g_move (evv rfl)) rfl rfl ?_
  refine o_gyes rfl ?_
  refine o_give (g_move (evv rfl)) rfl rfl ?_
  refine o_gyes rfl ?_
  refine o_give (g_bin (evv rfl) (evv rfl) (by rfl)) rfl rfl ?_
  refine o_give (g_pick (b := true) (evv rfl) (fun _ => (evv rfl)) (fun h => by cases h)) rfl rfl ?_
  refine o_give (g_move (evv rfl)) rfl rfl ?_
  refine o_gyes rfl ?_
  refine o_give (g_move (evv rfl)) rfl rfl ?_
  refine o_gyes rfl ?_
  refine o_give (g_bin (evv rfl) (evv rfl) (by rfl)) rfl rfl ?_
  refine o_give (g_pick (b := true) (evv rfl) (fun _ => (evv rfl)) (fun h => by cases h)) rfl rfl ?_
  refine o_give (g_move (evv rfl)) rfl rfl ?_
  refine o_gyes rfl ?_
  refine o_give (g_move (evv rfl)) rfl rfl ?_
  refine o_gyes rfl ?_
  refine o_give (g_bin (evv rfl) (evv rfl) (by rfl)) rfl rfl ?_
  refine o_give (g_pick (b := true) (evv rfl) (fun _ => (evv rfl)) (fun h => by cases h)) rfl rfl ?_
  refine o_give (g_move (evv rfl)) rfl rfl ?_
  refine o_gyes rfl ?_
  refine o_give (g_fld (evv rfl)) rfl rfl ?_
  refine o_gyes rfl ?_
  refine o_give (g_load (evv rfl) (by rfl) (by rfl)) rfl rfl ?_
  refine o_gyes rfl ?_
  refine o_give (g_bin (evv rfl) (evv rfl) (by rfl)) rfl rfl ?_
  refine o_give (g_pick (b := true) (evv rfl) (fun _ => (evv rfl)) (fun h => by cases h)) rfl rfl ?_
  refine o_give (g_move (evv rfl)) rfl rfl ?_
  refine o_gyes rfl ?_
  refine o_give (g_fld (evv rfl)) rfl rfl ?_
  refine o_gyes rfl ?_
  refine o_give (g_load (evv rfl) (by rfl) (by rfl)) rfl rfl ?_
  refine o_gyes rfl ?_
  refine o_give (g_bin (evv rfl) (evv rfl) (by rfl)) rfl rfl ?_
  refine o_give (g_pick (b := true) (evv rfl) (fun _ => (evv rfl)) (fun h => by cases h)) rfl rfl ?_
  refine o_give (g_move (evv rfl)) rfl rfl ?_
  refine o_gyes rfl ?_
  refine o_give (g_fld (evv rfl)) rfl rfl ?_
  refine o_gyes rfl ?_
  refine o_give (g_load (evv rfl) (by rfl) (by rfl)) rfl rfl ?_
  refine o_gyes rfl ?_
  refine o_give (g_lenF (evv rfl)) rfl rfl ?_
  refine o_gyes rfl ?_
  refine o_give (g_bin (evv rfl) (evv rfl) (by rfl)) rfl rfl ?_
  refine o_give (g_pick (b := true) (evv rfl) (fun _ => (evv rfl)) (fun h => by cases h)) rfl rfl ?_
  refine o_give (g_move (evv rfl)) rfl rfl ?_
  refine o_gyes rfl ?_
  refine o_give (g_move (evv rfl)) rfl rfl ?_
  refine o_gyes rfl ?_
  (refine o_call rfl _ (PickR.ent (K := pt _)) (pRead_c _ _ _ (by assumption) _) rfl ?_; rintro cw _ ⟨-, rfl⟩)
  refine o_gyes rfl ?_
  refine o_give (g_lenM (evv rfl)) rfl rfl ?_
  refine o_gyes rfl ?_
  refine o_give (g_bin (evv rfl) (evv rfl) (by rfl)) rfl rfl ?_
  refine o_give (g_pick (b := true) (evv rfl) (fun _ => (evv rfl)) (fun h => by cases h)) rfl rfl ?_
  refine o_give (g_assign (evv rfl)) rfl rfl ?_
  refine o_nil ?_
  refine c_code ?_
  skip
  skip
  first | refine r_ret (rs := [.tmp 0]) rfl rfl _ ((Lay.ent (L' := F))) ?_ | refine c_end (rs := [.tmp 0]) rfl rfl _ ((Lay.ent (L' := F))) ?_
  exact ⟨congrArg Value.bool (decide_eq_true (by omega)), rfl⟩
end VK

namespace VK
open Go Go.Proofs
set_option linter.unusedSimpArgs false
set_option linter.unusedVariables false
set_option maxRecDepth 100000
set_option maxHeartbeats 40000000
end VK

namespace VK
open Go Go.Proofs
set_option linter.unusedSimpArgs false
set_option linter.unusedVariables false
set_option maxRecDepth 100000
set_option maxHeartbeats 40000000
instance (L : List Atom) (a : ActJ) [RdA L a] : AllOne L (actC a) := by
  haveI : OneC L a.ve := inferInstance
  unfold actC
  infer_instance
end VK

namespace VK
open Go Go.Proofs
set_option linter.unusedSimpArgs false
set_option linter.unusedVariables false
set_option maxRecDepth 100000
set_option maxHeartbeats 40000000
end VK

namespace VK
open Go Go.Proofs
set_option linter.unusedSimpArgs false
set_option linter.unusedVariables false
set_option maxRecDepth 100000
set_option maxHeartbeats 40000000
end VK

namespace VK
open Go Go.Proofs
set_option linter.unusedSimpArgs false
set_option linter.unusedVariables false
set_option maxRecDepth 100000
set_option maxHeartbeats 40000000
theorem Open_er (F : List Atom) (p : Nat) (x y : Pt) (k : KeptS) (e : Int) (hx : x.ok) (hs : sizeP x + 262152 ≤ 1000000000) (ho : openT x = (e, y, k)) (he : e ≠ 0) :
    Fn Try.prog 10 [.pointer (some ⟨p, 0, none⟩)] (pt p x :: F) fun w L' => w = openV e (.pointer none) zeroK (.slice none 0 0) ∧ L' = pt p y :: F := (Open_c F p x hx hs).mono fun v L' h => by
  rw [ho] at h
  rcases h with ⟨h, _⟩ | ⟨_, h⟩
  · exact absurd h he
  · exact h
theorem rjOpen_ok (F : List Atom) (r : Nat) (x y : Pt) (k : KeptS) (hx : x.ok) (hs : sizeP x + 262152 ≤ 1000000000) (ho : openT x = (0, y, k)) :
    Fn Try.prog 25 [.pointer (some ⟨r, 0, none⟩)] (rpo r x :: F) fun w L' => ∃ j ve l2, w = .tuple #[.pointer (some ⟨j, 0, none⟩), .int .i64 0] ∧ L' = rjo j r k ve :: rpo r y :: rom l2 :: F ∧ InR l2 ve (entR k.ents) := (rjOpen_c F r x hx hs).mono fun v L' h => by
  rw [ho] at h
  rcases h with ⟨_, h⟩ | ⟨h, _⟩
  · exact h
  · exact absurd rfl h
theorem rjOpen_er (F : List Atom) (r : Nat) (x y : Pt) (k : KeptS) (e : Int) (hx : x.ok) (hs : sizeP x + 262152 ≤ 1000000000) (ho : openT x = (e, y, k)) (he : e ≠ 0) :
    Fn Try.prog 25 [.pointer (some ⟨r, 0, none⟩)] (rpo r x :: F) fun w L' => w = .tuple #[.pointer none, .int .i64 e] ∧ L' = rpo r y :: F := (rjOpen_c F r x hx hs).mono fun v L' h => by
  rw [ho] at h
  rcases h with ⟨h, _⟩ | ⟨_, h⟩
  · exact absurd h he
  · exact h
theorem JournalReads_c (W : World) (v u : Value) (b c : List UInt8) [rd : Rd [base W] v (bR b)] [rm : Rd [base W] u (bR c)] (hb : b.length ≤ 1048576) (hc : c.length ≤ 1048576) :
    Fn Try.prog 5 [v, u] [base W] fun w L' => w = .bool true ∧ L' = [base W] := by
  have n0 : sizeP zeroPt = 0 := rfl
  have k0 : zeroPt.ok := inv_zero.ok
  have hb9 : b.length ≤ 1000000000 := by omega
  have hc9 : c.length ≤ 1000000000 := by omega
  obtain ⟨o1, z1⟩ := appT_ok k0 (i := 0) (m := b) (by omega)
  obtain ⟨o2, z2⟩ := synT_ok o1 (i := 0) (by omega)
  obtain ⟨o3, z3⟩ := appT_ok o2 (i := 1) (m := c) (by omega)
  have z4 : sizeP (appT (synT (appT zeroPt 0 b).2 0).2 1 c).2 + 262152 ≤ 1000000000 := by omega
  refine fn_intro Try.func5 rfl Try.ntmps5 rfl (fun W0 => ?_)
  simp only [argE]
  refine r_seq ?_
  refine r_region (id := 0) ?_
  refine o_give (g_assign (evv rfl)) rfl rfl ?_
  refine o_nil ?_
  refine c_code ?_
  refine r_seq ?_
  refine r_seq ?_
  refine r_region (id := 1) ?_
  (refine o_call rfl _ (Ent.refl _) (jawake_c _) rfl ?_; rintro _ _ ⟨rfl, hLz⟩; obtain rfl := hLz.symm; clear hLz)
  refine o_give (g_not (evv rfl)) rfl rfl ?_
  refine o_nil ?_
  refine c_code ?_
  refine r_cond_false rfl ?_
  refine r_skip ?_
  refine c_code ?_
  refine r_seq ?_
  refine r_seq ?_
  refine r_region (id := 3) ?_
  refine o_give (g_move (evv rfl)) rfl rfl ?_
  refine o_give (g_lenM (evv rfl)) rfl rfl ?_
  refine o_give (g_move (evv rfl)) rfl rfl ?_
  refine o_give (g_lenM (evv rfl)) rfl rfl ?_
  refine o_giveN (g_bin (evv rfl) (evv rfl) (by rfl)) (by simp only [inR]; omega) rfl ?_
  refine o_give (g_bin (evv rfl) (evv rfl) (by rfl)) rfl rfl ?_
  refine o_nil ?_
  refine c_code ?_
  refine r_cond rfl (fun hbig => ?_) (fun hbig => ?_) <;> (try simp only [decide_eq_true_eq, decide_eq_false_iff_not, Bool.and_eq_true, Bool.or_eq_true, Bool.not_eq_true', Bool.and_eq_false_iff, Bool.or_eq_false_iff, Bool.not_eq_false', Bool.not_eq_true, Bool.not_eq_false, Bool.true_eq_false, Bool.false_eq_true, Int.not_lt, Int.not_le, not_and, not_or, ne_eq] at hbig)
  · refine r_seq ?_
    refine r_region (id := 4) ?_
    refine o_give (g_assign (evv rfl)) rfl rfl ?_
    refine o_nil ?_
    refine c_code ?_
    first | refine r_ret (rs := [.tmp 4]) rfl rfl _ ((Lay.ent (L' := [base W]))) ?_ | refine c_end (rs := [.tmp 4]) rfl rfl _ ((Lay.ent (L' := [base W]))) ?_
    exact ⟨rfl, rfl⟩
  refine r_skip ?_
  refine c_code ?_
  refine r_seq ?_
  refine r_region (id := 5) ?_
  (refine o_call rfl _ (Ent.refl _) (New_c _) rfl ?_; rintro _ _ ⟨np, rfl, rfl⟩)
  refine o_give (g_assign (evv rfl)) rfl rfl ?_
  refine o_nil ?_
  refine c_code ?_
  refine r_seq ?_
  refine r_region (id := 6) ?_
  refine o_give (v := agg [(Go.Value.string { data := #[] }), (Go.Value.string { data := #[] }), (Go.Value.int Go.IntKind.i64 0), (Go.Value.int Go.IntKind.i64 0), (Go.Value.int Go.IntKind.i64 0), (Go.Value.int Go.IntKind.i64 0), (Go.Value.bool false)]) (g_buildC rfl (by rfl)) rfl rfl ?_
  refine o_boxA (evv rfl) rfl (fun _ => ?_)
  refine o_give (g_assign (evv rfl)) rfl rfl ?_
  refine o_nil ?_
  refine c_code ?_
  refine r_seq ?_
  rename_i r
  refine r_ent (rpo r zeroPt :: pt np zeroPt :: [base W]) (Ent.refl _) ?_
  refine r_region (id := 7) ?_
  refine o_give (g_move (evv rfl)) rfl rfl ?_
  refine o_give (g_move (evv rfl)) rfl rfl ?_
  (refine o_call rfl _ (PickR.ent (K := pt _)) (Append_c _ _ _ (by assumption) _ _ _ (by first | assumption | omega)) rfl ?_; rintro _ _ ⟨rfl, rfl⟩)
  refine o_nil ?_
  refine c_code ?_
  refine r_seq ?_
  refine r_region (id := 8) ?_
  refine o_give (g_move (evv rfl)) rfl rfl ?_
  (refine o_call rfl _ (PickR.ent (K := pt _)) (Sync_c _ _ _ (by assumption) _) rfl ?_; rintro _ _ ⟨rfl, rfl⟩)
  refine o_nil ?_
  refine c_code ?_
  refine r_seq ?_
  refine r_region (id := 9) ?_
  refine o_give (g_move (evv rfl)) rfl rfl ?_
  refine o_give (g_move (evv rfl)) rfl rfl ?_
  (refine o_call rfl _ (PickR.ent (K := pt _)) (Append_c _ _ _ (by assumption) _ _ _ (by first | assumption | omega)) rfl ?_; rintro _ _ ⟨rfl, rfl⟩)
  refine o_nil ?_
  refine c_code ?_
  refine r_seq ?_
  refine r_region (id := 10) ?_
  refine o_give (g_move (evv rfl)) rfl rfl ?_
  refine o_give (g_move (evv rfl)) rfl rfl ?_
  refine o_give (g_buildC rfl (by rfl)) rfl rfl ?_
  (refine o_call rfl _ (PickR.ent (K := blk _)) (rDo0_c _ _ _ (by assumption) _ _ _ (by first | assumption | omega)) rfl ?_; rintro _ _ ⟨rfl, rfl⟩)
  refine o_nil ?_
  refine c_code ?_
  refine r_seq ?_
  refine r_region (id := 11) ?_
  refine o_give (g_move (evv rfl)) rfl rfl ?_
  refine o_give (g_buildC rfl (by rfl)) rfl rfl ?_
  (refine o_call rfl _ (PickR.ent (K := blk _)) (rDo1_c _ _ _ (by assumption) _) rfl ?_; rintro _ _ ⟨rfl, rfl⟩)
  refine o_nil ?_
  refine c_code ?_
  refine r_seq ?_
  refine r_region (id := 12) ?_
  refine o_give (g_move (evv rfl)) rfl rfl ?_
  refine o_give (g_move (evv rfl)) rfl rfl ?_
  refine o_give (g_buildC rfl (by rfl)) rfl rfl ?_
  (refine o_call rfl _ (PickR.ent (K := blk _)) (rDo0_c _ _ _ (by assumption) _ _ _ (by first | assumption | omega)) rfl ?_; rintro _ _ ⟨rfl, rfl⟩)
  refine o_nil ?_
  refine c_code ?_
  refine r_seq ?_
  generalize (appT (synT (appT zeroPt 0 b).2 0).2 1 c).2 = X at *
  have hfin := openT_fine (x := X)
  have hyk := openT_ok o3 (by omega)
  rcases hO : openT X with ⟨e, y, k⟩
  rw [hO] at hfin hyk
  dsimp only at hfin hyk
  obtain ⟨hkf, hko⟩ := hfin
  obtain ⟨hyo, hys⟩ := hyk
  by_cases he : e = 0
  · subst he
    refine r_region (id := 13) ?_
    refine o_give (g_move (evv rfl)) rfl rfl ?_
    (refine o_call rfl _ (PickR.ent (K := pt _)) (Open_ok _ _ _ _ _ (by assumption) (by first | assumption | omega) (by assumption)) rfl ?_; rintro _ _ ⟨oj, ov, rfl, rfl⟩; dsimp only [openV])
    refine o_give (g_move (evv rfl)) rfl rfl ?_
    refine o_give (g_extract (evv rfl) (by rfl)) rfl rfl ?_
    refine o_give (g_extract (evv rfl) (by rfl)) rfl rfl ?_
    refine o_give (g_extract (evv rfl) (by rfl)) rfl rfl ?_
    refine o_alloc rfl rfl (fun _ => ?_)
    refine o_give (g_assign (evv rfl)) rfl rfl ?_
    refine o_storeW (evv rfl) (evv rfl) (by first | rfl | assumption | exact LenC.h _ | (simp [bys, *]; done) | fail) (by first | (intro _ _ _; exact bys_one _) | exact AllOne.h | (intro _ _ _ u hu; simp at hu; rcases hu with rfl | rfl | rfl | rfl | rfl | rfl | rfl | rfl <;> rfl) | fail) (by first | rfl | exact (LenC.h _).trans rfl | exact (LenC.h _).trans (LenC.h _).symm | (simp [bys, *]; done) | (simp only [bys, List.length_map, *]; rfl) | fail) ?_
    refine o_give (g_assign (evv rfl)) rfl rfl ?_
    refine o_nil ?_
    refine c_code ?_
    refine r_seq ?_
    refine r_region (id := 14) ?_
    refine o_give (g_move (evv rfl)) rfl rfl ?_
    (refine o_call rfl _ (PickR.ent (K := blk _)) (rjOpen_ok _ _ _ _ _ (by assumption) (by first | assumption | omega) (by assumption)) rfl ?_; rintro _ _ ⟨qj, qv, ql, rfl, rfl, hql⟩)
    refine o_give (g_move (evv rfl)) rfl rfl ?_
    refine o_give (g_extract (evv rfl) (by rfl)) rfl rfl ?_
    refine o_give (g_extract (evv rfl) (by rfl)) rfl rfl ?_
    refine o_give (g_assign (evv rfl)) rfl rfl ?_
    refine o_give (g_assign (evv rfl)) rfl rfl ?_
    refine o_nil ?_
    refine c_code ?_
    refine r_seq ?_
    refine r_seq ?_
    refine r_region (id := 15) ?_
    refine o_give (g_move (evv rfl)) rfl rfl ?_
    refine o_give (g_move (evv rfl)) rfl rfl ?_
    refine o_give (g_bin (evv rfl) (evv rfl) (by rfl)) rfl rfl ?_
    refine o_give (g_move (evv rfl)) rfl rfl ?_
    refine o_gyes rfl ?_
    refine o_give (g_move (evv rfl)) rfl rfl ?_
    refine o_gyes rfl ?_
    refine o_give (g_pnil TyU.h (evv rfl) (evv rfl) (by simp) (by rfl)) rfl rfl ?_
    refine o_gyes rfl ?_
    refine o_give (g_move (evv rfl)) rfl rfl ?_
    refine o_gyes rfl ?_
    refine o_give (g_bin (evv rfl) (evv rfl) (by rfl)) rfl rfl ?_
    refine o_gyes rfl ?_
    refine o_give (g_binB TyU.h (evv rfl) (evv rfl) (by rfl)) rfl rfl ?_
    refine o_give (g_pick (b := false) (evv rfl) (fun h => by cases h) (fun _ => (evv rfl))) rfl rfl ?_
    refine o_give (g_move (evv rfl)) rfl rfl ?_
    refine o_gyes rfl ?_
    refine o_give (g_move (evv rfl)) rfl rfl ?_
    refine o_gyes rfl ?_
    refine o_give (g_move (evv rfl)) rfl rfl ?_
    refine o_gyes rfl ?_
    (refine o_call rfl _ ((PickR.ent (K := pt _)).trans ((Ent.cons (PickR.ent (K := blk _))).trans (Ent.perm (.swap _ _ _)))) (rjsame_c _ _ _ _ (by assumption)) rfl ?_; rintro _ _ ⟨rfl, rfl⟩)
    refine o_gyes rfl ?_
    refine o_give (g_not (evv rfl)) rfl rfl ?_
    refine o_give (g_pick (b := false) (evv rfl) (fun h => by cases h) (fun _ => (evv rfl))) rfl rfl ?_
    refine o_nil ?_
    refine c_code ?_
    refine r_cond_false rfl ?_
    refine r_skip ?_
    refine c_code ?_
    refine r_seq ?_
    rename_i g
    repeat (first | refine r_seq ?_ | refine c_code ?_ | refine c_blk ?_ | refine r_block ?_ | refine r_skip ?_)
    refine r_held (id := 17) ([rjo qj r k qv, rom ql, blk g ⟨kC k.view k.normal k.base k.state ov, 28⟩, sl ov (entR k.ents)]) Mixed.h ?_
    refine h_give (i := 0) (by kernel_rfl) rfl (g_move (evv rfl)) rfl rfl ?_
    refine h_give (i := 1) (by kernel_rfl) rfl (g_bin (evv rfl) (evv rfl) (by rfl)) rfl rfl ?_
    refine h_give (i := 2) (by kernel_rfl) rfl (g_move (evv rfl)) rfl rfl ?_
    try simp only [show decide ((0 : Int) = 0) = true from rfl, Bool.not_true]
    refine h_lazy (i := 3) (by kernel_rfl) rfl rfl (fun hg => g_loadF (evv rfl) (by rfl) (by rfl)) rfl rfl ?_
    refine h_one (i := 4) (by kernel_rfl) rfl (Lay.ent) ?_
    refine o_lazy (v0 := undef) rfl (fun hg => absurd hg (by first | (simp; done) | fail)) rfl rfl ?_
    refine o_nil ?_
    refine h_one (i := 5) (by kernel_rfl) rfl (Lay.ent) ?_
    refine o_lazy (v0 := undef) rfl (fun hg => absurd hg (by first | (simp; done) | fail)) rfl rfl ?_
    refine o_nil ?_
    refine h_give (i := 6) (by kernel_rfl) rfl (g_pick (b := false) (evv rfl) (fun h => by cases h) (fun _ => (evv rfl))) rfl rfl ?_
    refine h_give (i := 7) (by kernel_rfl) rfl (g_move (evv rfl)) rfl rfl ?_
    try simp only [show decide ((0 : Int) = 0) = true from rfl, Bool.not_true]
    refine h_sure (i := 8) (by kernel_rfl) rfl rfl (g_move (evv rfl)) rfl rfl ?_
    refine h_sure (i := 9) (by kernel_rfl) rfl rfl (g_bin (evv rfl) (evv rfl) (by rfl)) rfl rfl ?_
    refine h_sure (i := 10) (by kernel_rfl) rfl rfl (g_move (evv rfl)) rfl rfl ?_
    try simp only [show decide ((0 : Int) = 0) = true from rfl, Bool.not_true]
    refine h_sure (i := 11) (by kernel_rfl) rfl rfl (g_loadF (evv rfl) (by rfl) (by rfl)) rfl rfl ?_
    refine h_sure (i := 12) (by kernel_rfl) rfl rfl (g_move (evv rfl)) rfl rfl ?_
    refine h_sure (i := 13) (by kernel_rfl) rfl rfl (g_nil (evv rfl)) rfl rfl ?_
    refine h_sure (i := 14) (by kernel_rfl) rfl rfl (g_fld (evv rfl)) rfl rfl ?_
    refine h_sure (i := 15) (by kernel_rfl) rfl rfl (g_loadF (evv rfl) (by rfl) (by rfl)) rfl rfl ?_
    refine h_one (i := 16) (by kernel_rfl) rfl (Lay.ent) ?_
    refine o_gyes rfl ?_
    (refine o_call rfl _ (Ent.refl _) (SameK_c _ _ _ _ _) rfl ?_; rintro _ _ ⟨rfl, hLz⟩; obtain rfl := hLz.symm; clear hLz)
    refine o_nil ?_
    refine h_sure (i := 17) (by kernel_rfl) rfl rfl (g_pick (b := true) (evv rfl) (fun _ => (evv rfl)) (fun h => by cases h)) rfl rfl ?_
    refine h_sure (i := 18) (by kernel_rfl) rfl rfl (g_move (evv rfl)) rfl rfl ?_
    try simp only [show decide ((0 : Int) = 0) = true from rfl, Bool.not_true, show decide (k = k) = true from decide_eq_true rfl]
    refine h_sure (i := 19) (by kernel_rfl) rfl rfl (g_move (evv rfl)) rfl rfl ?_
    refine h_sure (i := 21) (by kernel_rfl) rfl rfl (g_move (evv rfl)) rfl rfl ?_
    refine h_sure (i := 22) (by kernel_rfl) rfl rfl (g_nil (evv rfl)) rfl rfl ?_
    refine h_sure (i := 23) (by kernel_rfl) rfl rfl (g_fld (evv rfl)) rfl rfl ?_
    refine h_sure (i := 24) (by kernel_rfl) rfl rfl (g_loadF (evv rfl) (by rfl) (by rfl)) rfl rfl ?_
    refine h_one (i := 20) (by kernel_rfl) rfl (Lay.ent) ?_
    refine o_gyes rfl ?_
    (refine o_call rfl _ (PickR.ent (K := jr _)) (Kept_c _ _ _ _ (by assumption)) rfl ?_; rintro _ _ ⟨kv, rfl, rfl⟩)
    refine o_nil ?_
    refine h_one (i := 25) (by kernel_rfl) rfl (Lay.ent) ?_
    refine o_gyes rfl ?_
    (refine o_call rfl _ (Ent.refl _) (SameK_c _ _ _ _ _) rfl ?_; rintro _ _ ⟨rfl, hLz⟩; obtain rfl := hLz.symm; clear hLz)
    refine o_nil ?_
    refine h_sure (i := 26) (by kernel_rfl) rfl rfl (g_pick (b := true) (evv rfl) (fun _ => (evv rfl)) (fun h => by cases h)) rfl rfl ?_
    refine h_give (i := 27) (by kernel_rfl) rfl (g_pick (b := false) (evv rfl) (fun h => by cases h) (fun _ => (evv rfl))) rfl rfl ?_
    refine h_give (i := 28) (by kernel_rfl) rfl (g_assign (evv rfl)) rfl rfl ?_
    refine h_done (by kernel_rfl) (Lay.ent) ?_
    refine c_code ?_
    first | refine r_ret (rs := [.tmp 4]) rfl rfl _ ((Lay.ent (L' := [base W]))) ?_ | refine c_end (rs := [.tmp 4]) rfl rfl _ ((Lay.ent (L' := [base W]))) ?_
    refine ⟨?_, rfl⟩
    first | rfl | exact congrArg Value.bool (by simp)
  · refine r_region (id := 13) ?_
    refine o_give (g_move (evv rfl)) rfl rfl ?_
    (refine o_call rfl _ (PickR.ent (K := pt _)) (Open_er _ _ _ _ _ _ (by assumption) (by first | assumption | omega) (by assumption) (by assumption)) rfl ?_; rintro _ _ ⟨rfl, rfl⟩; dsimp only [openV])
    refine o_give (g_move (evv rfl)) rfl rfl ?_
    refine o_give (g_extract (evv rfl) (by rfl)) rfl rfl ?_
    refine o_give (g_extract (evv rfl) (by rfl)) rfl rfl ?_
    refine o_give (g_extract (evv rfl) (by rfl)) rfl rfl ?_
    refine o_alloc rfl rfl (fun _ => ?_)
    refine o_give (g_assign (evv rfl)) rfl rfl ?_
    refine o_storeW (evv rfl) (evv rfl) (by first | rfl | assumption | exact LenC.h _ | (simp [bys, *]; done) | fail) (by first | (intro _ _ _; exact bys_one _) | exact AllOne.h | (intro _ _ _ u hu; simp at hu; rcases hu with rfl | rfl | rfl | rfl | rfl | rfl | rfl | rfl <;> rfl) | fail) (by first | rfl | exact (LenC.h _).trans rfl | exact (LenC.h _).trans (LenC.h _).symm | (simp [bys, *]; done) | (simp only [bys, List.length_map, *]; rfl) | fail) ?_
    refine o_give (g_assign (evv rfl)) rfl rfl ?_
    refine o_nil ?_
    refine c_code ?_
    refine r_seq ?_
    refine r_region (id := 14) ?_
    refine o_give (g_move (evv rfl)) rfl rfl ?_
    (refine o_call rfl _ (PickR.ent (K := blk _)) (rjOpen_er _ _ _ _ _ _ (by assumption) (by first | assumption | omega) (by assumption) (by assumption)) rfl ?_; rintro _ _ ⟨rfl, rfl⟩)
    refine o_give (g_move (evv rfl)) rfl rfl ?_
    refine o_give (g_extract (evv rfl) (by rfl)) rfl rfl ?_
    refine o_give (g_extract (evv rfl) (by rfl)) rfl rfl ?_
    refine o_give (g_assign (evv rfl)) rfl rfl ?_
    refine o_give (g_assign (evv rfl)) rfl rfl ?_
    refine o_nil ?_
    refine c_code ?_
    refine r_seq ?_
    refine r_seq ?_
    refine r_region (id := 15) ?_
    refine o_give (g_move (evv rfl)) rfl rfl ?_
    refine o_give (g_move (evv rfl)) rfl rfl ?_
    refine o_give (g_bin (evv rfl) (evv rfl) (by rfl)) rfl rfl ?_
    refine o_give (g_move (evv rfl)) rfl rfl ?_
    refine o_lazy rfl (fun hg => g_move (by first | exact evv rfl | exact evg rfl (by rw [hp]; rfl) | exact evg rfl hp | exact evg rfl hg | exact evg rfl (by first | (simp_all; done) | (simp [*]; done) | fail) | fail)) rfl rfl ?_
    refine o_lazy rfl (fun hg => g_pnil TyU.h (by first | exact evv rfl | exact evg rfl (by rw [hp]; rfl) | exact evg rfl hp | exact evg rfl hg | exact evg rfl (by first | (simp_all; done) | (simp [*]; done) | fail) | fail) (by first | exact evv rfl | exact evg rfl (by rw [hp]; rfl) | exact evg rfl hp | exact evg rfl hg | exact evg rfl (by first | (simp_all; done) | (simp [*]; done) | fail) | fail) (by simp) (by rfl)) rfl rfl ?_
    refine o_lazy rfl (fun hg => g_move (by first | exact evv rfl | exact evg rfl (by rw [hp]; rfl) | exact evg rfl hp | exact evg rfl hg | exact evg rfl (by first | (simp_all; done) | (simp [*]; done) | fail) | fail)) rfl rfl ?_
    refine o_lazy rfl (fun hg => g_bin (by first | exact evv rfl | exact evg rfl (by rw [hp]; rfl) | exact evg rfl hp | exact evg rfl hg | exact evg rfl (by first | (simp_all; done) | (simp [*]; done) | fail) | fail) (by first | exact evv rfl | exact evg rfl (by rw [hp]; rfl) | exact evg rfl hp | exact evg rfl hg | exact evg rfl (by first | (simp_all; done) | (simp [*]; done) | fail) | fail) (by rfl)) rfl rfl ?_
    refine o_lazy rfl (fun hg => g_binB TyU.h (by first | exact evv rfl | exact evg rfl (by rw [hp]; rfl) | exact evg rfl hp | exact evg rfl hg | exact evg rfl (by first | (simp_all; done) | (simp [*]; done) | fail) | fail) (by first | exact evv rfl | exact evg rfl (by rw [hp]; rfl) | exact evg rfl hp | exact evg rfl hg | exact evg rfl (by first | (simp_all; done) | (simp [*]; done) | fail) | fail) (by rfl)) rfl rfl ?_
    refine o_give (g_pick_or (evv rfl) (evv rfl) (fun hp => (by first | exact evv rfl | exact evg rfl (by rw [hp]; rfl) | exact evg rfl hp | exact evg rfl hg | exact evg rfl (by first | (simp_all; done) | (simp [*]; done) | fail) | fail))) rfl rfl ?_
    refine o_give (g_move (evv rfl)) rfl rfl ?_
    refine o_lazy rfl (fun hg => g_move (by first | exact evv rfl | exact evg rfl (by rw [hp]; rfl) | exact evg rfl hp | exact evg rfl hg | exact evg rfl (by first | (simp_all; done) | (simp [*]; done) | fail) | fail)) rfl rfl ?_
    refine o_lazy rfl (fun hg => g_move (by first | exact evv rfl | exact evg rfl (by rw [hp]; rfl) | exact evg rfl hp | exact evg rfl hg | exact evg rfl (by first | (simp_all; done) | (simp [*]; done) | fail) | fail)) rfl rfl ?_
    rename_i g
    simp only [decide_eq_false he, show decide (e = e) = true from decide_eq_true rfl, Bool.not_true, Bool.not_false, bne_self_eq_false]
    refine o_sure (t := 64) rfl rfl ?_
    refine o_sure (t := 65) rfl rfl ?_
    refine o_gyes rfl ?_
    (refine o_call rfl _ ((PickR.ent (K := pt _)).trans ((Ent.cons (PickR.ent (K := blk _))).trans (Ent.perm (.swap _ _ _)))) (rjsame_c _ _ _ _ (by assumption)) rfl ?_; rintro _ _ ⟨rfl, rfl⟩)
    refine o_gyes rfl ?_
    refine o_give (g_not (evv rfl)) rfl rfl ?_
    refine o_give (g_pick (b := false) (evv rfl) (fun h => by cases h) (fun _ => (evv rfl))) rfl rfl ?_
    refine o_nil ?_
    refine c_code ?_
    refine r_cond_false rfl ?_
    refine r_skip ?_
    refine c_code ?_
    refine r_seq ?_
    skip
    repeat (first | refine r_seq ?_ | refine c_code ?_ | refine c_blk ?_ | refine r_block ?_ | refine r_skip ?_)
    refine r_held (id := 17) ([blk g ⟨kC zeroK.view zeroK.normal zeroK.base zeroK.state (.slice none 0 0), 28⟩]) Mixed.h ?_
    refine h_give (i := 0) (by kernel_rfl) rfl (g_move (evv rfl)) rfl rfl ?_
    refine h_give (i := 1) (by kernel_rfl) rfl (g_bin (evv rfl) (evv rfl) (by rfl)) rfl rfl ?_
    refine h_give (i := 2) (by kernel_rfl) rfl (g_move (evv rfl)) rfl rfl ?_
    try simp only [decide_eq_false he, Bool.not_false]
    refine h_sure (i := 3) (by kernel_rfl) rfl rfl (g_loadF (evv rfl) (by rfl) (by rfl)) rfl rfl ?_
    refine h_one (i := 4) (by kernel_rfl) rfl (Lay.ent) ?_
    refine o_gyes rfl ?_
    refine o_give (v := agg [(Go.Value.int Go.IntKind.i64 0), (Go.Value.int Go.IntKind.i64 0), (Go.Value.int Go.IntKind.i64 0), (Go.Value.string { data := #[] }), (Go.Value.slice none 0 0)]) (g_buildC rfl (by rfl)) rfl rfl ?_
    refine o_nil ?_
    refine h_one (i := 5) (by kernel_rfl) rfl (Lay.ent) ?_
    refine o_gyes rfl ?_
    (refine o_call (vs := [agg (kC 0 0 0 [] (.slice none 0 0)), agg (kC 0 0 0 [] (.slice none 0 0))]) rfl _ (Ent.refl _) (SameK_c _ zeroK zeroK (.slice none 0 0) (.slice none 0 0) (ra := Rd.nilF entC 8 _) (rb := Rd.nilF entC 8 _)) rfl ?_; rintro _ _ ⟨rfl, hLz⟩; obtain rfl := hLz.symm; clear hLz)
    refine o_nil ?_
    refine h_give (i := 6) (by kernel_rfl) rfl (g_pick (b := true) (evv rfl) (fun _ => (evv rfl)) (fun h => by cases h)) rfl rfl ?_
    refine h_give (i := 7) (by kernel_rfl) rfl (g_move (evv rfl)) rfl rfl ?_
    try simp only [show decide (zeroK = zeroK) = true from decide_eq_true rfl]
    refine h_lazy (i := 8) (by kernel_rfl) rfl rfl (fun hg => g_move (by first | exact evv rfl | exact evg rfl (by rw [hp]; rfl) | exact evg rfl hp | exact evg rfl hg | exact evg rfl (by first | (simp_all; done) | (simp [*]; done) | fail) | fail)) rfl rfl ?_
    refine h_lazy (i := 9) (by kernel_rfl) rfl rfl (fun hg => g_bin (by first | exact evv rfl | exact evg rfl (by rw [hp]; rfl) | exact evg rfl hp | exact evg rfl hg | exact evg rfl (by first | (simp_all; done) | (simp [*]; done) | fail) | fail) (by first | exact evv rfl | exact evg rfl (by rw [hp]; rfl) | exact evg rfl hp | exact evg rfl hg | exact evg rfl (by first | (simp_all; done) | (simp [*]; done) | fail) | fail) (by rfl)) rfl rfl ?_
    refine h_lazy (i := 10) (by kernel_rfl) rfl rfl (fun hg => g_move (by first | exact evv rfl | exact evg rfl (by rw [hp]; rfl) | exact evg rfl hp | exact evg rfl hg | exact evg rfl (by first | (simp_all; done) | (simp [*]; done) | fail) | fail)) rfl rfl ?_
    try simp only [Bool.not_true]
    refine h_lazy (i := 11) (by kernel_rfl) rfl rfl (fun hg => g_loadF (evv rfl) (by rfl) (by rfl)) rfl rfl ?_
    refine h_lazy (i := 12) (by kernel_rfl) rfl rfl (fun hg => g_move (by first | exact evv rfl | exact evg rfl (by rw [hp]; rfl) | exact evg rfl hp | exact evg rfl hg | exact evg rfl (by first | (simp_all; done) | (simp [*]; done) | fail) | fail)) rfl rfl ?_
    refine h_lazy (i := 13) (by kernel_rfl) rfl (v0 := undef) rfl (fun hg => absurd hg (by first | (simp; done) | fail)) rfl rfl ?_
    refine h_lazy (i := 14) (by kernel_rfl) rfl (v0 := undef) rfl (fun hg => absurd hg (by first | (simp; done) | fail)) rfl rfl ?_
    refine h_lazy (i := 15) (by kernel_rfl) rfl (v0 := undef) rfl (fun hg => absurd hg (by first | (simp; done) | fail)) rfl rfl ?_
    refine h_one (i := 16) (by kernel_rfl) rfl (Lay.ent) ?_
    refine o_lazy (v0 := undef) rfl (fun hg => absurd hg (by first | (simp; done) | fail)) rfl rfl ?_
    refine o_nil ?_
    refine h_lazy (i := 17) (by kernel_rfl) rfl (v0 := undef) rfl (fun hg => absurd hg (by first | (simp; done) | fail)) rfl rfl ?_
    refine h_lazy (i := 18) (by kernel_rfl) rfl rfl (fun hg => g_move (by first | exact evv rfl | exact evg rfl (by rw [hp]; rfl) | exact evg rfl hp | exact evg rfl hg | exact evg rfl (by first | (simp_all; done) | (simp [*]; done) | fail) | fail)) rfl rfl ?_
    try simp only [Bool.not_true]
    refine h_off (i := 19) (by kernel_rfl) rfl rfl rfl rfl ?_
    refine h_off (i := 21) (by kernel_rfl) rfl rfl rfl rfl ?_
    refine h_off (i := 22) (by kernel_rfl) rfl rfl rfl rfl ?_
    refine h_off (i := 23) (by kernel_rfl) rfl rfl rfl rfl ?_
    refine h_off (i := 24) (by kernel_rfl) rfl rfl rfl rfl ?_
    refine h_one (i := 20) (by kernel_rfl) rfl (Lay.ent) ?_
    refine o_off rfl rfl rfl ?_
    refine o_nil ?_
    refine h_one (i := 25) (by kernel_rfl) rfl (Lay.ent) ?_
    refine o_off rfl rfl rfl ?_
    refine o_nil ?_
    refine h_lazy (i := 26) (by kernel_rfl) rfl (v0 := undef) rfl (fun hg => absurd hg (by first | (simp; done) | fail)) rfl rfl ?_
    refine h_give (i := 27) (by kernel_rfl) rfl (g_pick (b := true) (evv rfl) (fun _ => (evv rfl)) (fun h => by cases h)) rfl rfl ?_
    refine h_give (i := 28) (by kernel_rfl) rfl (g_assign (evv rfl)) rfl rfl ?_
    refine h_done (by kernel_rfl) (Lay.ent) ?_
    refine c_code ?_
    first | refine r_ret (rs := [.tmp 4]) rfl rfl _ ((Lay.ent (L' := [base W]))) ?_ | refine c_end (rs := [.tmp 4]) rfl rfl _ ((Lay.ent (L' := [base W]))) ?_
    refine ⟨?_, rfl⟩
    first | rfl | exact congrArg Value.bool (by simp)
end VK
