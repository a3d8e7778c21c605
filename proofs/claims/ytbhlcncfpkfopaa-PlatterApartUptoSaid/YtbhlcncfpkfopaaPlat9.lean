/- PlatterFlips, walked. Conditions: few bytes. -/
import Derived.Test.YtbhlcncfpkfopaaPlat8
namespace VK
open Go Go.Proofs
set_option linter.unusedSimpArgs false
set_option linter.unusedVariables false
set_option maxRecDepth 100000
set_option maxHeartbeats 40000000
theorem cut_all (ks : List Int) (i : Nat) (b : List UInt8) : cutAt ks i b b.length = b := by
  have := more_le ks i b.length b.length
  simp only [cutAt]
  exact List.take_of_length_le (by omega)
theorem PlatterFlips_c (W : World) (vo vf vk : Value) (old fresh : List UInt8) (calls : Int) (ks : List Int) [ro : Rd [base W] vo (bR old)] [rf : Rd [base W] vf (bR fresh)] [rk : Rd [base W] vk (mrow i64v 3 ks)] (hk : ∀ k ∈ ks, inR .i64 k) (hlo : old.length ≤ 100000000) (hlf : fresh.length ≤ 100000000) :
    Fn Try.prog 5 [vo, vf, .int .i64 calls, vk] [base W] fun w L' => w = .bool true ∧ L' = [base W] := by
  have k0 : zeroPt.ok := ⟨.inl rfl, Nat.le_refl _, Nat.le_refl _, Nat.zero_le _, Nat.zero_le _, Nat.zero_le _⟩
  have lo : old.length ≤ 1000000000 := by omega
  have lf : fresh.length ≤ 1000000000 := by omega
  have k1 : (⟨old, 0, [], 0, 0, 0, false⟩ : Pt).ok := by constructor <;> simp <;> omega
  have k2 : (⟨old, old.length, [], 0, 0, 0, false⟩ : Pt).ok := by constructor <;> simp <;> omega
  refine fn_intro Try.func5 rfl Try.ntmps5 rfl (fun W0 => ?_)
  simp only [argE]
  refine r_seq ?_
  refine r_region (id := 0) ?_
  refine o_give (g_assign (evv rfl)) rfl rfl ?_
  refine o_nil ?_
  refine c_code ?_
  refine r_seq ?_
  refine r_seq ?_
  refine r_region (id := 1) ?_
  (refine o_call rfl _ (Ent.refl _) (awake_c _) rfl ?_; rintro _ _ ⟨rfl, rfl⟩)
  refine o_give (g_not (evv rfl)) rfl rfl ?_
  refine o_nil ?_
  refine c_code ?_
  refine r_cond_false rfl ?_
  refine r_skip ?_
  refine c_code ?_
  refine r_seq ?_
  refine r_seq ?_
  refine r_region (id := 3) ?_
  refine o_give (g_move (evv rfl)) rfl rfl ?_
  refine o_give (g_lenM (evv rfl)) rfl rfl ?_
  refine o_give (g_move (evv rfl)) rfl rfl ?_
  refine o_give (g_lenM (evv rfl)) rfl rfl ?_
  refine o_giveN (g_bin (evv rfl) (evv rfl) (by rfl)) (by simp only [inR]; omega) rfl ?_
  refine o_give (g_bin (evv rfl) (evv rfl) (by rfl)) rfl rfl ?_
  refine o_nil ?_
  refine c_code ?_
  refine r_cond rfl (fun hf => ?_) (fun hf => ?_) <;> (try simp only [decide_eq_true_eq, decide_eq_false_iff_not, Bool.and_eq_true, Bool.or_eq_true, Bool.not_eq_true', Bool.and_eq_false_iff, Bool.or_eq_false_iff, Bool.not_eq_false', Bool.not_eq_true, Bool.not_eq_false, Bool.true_eq_false, Bool.false_eq_true, Int.not_lt, Int.not_le, not_and, not_or, ne_eq] at hf)
  · refine r_seq ?_
    refine r_region (id := 4) ?_
    refine o_give (g_assign (evv rfl)) rfl rfl ?_
    refine o_nil ?_
    refine c_code ?_
    first | refine r_ret (rs := [.tmp 8]) rfl rfl _ (Ent.refl _) ?_ | refine c_end (rs := [.tmp 8]) rfl rfl _ (Ent.refl _) ?_
    (refine ⟨?_, ?_⟩ <;> first | rfl | trivial | omega)
  · clear hf
    refine r_skip ?_
    refine c_code ?_
    refine r_seq ?_
    refine r_region (id := 5) ?_
    (refine o_call rfl _ (Ent.refl _) (New_c _) rfl ?_; rintro _ _ ⟨np, rfl, rfl⟩)
    refine o_give (g_assign (evv rfl)) rfl rfl ?_
    refine o_nil ?_
    refine c_code ?_
    refine r_seq ?_
    refine r_seq ?_
    refine r_region (id := 6) ?_
    refine o_give (g_move (evv rfl)) rfl rfl ?_
    refine o_give (g_pnil TyU.h (evv rfl) (evv rfl) (by simp) (by rfl)) rfl rfl ?_
    refine o_nil ?_
    refine c_code ?_
    refine r_cond_false rfl ?_
    refine r_skip ?_
    refine c_code ?_
    refine r_seq ?_
    refine r_region (id := 8) ?_
    refine o_give (g_move (evv rfl)) rfl rfl ?_
    refine o_give (g_move (evv rfl)) rfl rfl ?_
    (refine o_call rfl _ (PickR.ent (K := pt _)) (Append_c _ _ _ (by assumption) _ _ _ (by first | assumption | omega)) rfl ?_; rintro _ _ ⟨rfl, rfl⟩)
    refine o_nil ?_
    refine c_code ?_
    refine r_seq ?_
    rw [show appT zeroPt 0 old = (0, ⟨old, 0, [], 0, 0, 0, false⟩) from rfl]
    refine r_region (id := 9) ?_
    refine o_give (g_move (evv rfl)) rfl rfl ?_
    (refine o_call rfl _ (PickR.ent (K := pt _)) (Sync_c _ _ _ (by assumption) _) rfl ?_; rintro _ _ ⟨rfl, rfl⟩)
    refine o_nil ?_
    refine c_code ?_
    refine r_seq ?_
    rw [show synT ⟨old, 0, [], 0, 0, 0, false⟩ 0 = (0, ⟨old, old.length, [], 0, 0, 0, false⟩) from rfl]
    refine r_region (id := 10) ?_
    refine o_give (g_move (evv rfl)) rfl rfl ?_
    refine o_giveU (g_conv TyU.h TyU.h (evv rfl)) (by rfl) rfl ?_
    refine o_give (g_remP (evv rfl) (evv rfl) (by omega) (by omega)) rfl rfl ?_
    refine o_giveN (g_conv TyU.h TyU.h (evv rfl)) (by simp only [inR]; omega) rfl ?_
    refine o_giveN (g_bin (evv rfl) (evv rfl) (by rfl)) (by simp only [inR]; omega) rfl ?_
    refine o_give (g_assign (evv rfl)) rfl rfl ?_
    refine o_nil ?_
    refine c_code ?_
    refine r_seq ?_
    generalize hkk : (1 : Int) + calls % 18446744073709551616 % 6 = kk
    have hkr : 1 ≤ kk ∧ kk ≤ 6 := by omega
    clear hkk
    rcases (by omega : kk = 1 ∨ kk = 2 ∨ kk = 3 ∨ kk = 4 ∨ kk = 5 ∨ kk = 6) with rfl | rfl | rfl | rfl | rfl | rfl
    · have k3 : (⟨old, old.length, [], 0, 0, 1, false⟩ : Pt).ok := by constructor <;> simp <;> omega
      have k4 : (⟨old, old.length, fresh, 0, 0, 0, true⟩ : Pt).ok := by constructor <;> simp <;> omega
      have k5 : (⟨old, old.length, fresh, 0, 0, 0, true⟩ : Pt).ok := by constructor <;> simp <;> omega
      have k6 : (⟨old, old.length, fresh, 0, 0, 0, true⟩ : Pt).ok := by constructor <;> simp <;> omega
      have k7 : (⟨old, old.length, fresh, 0, 0, 0, true⟩ : Pt).ok := by constructor <;> simp <;> omega
      have k8 : (cutT ⟨old, old.length, fresh, 0, 0, 0, true⟩ ks).ok := by
        have c0 := cut_le ks 0 old old.length
        have c1 := cut_le ks 1 fresh 0
        have c2 := cut_le ks 1 fresh fresh.length
        constructor <;> simp [cutT, cutAt] <;> omega
      have e8 : rdT (cutT ⟨old, old.length, fresh, 0, 0, 0, true⟩ ks) 0 = old := by simp [rdT, cutT, cut_all]
      refine r_region (id := 11) ?_
      refine o_give (g_move (evv rfl)) rfl rfl ?_
      refine o_give (g_move (evv rfl)) rfl rfl ?_
      (refine o_call rfl _ (PickR.ent (K := pt _)) (Arm_c _ _ _ _) rfl ?_; rintro _ _ ⟨rfl, rfl⟩)
      refine o_nil ?_
      refine c_code ?_
      refine r_seq ?_
      rw [show armT ⟨old, old.length, [], 0, 0, 0, false⟩ 1 = ⟨old, old.length, [], 0, 0, 1, false⟩ from rfl]
      refine r_region (id := 12) ?_
      refine o_give (g_move (evv rfl)) rfl rfl ?_
      refine o_give (g_move (evv rfl)) rfl rfl ?_
      (refine o_call rfl _ (PickR.ent (K := pt _)) (Append_c _ _ _ (by assumption) _ _ _ (by first | assumption | omega)) rfl ?_; rintro _ _ ⟨rfl, rfl⟩)
      refine o_nil ?_
      refine c_code ?_
      refine r_seq ?_
      rw [show appT ⟨old, old.length, [], 0, 0, 1, false⟩ 1 fresh = (170, ⟨old, old.length, fresh, 0, 0, 0, true⟩) from rfl]
      refine r_region (id := 13) ?_
      refine o_give (g_move (evv rfl)) rfl rfl ?_
      (refine o_call rfl _ (PickR.ent (K := pt _)) (Sync_c _ _ _ (by assumption) _) rfl ?_; rintro _ _ ⟨rfl, rfl⟩)
      refine o_nil ?_
      refine c_code ?_
      refine r_seq ?_
      rw [show synT ⟨old, old.length, fresh, 0, 0, 0, true⟩ 1 = (170, ⟨old, old.length, fresh, 0, 0, 0, true⟩) from rfl]
      refine r_region (id := 14) ?_
      refine o_give (g_move (evv rfl)) rfl rfl ?_
      (refine o_call rfl _ (PickR.ent (K := pt _)) (Flip_c _ _ _ (by assumption)) rfl ?_; rintro _ _ ⟨rfl, rfl⟩)
      refine o_give (g_assign (evv rfl)) rfl rfl ?_
      refine o_nil ?_
      refine c_code ?_
      refine r_seq ?_
      rw [show flpT ⟨old, old.length, fresh, 0, 0, 0, true⟩ = (170, ⟨old, old.length, fresh, 0, 0, 0, true⟩) from by simp [flpT, chg, Pt.s, Pt.b, tick]]
      refine r_region (id := 15) ?_
      refine o_give (g_move (evv rfl)) rfl rfl ?_
      (refine o_call rfl _ (PickR.ent (K := pt _)) (Wipe_c _ _ _ (by assumption) _) rfl ?_; rintro _ _ ⟨rfl, rfl⟩)
      refine o_give (g_assign (evv rfl)) rfl rfl ?_
      refine o_nil ?_
      refine c_code ?_
      refine r_seq ?_
      rw [show wipT ⟨old, old.length, fresh, 0, 0, 0, true⟩ 0 = (170, ⟨old, old.length, fresh, 0, 0, 0, true⟩) from by simp [wipT, chg, Pt.s, Pt.b, tick, Pt.setB, Pt.setS]]
      refine r_region (id := 16) ?_
      refine o_give (g_move (evv rfl)) rfl rfl ?_
      (refine o_call rfl _ (PickR.ent (K := pt _)) (Down_c _ _ _) rfl ?_; rintro _ _ ⟨rfl, rfl⟩)
      refine o_give (g_assign (evv rfl)) rfl rfl ?_
      refine o_nil ?_
      refine c_code ?_
      refine r_seq ?_
      refine r_region (id := 17) ?_
      refine o_give (g_move (evv rfl)) rfl rfl ?_
      refine o_give (g_move (evv rfl)) rfl rfl ?_
      (refine o_call rfl _ (PickR.ent (K := pt _)) (Cut_c _ _ _ (by assumption) _ _ (by assumption)) rfl ?_; rintro _ _ ⟨rfl, rfl⟩)
      refine o_nil ?_
      refine c_code ?_
      refine r_seq ?_
      refine r_region (id := 18) ?_
      refine o_give (g_move (evv rfl)) rfl rfl ?_
      refine o_give (g_move (evv rfl)) rfl rfl ?_
      (refine o_call rfl _ (PickR.ent (K := pt _)) (Live_c _ _ _) rfl ?_; rintro _ _ ⟨rfl, rfl⟩)
      (refine o_call rfl _ (PickR.ent (K := pt _)) (Read_c _ _ _ (by assumption) _) rfl ?_; rintro cw _ ⟨-, rfl⟩)
      refine o_give (g_b2sM (evv rfl)) rfl rfl ?_
      refine o_give (g_assign (evv rfl)) rfl rfl ?_
      refine o_nil ?_
      refine c_code ?_
      refine r_seq ?_
      refine r_seq ?_
      refine r_region (id := 19) ?_
      refine o_give (g_move (evv rfl)) rfl rfl ?_
      refine o_give (g_move (evv rfl)) rfl rfl ?_
      refine o_give (g_bin (evv rfl) (evv rfl) (by rfl)) rfl rfl ?_
      refine o_give (g_binB TyU.h (evv rfl) (evv rfl) (by rfl)) rfl rfl ?_
      refine o_give (g_move (evv rfl)) rfl rfl ?_
      refine o_gyes rfl ?_
      refine o_give (g_move (evv rfl)) rfl rfl ?_
      refine o_gyes rfl ?_
      refine o_give (g_bin (evv rfl) (evv rfl) (by rfl)) rfl rfl ?_
      refine o_gyes rfl ?_
      refine o_give (g_move (evv rfl)) rfl rfl ?_
      refine o_gyes rfl ?_
      refine o_give (g_bin (evv rfl) (evv rfl) (by rfl)) rfl rfl ?_
      refine o_gyes rfl ?_
      refine o_give (g_binB TyU.h (evv rfl) (evv rfl) (by rfl)) rfl rfl ?_
      refine o_give (g_pick (b := false) (evv rfl) (fun h => by cases h) (fun _ => (evv rfl))) rfl rfl ?_
      refine o_give (g_move (evv rfl)) rfl rfl ?_
      refine o_gyes rfl ?_
      refine o_give (g_move (evv rfl)) rfl rfl ?_
      refine o_gyes rfl ?_
      refine o_give (g_bin (evv rfl) (evv rfl) (by rfl)) rfl rfl ?_
      refine o_gyes rfl ?_
      refine o_give (g_move (evv rfl)) rfl rfl ?_
      refine o_gyes rfl ?_
      refine o_give (g_bin (evv rfl) (evv rfl) (by rfl)) rfl rfl ?_
      refine o_gyes rfl ?_
      refine o_give (g_binB TyU.h (evv rfl) (evv rfl) (by rfl)) rfl rfl ?_
      refine o_give (g_pick (b := false) (evv rfl) (fun h => by cases h) (fun _ => (evv rfl))) rfl rfl ?_
      refine o_nil ?_
      refine c_code ?_
      refine r_cond_false rfl ?_
      refine r_skip ?_
      refine c_code ?_
      refine r_seq ?_
      refine r_seq ?_
      refine r_region (id := 21) ?_
      refine o_give (g_move (evv rfl)) rfl rfl ?_
      refine o_give (g_bin (evv rfl) (evv rfl) (by rfl)) rfl rfl ?_
      refine o_nil ?_
      refine c_code ?_
      refine r_cond_false rfl ?_
      refine r_skip ?_
      refine c_code ?_
      refine r_seq ?_
      refine r_region (id := 23) ?_
      refine o_give (g_move (evv rfl)) rfl rfl ?_
      (refine o_call rfl _ (PickR.ent (K := pt _)) (Live_c _ _ _) rfl ?_; rintro _ _ ⟨rfl, rfl⟩)
      refine o_give (g_bin (evv rfl) (evv rfl) (by rfl)) rfl rfl ?_
      refine o_give (g_move (evv rfl)) rfl rfl ?_
      refine o_gyes rfl ?_
      refine o_give (g_move (evv rfl)) rfl rfl ?_
      refine o_gyes rfl ?_
      refine o_give (g_move (evv rfl)) rfl rfl ?_
      refine o_gyes rfl ?_
      refine o_give (g_b2sM (evv rfl)) rfl rfl ?_
      refine o_gyes rfl ?_
      refine o_give (g_binS (evv rfl) (evv rfl) (by rfl)) rfl rfl ?_
      refine o_give (g_pick (b := true) (evv rfl) (fun _ => (evv rfl)) (fun h => by cases h)) rfl rfl ?_
      refine o_give (g_assign (evv rfl)) rfl rfl ?_
      refine o_nil ?_
      refine c_code ?_
      first | refine r_ret (rs := [.tmp 8]) rfl rfl _ ((Lay.ent (L' := [base W]))) ?_ | refine c_end (rs := [.tmp 8]) rfl rfl _ ((Lay.ent (L' := [base W]))) ?_
      refine ⟨?_, rfl⟩
      first | exact bool_eq (by simp [cutT, rdT, cut_all]) | (refine bool_eq ?_; simp [e8, cutT])
    · have k3 : (⟨old, old.length, [], 0, 0, 2, false⟩ : Pt).ok := by constructor <;> simp <;> omega
      have k4 : (⟨old, old.length, fresh, 0, 0, 1, false⟩ : Pt).ok := by constructor <;> simp <;> omega
      have k5 : (⟨old, old.length, fresh, 0, 0, 0, true⟩ : Pt).ok := by constructor <;> simp <;> omega
      have k6 : (⟨old, old.length, fresh, 0, 0, 0, true⟩ : Pt).ok := by constructor <;> simp <;> omega
      have k7 : (⟨old, old.length, fresh, 0, 0, 0, true⟩ : Pt).ok := by constructor <;> simp <;> omega
      have k8 : (cutT ⟨old, old.length, fresh, 0, 0, 0, true⟩ ks).ok := by
        have c0 := cut_le ks 0 old old.length
        have c1 := cut_le ks 1 fresh 0
        have c2 := cut_le ks 1 fresh fresh.length
        constructor <;> simp [cutT, cutAt] <;> omega
      have e8 : rdT (cutT ⟨old, old.length, fresh, 0, 0, 0, true⟩ ks) 0 = old := by simp [rdT, cutT, cut_all]
      refine r_region (id := 11) ?_
      refine o_give (g_move (evv rfl)) rfl rfl ?_
      refine o_give (g_move (evv rfl)) rfl rfl ?_
      (refine o_call rfl _ (PickR.ent (K := pt _)) (Arm_c _ _ _ _) rfl ?_; rintro _ _ ⟨rfl, rfl⟩)
      refine o_nil ?_
      refine c_code ?_
      refine r_seq ?_
      rw [show armT ⟨old, old.length, [], 0, 0, 0, false⟩ 2 = ⟨old, old.length, [], 0, 0, 2, false⟩ from rfl]
      refine r_region (id := 12) ?_
      refine o_give (g_move (evv rfl)) rfl rfl ?_
      refine o_give (g_move (evv rfl)) rfl rfl ?_
      (refine o_call rfl _ (PickR.ent (K := pt _)) (Append_c _ _ _ (by assumption) _ _ _ (by first | assumption | omega)) rfl ?_; rintro _ _ ⟨rfl, rfl⟩)
      refine o_nil ?_
      refine c_code ?_
      refine r_seq ?_
      rw [show appT ⟨old, old.length, [], 0, 0, 2, false⟩ 1 fresh = (0, ⟨old, old.length, fresh, 0, 0, 1, false⟩) from rfl]
      refine r_region (id := 13) ?_
      refine o_give (g_move (evv rfl)) rfl rfl ?_
      (refine o_call rfl _ (PickR.ent (K := pt _)) (Sync_c _ _ _ (by assumption) _) rfl ?_; rintro _ _ ⟨rfl, rfl⟩)
      refine o_nil ?_
      refine c_code ?_
      refine r_seq ?_
      rw [show synT ⟨old, old.length, fresh, 0, 0, 1, false⟩ 1 = (170, ⟨old, old.length, fresh, 0, 0, 0, true⟩) from rfl]
      refine r_region (id := 14) ?_
      refine o_give (g_move (evv rfl)) rfl rfl ?_
      (refine o_call rfl _ (PickR.ent (K := pt _)) (Flip_c _ _ _ (by assumption)) rfl ?_; rintro _ _ ⟨rfl, rfl⟩)
      refine o_give (g_assign (evv rfl)) rfl rfl ?_
      refine o_nil ?_
      refine c_code ?_
      refine r_seq ?_
      rw [show flpT ⟨old, old.length, fresh, 0, 0, 0, true⟩ = (170, ⟨old, old.length, fresh, 0, 0, 0, true⟩) from by simp [flpT, chg, Pt.s, Pt.b, tick]]
      refine r_region (id := 15) ?_
      refine o_give (g_move (evv rfl)) rfl rfl ?_
      (refine o_call rfl _ (PickR.ent (K := pt _)) (Wipe_c _ _ _ (by assumption) _) rfl ?_; rintro _ _ ⟨rfl, rfl⟩)
      refine o_give (g_assign (evv rfl)) rfl rfl ?_
      refine o_nil ?_
      refine c_code ?_
      refine r_seq ?_
      rw [show wipT ⟨old, old.length, fresh, 0, 0, 0, true⟩ 0 = (170, ⟨old, old.length, fresh, 0, 0, 0, true⟩) from by simp [wipT, chg, Pt.s, Pt.b, tick, Pt.setB, Pt.setS]]
      refine r_region (id := 16) ?_
      refine o_give (g_move (evv rfl)) rfl rfl ?_
      (refine o_call rfl _ (PickR.ent (K := pt _)) (Down_c _ _ _) rfl ?_; rintro _ _ ⟨rfl, rfl⟩)
      refine o_give (g_assign (evv rfl)) rfl rfl ?_
      refine o_nil ?_
      refine c_code ?_
      refine r_seq ?_
      refine r_region (id := 17) ?_
      refine o_give (g_move (evv rfl)) rfl rfl ?_
      refine o_give (g_move (evv rfl)) rfl rfl ?_
      (refine o_call rfl _ (PickR.ent (K := pt _)) (Cut_c _ _ _ (by assumption) _ _ (by assumption)) rfl ?_; rintro _ _ ⟨rfl, rfl⟩)
      refine o_nil ?_
      refine c_code ?_
      refine r_seq ?_
      refine r_region (id := 18) ?_
      refine o_give (g_move (evv rfl)) rfl rfl ?_
      refine o_give (g_move (evv rfl)) rfl rfl ?_
      (refine o_call rfl _ (PickR.ent (K := pt _)) (Live_c _ _ _) rfl ?_; rintro _ _ ⟨rfl, rfl⟩)
      (refine o_call rfl _ (PickR.ent (K := pt _)) (Read_c _ _ _ (by assumption) _) rfl ?_; rintro cw _ ⟨-, rfl⟩)
      refine o_give (g_b2sM (evv rfl)) rfl rfl ?_
      refine o_give (g_assign (evv rfl)) rfl rfl ?_
      refine o_nil ?_
      refine c_code ?_
      refine r_seq ?_
      refine r_seq ?_
      refine r_region (id := 19) ?_
      refine o_give (g_move (evv rfl)) rfl rfl ?_
      refine o_give (g_move (evv rfl)) rfl rfl ?_
      refine o_give (g_bin (evv rfl) (evv rfl) (by rfl)) rfl rfl ?_
      refine o_give (g_binB TyU.h (evv rfl) (evv rfl) (by rfl)) rfl rfl ?_
      refine o_give (g_move (evv rfl)) rfl rfl ?_
      refine o_gyes rfl ?_
      refine o_give (g_move (evv rfl)) rfl rfl ?_
      refine o_gyes rfl ?_
      refine o_give (g_bin (evv rfl) (evv rfl) (by rfl)) rfl rfl ?_
      refine o_gyes rfl ?_
      refine o_give (g_move (evv rfl)) rfl rfl ?_
      refine o_gyes rfl ?_
      refine o_give (g_bin (evv rfl) (evv rfl) (by rfl)) rfl rfl ?_
      refine o_gyes rfl ?_
      refine o_give (g_binB TyU.h (evv rfl) (evv rfl) (by rfl)) rfl rfl ?_
      refine o_give (g_pick (b := false) (evv rfl) (fun h => by cases h) (fun _ => (evv rfl))) rfl rfl ?_
      refine o_give (g_move (evv rfl)) rfl rfl ?_
      refine o_gyes rfl ?_
      refine o_give (g_move (evv rfl)) rfl rfl ?_
      refine o_gyes rfl ?_
      refine o_give (g_bin (evv rfl) (evv rfl) (by rfl)) rfl rfl ?_
      refine o_gyes rfl ?_
      refine o_give (g_move (evv rfl)) rfl rfl ?_
      refine o_gyes rfl ?_
      refine o_give (g_bin (evv rfl) (evv rfl) (by rfl)) rfl rfl ?_
      refine o_gyes rfl ?_
      refine o_give (g_binB TyU.h (evv rfl) (evv rfl) (by rfl)) rfl rfl ?_
      refine o_give (g_pick (b := false) (evv rfl) (fun h => by cases h) (fun _ => (evv rfl))) rfl rfl ?_
      refine o_nil ?_
      refine c_code ?_
      refine r_cond_false rfl ?_
      refine r_skip ?_
      refine c_code ?_
      refine r_seq ?_
      refine r_seq ?_
      refine r_region (id := 21) ?_
      refine o_give (g_move (evv rfl)) rfl rfl ?_
      refine o_give (g_bin (evv rfl) (evv rfl) (by rfl)) rfl rfl ?_
      refine o_nil ?_
      refine c_code ?_
      refine r_cond_false rfl ?_
      refine r_skip ?_
      refine c_code ?_
      refine r_seq ?_
      refine r_region (id := 23) ?_
      refine o_give (g_move (evv rfl)) rfl rfl ?_
      (refine o_call rfl _ (PickR.ent (K := pt _)) (Live_c _ _ _) rfl ?_; rintro _ _ ⟨rfl, rfl⟩)
      refine o_give (g_bin (evv rfl) (evv rfl) (by rfl)) rfl rfl ?_
      refine o_give (g_move (evv rfl)) rfl rfl ?_
      refine o_gyes rfl ?_
      refine o_give (g_move (evv rfl)) rfl rfl ?_
      refine o_gyes rfl ?_
      refine o_give (g_move (evv rfl)) rfl rfl ?_
      refine o_gyes rfl ?_
      refine o_give (g_b2sM (evv rfl)) rfl rfl ?_
      refine o_gyes rfl ?_
      refine o_give (g_binS (evv rfl) (evv rfl) (by rfl)) rfl rfl ?_
      refine o_give (g_pick (b := true) (evv rfl) (fun _ => (evv rfl)) (fun h => by cases h)) rfl rfl ?_
      refine o_give (g_assign (evv rfl)) rfl rfl ?_
      refine o_nil ?_
      refine c_code ?_
      first | refine r_ret (rs := [.tmp 8]) rfl rfl _ ((Lay.ent (L' := [base W]))) ?_ | refine c_end (rs := [.tmp 8]) rfl rfl _ ((Lay.ent (L' := [base W]))) ?_
      refine ⟨?_, rfl⟩
      first | exact bool_eq (by simp [cutT, rdT, cut_all]) | (refine bool_eq ?_; simp [e8, cutT])
    · have k3 : (⟨old, old.length, [], 0, 0, 3, false⟩ : Pt).ok := by constructor <;> simp <;> omega
      have k4 : (⟨old, old.length, fresh, 0, 0, 2, false⟩ : Pt).ok := by constructor <;> simp <;> omega
      have k5 : (⟨old, old.length, fresh, fresh.length, 0, 1, false⟩ : Pt).ok := by constructor <;> simp <;> omega
      have k6 : (⟨old, old.length, fresh, fresh.length, 0, 0, true⟩ : Pt).ok := by constructor <;> simp <;> omega
      have k7 : (⟨old, old.length, fresh, fresh.length, 0, 0, true⟩ : Pt).ok := by constructor <;> simp <;> omega
      have k8 : (cutT ⟨old, old.length, fresh, fresh.length, 0, 0, true⟩ ks).ok := by
        have c0 := cut_le ks 0 old old.length
        have c1 := cut_le ks 1 fresh 0
        have c2 := cut_le ks 1 fresh fresh.length
        constructor <;> simp [cutT, cutAt] <;> omega
      have e8 : rdT (cutT ⟨old, old.length, fresh, fresh.length, 0, 0, true⟩ ks) 0 = old := by simp [rdT, cutT, cut_all]
      refine r_region (id := 11) ?_
      refine o_give (g_move (evv rfl)) rfl rfl ?_
      refine o_give (g_move (evv rfl)) rfl rfl ?_
      (refine o_call rfl _ (PickR.ent (K := pt _)) (Arm_c _ _ _ _) rfl ?_; rintro _ _ ⟨rfl, rfl⟩)
      refine o_nil ?_
      refine c_code ?_
      refine r_seq ?_
      rw [show armT ⟨old, old.length, [], 0, 0, 0, false⟩ 3 = ⟨old, old.length, [], 0, 0, 3, false⟩ from rfl]
      refine r_region (id := 12) ?_
      refine o_give (g_move (evv rfl)) rfl rfl ?_
      refine o_give (g_move (evv rfl)) rfl rfl ?_
      (refine o_call rfl _ (PickR.ent (K := pt _)) (Append_c _ _ _ (by assumption) _ _ _ (by first | assumption | omega)) rfl ?_; rintro _ _ ⟨rfl, rfl⟩)
      refine o_nil ?_
      refine c_code ?_
      refine r_seq ?_
      rw [show appT ⟨old, old.length, [], 0, 0, 3, false⟩ 1 fresh = (0, ⟨old, old.length, fresh, 0, 0, 2, false⟩) from rfl]
      refine r_region (id := 13) ?_
      refine o_give (g_move (evv rfl)) rfl rfl ?_
      (refine o_call rfl _ (PickR.ent (K := pt _)) (Sync_c _ _ _ (by assumption) _) rfl ?_; rintro _ _ ⟨rfl, rfl⟩)
      refine o_nil ?_
      refine c_code ?_
      refine r_seq ?_
      rw [show synT ⟨old, old.length, fresh, 0, 0, 2, false⟩ 1 = (0, ⟨old, old.length, fresh, fresh.length, 0, 1, false⟩) from rfl]
      refine r_region (id := 14) ?_
      refine o_give (g_move (evv rfl)) rfl rfl ?_
      (refine o_call rfl _ (PickR.ent (K := pt _)) (Flip_c _ _ _ (by assumption)) rfl ?_; rintro _ _ ⟨rfl, rfl⟩)
      refine o_give (g_assign (evv rfl)) rfl rfl ?_
      refine o_nil ?_
      refine c_code ?_
      refine r_seq ?_
      rw [show flpT ⟨old, old.length, fresh, fresh.length, 0, 1, false⟩ = (170, ⟨old, old.length, fresh, fresh.length, 0, 0, true⟩) from by simp [flpT, chg, Pt.s, Pt.b, tick]]
      refine r_region (id := 15) ?_
      refine o_give (g_move (evv rfl)) rfl rfl ?_
      (refine o_call rfl _ (PickR.ent (K := pt _)) (Wipe_c _ _ _ (by assumption) _) rfl ?_; rintro _ _ ⟨rfl, rfl⟩)
      refine o_give (g_assign (evv rfl)) rfl rfl ?_
      refine o_nil ?_
      refine c_code ?_
      refine r_seq ?_
      rw [show wipT ⟨old, old.length, fresh, fresh.length, 0, 0, true⟩ 0 = (170, ⟨old, old.length, fresh, fresh.length, 0, 0, true⟩) from by simp [wipT, chg, Pt.s, Pt.b, tick, Pt.setB, Pt.setS]]
      refine r_region (id := 16) ?_
      refine o_give (g_move (evv rfl)) rfl rfl ?_
      (refine o_call rfl _ (PickR.ent (K := pt _)) (Down_c _ _ _) rfl ?_; rintro _ _ ⟨rfl, rfl⟩)
      refine o_give (g_assign (evv rfl)) rfl rfl ?_
      refine o_nil ?_
      refine c_code ?_
      refine r_seq ?_
      refine r_region (id := 17) ?_
      refine o_give (g_move (evv rfl)) rfl rfl ?_
      refine o_give (g_move (evv rfl)) rfl rfl ?_
      (refine o_call rfl _ (PickR.ent (K := pt _)) (Cut_c _ _ _ (by assumption) _ _ (by assumption)) rfl ?_; rintro _ _ ⟨rfl, rfl⟩)
      refine o_nil ?_
      refine c_code ?_
      refine r_seq ?_
      refine r_region (id := 18) ?_
      refine o_give (g_move (evv rfl)) rfl rfl ?_
      refine o_give (g_move (evv rfl)) rfl rfl ?_
      (refine o_call rfl _ (PickR.ent (K := pt _)) (Live_c _ _ _) rfl ?_; rintro _ _ ⟨rfl, rfl⟩)
      (refine o_call rfl _ (PickR.ent (K := pt _)) (Read_c _ _ _ (by assumption) _) rfl ?_; rintro cw _ ⟨-, rfl⟩)
      refine o_give (g_b2sM (evv rfl)) rfl rfl ?_
      refine o_give (g_assign (evv rfl)) rfl rfl ?_
      refine o_nil ?_
      refine c_code ?_
      refine r_seq ?_
      refine r_seq ?_
      refine r_region (id := 19) ?_
      refine o_give (g_move (evv rfl)) rfl rfl ?_
      refine o_give (g_move (evv rfl)) rfl rfl ?_
      refine o_give (g_bin (evv rfl) (evv rfl) (by rfl)) rfl rfl ?_
      refine o_give (g_binB TyU.h (evv rfl) (evv rfl) (by rfl)) rfl rfl ?_
      refine o_give (g_move (evv rfl)) rfl rfl ?_
      refine o_gyes rfl ?_
      refine o_give (g_move (evv rfl)) rfl rfl ?_
      refine o_gyes rfl ?_
      refine o_give (g_bin (evv rfl) (evv rfl) (by rfl)) rfl rfl ?_
      refine o_gyes rfl ?_
      refine o_give (g_move (evv rfl)) rfl rfl ?_
      refine o_gyes rfl ?_
      refine o_give (g_bin (evv rfl) (evv rfl) (by rfl)) rfl rfl ?_
      refine o_gyes rfl ?_
      refine o_give (g_binB TyU.h (evv rfl) (evv rfl) (by rfl)) rfl rfl ?_
      refine o_give (g_pick (b := false) (evv rfl) (fun h => by cases h) (fun _ => (evv rfl))) rfl rfl ?_
      refine o_give (g_move (evv rfl)) rfl rfl ?_
      refine o_gyes rfl ?_
      refine o_give (g_move (evv rfl)) rfl rfl ?_
      refine o_gyes rfl ?_
      refine o_give (g_bin (evv rfl) (evv rfl) (by rfl)) rfl rfl ?_
      refine o_gyes rfl ?_
      refine o_give (g_move (evv rfl)) rfl rfl ?_
      refine o_gyes rfl ?_
      refine o_give (g_bin (evv rfl) (evv rfl) (by rfl)) rfl rfl ?_
      refine o_gyes rfl ?_
      refine o_give (g_binB TyU.h (evv rfl) (evv rfl) (by rfl)) rfl rfl ?_
      refine o_give (g_pick (b := false) (evv rfl) (fun h => by cases h) (fun _ => (evv rfl))) rfl rfl ?_
      refine o_nil ?_
      refine c_code ?_
      refine r_cond_false rfl ?_
      refine r_skip ?_
      refine c_code ?_
      refine r_seq ?_
      refine r_seq ?_
      refine r_region (id := 21) ?_
      refine o_give (g_move (evv rfl)) rfl rfl ?_
      refine o_give (g_bin (evv rfl) (evv rfl) (by rfl)) rfl rfl ?_
      refine o_nil ?_
      refine c_code ?_
      refine r_cond_false rfl ?_
      refine r_skip ?_
      refine c_code ?_
      refine r_seq ?_
      refine r_region (id := 23) ?_
      refine o_give (g_move (evv rfl)) rfl rfl ?_
      (refine o_call rfl _ (PickR.ent (K := pt _)) (Live_c _ _ _) rfl ?_; rintro _ _ ⟨rfl, rfl⟩)
      refine o_give (g_bin (evv rfl) (evv rfl) (by rfl)) rfl rfl ?_
      refine o_give (g_move (evv rfl)) rfl rfl ?_
      refine o_gyes rfl ?_
      refine o_give (g_move (evv rfl)) rfl rfl ?_
      refine o_gyes rfl ?_
      refine o_give (g_move (evv rfl)) rfl rfl ?_
      refine o_gyes rfl ?_
      refine o_give (g_b2sM (evv rfl)) rfl rfl ?_
      refine o_gyes rfl ?_
      refine o_give (g_binS (evv rfl) (evv rfl) (by rfl)) rfl rfl ?_
      refine o_give (g_pick (b := true) (evv rfl) (fun _ => (evv rfl)) (fun h => by cases h)) rfl rfl ?_
      refine o_give (g_assign (evv rfl)) rfl rfl ?_
      refine o_nil ?_
      refine c_code ?_
      first | refine r_ret (rs := [.tmp 8]) rfl rfl _ ((Lay.ent (L' := [base W]))) ?_ | refine c_end (rs := [.tmp 8]) rfl rfl _ ((Lay.ent (L' := [base W]))) ?_
      refine ⟨?_, rfl⟩
      first | exact bool_eq (by simp [cutT, rdT, cut_all]) | (refine bool_eq ?_; simp [e8, cutT])
    · have k3 : (⟨old, old.length, [], 0, 0, 4, false⟩ : Pt).ok := by constructor <;> simp <;> omega
      have k4 : (⟨old, old.length, fresh, 0, 0, 3, false⟩ : Pt).ok := by constructor <;> simp <;> omega
      have k5 : (⟨old, old.length, fresh, fresh.length, 0, 2, false⟩ : Pt).ok := by constructor <;> simp <;> omega
      have k6 : (⟨old, old.length, fresh, fresh.length, 1, 1, false⟩ : Pt).ok := by constructor <;> simp <;> omega
      have k7 : (⟨old, old.length, fresh, fresh.length, 1, 0, true⟩ : Pt).ok := by constructor <;> simp <;> omega
      have k8 : (cutT ⟨old, old.length, fresh, fresh.length, 1, 0, true⟩ ks).ok := by
        have c0 := cut_le ks 0 old old.length
        have c1 := cut_le ks 1 fresh 0
        have c2 := cut_le ks 1 fresh fresh.length
        constructor <;> simp [cutT, cutAt] <;> omega
      have e8 : rdT (cutT ⟨old, old.length, fresh, fresh.length, 1, 0, true⟩ ks) 1 = fresh := by simp [rdT, cutT, cut_all]
      refine r_region (id := 11) ?_
      refine o_give (g_move (evv rfl)) rfl rfl ?_
      refine o_give (g_move (evv rfl)) rfl rfl ?_
      (refine o_call rfl _ (PickR.ent (K := pt _)) (Arm_c _ _ _ _) rfl ?_; rintro _ _ ⟨rfl, rfl⟩)
      refine o_nil ?_
      refine c_code ?_
      refine r_seq ?_
      rw [show armT ⟨old, old.length, [], 0, 0, 0, false⟩ 4 = ⟨old, old.length, [], 0, 0, 4, false⟩ from rfl]
      refine r_region (id := 12) ?_
      refine o_give (g_move (evv rfl)) rfl rfl ?_
      refine o_give (g_move (evv rfl)) rfl rfl ?_
      (refine o_call rfl _ (PickR.ent (K := pt _)) (Append_c _ _ _ (by assumption) _ _ _ (by first | assumption | omega)) rfl ?_; rintro _ _ ⟨rfl, rfl⟩)
      refine o_nil ?_
      refine c_code ?_
      refine r_seq ?_
      rw [show appT ⟨old, old.length, [], 0, 0, 4, false⟩ 1 fresh = (0, ⟨old, old.length, fresh, 0, 0, 3, false⟩) from rfl]
      refine r_region (id := 13) ?_
      refine o_give (g_move (evv rfl)) rfl rfl ?_
      (refine o_call rfl _ (PickR.ent (K := pt _)) (Sync_c _ _ _ (by assumption) _) rfl ?_; rintro _ _ ⟨rfl, rfl⟩)
      refine o_nil ?_
      refine c_code ?_
      refine r_seq ?_
      rw [show synT ⟨old, old.length, fresh, 0, 0, 3, false⟩ 1 = (0, ⟨old, old.length, fresh, fresh.length, 0, 2, false⟩) from rfl]
      refine r_region (id := 14) ?_
      refine o_give (g_move (evv rfl)) rfl rfl ?_
      (refine o_call rfl _ (PickR.ent (K := pt _)) (Flip_c _ _ _ (by assumption)) rfl ?_; rintro _ _ ⟨rfl, rfl⟩)
      refine o_give (g_assign (evv rfl)) rfl rfl ?_
      refine o_nil ?_
      refine c_code ?_
      refine r_seq ?_
      rw [show flpT ⟨old, old.length, fresh, fresh.length, 0, 2, false⟩ = (0, ⟨old, old.length, fresh, fresh.length, 1, 1, false⟩) from by simp [flpT, chg, Pt.s, Pt.b, tick]]
      refine r_region (id := 15) ?_
      refine o_give (g_move (evv rfl)) rfl rfl ?_
      (refine o_call rfl _ (PickR.ent (K := pt _)) (Wipe_c _ _ _ (by assumption) _) rfl ?_; rintro _ _ ⟨rfl, rfl⟩)
      refine o_give (g_assign (evv rfl)) rfl rfl ?_
      refine o_nil ?_
      refine c_code ?_
      refine r_seq ?_
      rw [show wipT ⟨old, old.length, fresh, fresh.length, 1, 1, false⟩ 0 = (170, ⟨old, old.length, fresh, fresh.length, 1, 0, true⟩) from by simp [wipT, chg, Pt.s, Pt.b, tick, Pt.setB, Pt.setS]]
      refine r_region (id := 16) ?_
      refine o_give (g_move (evv rfl)) rfl rfl ?_
      (refine o_call rfl _ (PickR.ent (K := pt _)) (Down_c _ _ _) rfl ?_; rintro _ _ ⟨rfl, rfl⟩)
      refine o_give (g_assign (evv rfl)) rfl rfl ?_
      refine o_nil ?_
      refine c_code ?_
      refine r_seq ?_
      refine r_region (id := 17) ?_
      refine o_give (g_move (evv rfl)) rfl rfl ?_
      refine o_give (g_move (evv rfl)) rfl rfl ?_
      (refine o_call rfl _ (PickR.ent (K := pt _)) (Cut_c _ _ _ (by assumption) _ _ (by assumption)) rfl ?_; rintro _ _ ⟨rfl, rfl⟩)
      refine o_nil ?_
      refine c_code ?_
      refine r_seq ?_
      refine r_region (id := 18) ?_
      refine o_give (g_move (evv rfl)) rfl rfl ?_
      refine o_give (g_move (evv rfl)) rfl rfl ?_
      (refine o_call rfl _ (PickR.ent (K := pt _)) (Live_c _ _ _) rfl ?_; rintro _ _ ⟨rfl, rfl⟩)
      (refine o_call rfl _ (PickR.ent (K := pt _)) (Read_c _ _ _ (by assumption) _) rfl ?_; rintro cw _ ⟨-, rfl⟩)
      refine o_give (g_b2sM (evv rfl)) rfl rfl ?_
      refine o_give (g_assign (evv rfl)) rfl rfl ?_
      refine o_nil ?_
      refine c_code ?_
      refine r_seq ?_
      refine r_seq ?_
      refine r_region (id := 19) ?_
      refine o_give (g_move (evv rfl)) rfl rfl ?_
      refine o_give (g_move (evv rfl)) rfl rfl ?_
      refine o_give (g_bin (evv rfl) (evv rfl) (by rfl)) rfl rfl ?_
      refine o_give (g_binB TyU.h (evv rfl) (evv rfl) (by rfl)) rfl rfl ?_
      refine o_give (g_move (evv rfl)) rfl rfl ?_
      refine o_gyes rfl ?_
      refine o_give (g_move (evv rfl)) rfl rfl ?_
      refine o_gyes rfl ?_
      refine o_give (g_bin (evv rfl) (evv rfl) (by rfl)) rfl rfl ?_
      refine o_gyes rfl ?_
      refine o_give (g_move (evv rfl)) rfl rfl ?_
      refine o_gyes rfl ?_
      refine o_give (g_bin (evv rfl) (evv rfl) (by rfl)) rfl rfl ?_
      refine o_gyes rfl ?_
      refine o_give (g_binB TyU.h (evv rfl) (evv rfl) (by rfl)) rfl rfl ?_
      refine o_give (g_pick (b := false) (evv rfl) (fun h => by cases h) (fun _ => (evv rfl))) rfl rfl ?_
      refine o_give (g_move (evv rfl)) rfl rfl ?_
      refine o_gyes rfl ?_
      refine o_give (g_move (evv rfl)) rfl rfl ?_
      refine o_gyes rfl ?_
      refine o_give (g_bin (evv rfl) (evv rfl) (by rfl)) rfl rfl ?_
      refine o_gyes rfl ?_
      refine o_give (g_move (evv rfl)) rfl rfl ?_
      refine o_gyes rfl ?_
      refine o_give (g_bin (evv rfl) (evv rfl) (by rfl)) rfl rfl ?_
      refine o_gyes rfl ?_
      refine o_give (g_binB TyU.h (evv rfl) (evv rfl) (by rfl)) rfl rfl ?_
      refine o_give (g_pick (b := false) (evv rfl) (fun h => by cases h) (fun _ => (evv rfl))) rfl rfl ?_
      refine o_nil ?_
      refine c_code ?_
      refine r_cond_false rfl ?_
      refine r_skip ?_
      refine c_code ?_
      refine r_seq ?_
      refine r_seq ?_
      refine r_region (id := 21) ?_
      refine o_give (g_move (evv rfl)) rfl rfl ?_
      refine o_give (g_bin (evv rfl) (evv rfl) (by rfl)) rfl rfl ?_
      refine o_nil ?_
      refine c_code ?_
      refine r_cond_true rfl ?_
      refine r_seq ?_
      refine r_region (id := 22) ?_
      refine o_give (g_move (evv rfl)) rfl rfl ?_
      (refine o_call rfl _ (PickR.ent (K := pt _)) (Live_c _ _ _) rfl ?_; rintro _ _ ⟨rfl, rfl⟩)
      refine o_give (g_bin (evv rfl) (evv rfl) (by rfl)) rfl rfl ?_
      refine o_give (g_move (evv rfl)) rfl rfl ?_
      refine o_gyes rfl ?_
      refine o_give (g_move (evv rfl)) rfl rfl ?_
      refine o_gyes rfl ?_
      refine o_give (g_move (evv rfl)) rfl rfl ?_
      refine o_gyes rfl ?_
      refine o_give (g_b2sM (evv rfl)) rfl rfl ?_
      refine o_gyes rfl ?_
      refine o_give (g_binS (evv rfl) (evv rfl) (by rfl)) rfl rfl ?_
      refine o_give (g_pick (b := true) (evv rfl) (fun _ => (evv rfl)) (fun h => by cases h)) rfl rfl ?_
      refine o_give (g_assign (evv rfl)) rfl rfl ?_
      refine o_nil ?_
      refine c_code ?_
      first | refine r_ret (rs := [.tmp 8]) rfl rfl _ ((Lay.ent (L' := [base W]))) ?_ | refine c_end (rs := [.tmp 8]) rfl rfl _ ((Lay.ent (L' := [base W]))) ?_
      refine ⟨?_, rfl⟩
      first | exact bool_eq (by simp [cutT, rdT, cut_all]) | (refine bool_eq ?_; simp [e8, cutT])
    · have k3 : (⟨old, old.length, [], 0, 0, 5, false⟩ : Pt).ok := by constructor <;> simp <;> omega
      have k4 : (⟨old, old.length, fresh, 0, 0, 4, false⟩ : Pt).ok := by constructor <;> simp <;> omega
      have k5 : (⟨old, old.length, fresh, fresh.length, 0, 3, false⟩ : Pt).ok := by constructor <;> simp <;> omega
      have k6 : (⟨old, old.length, fresh, fresh.length, 1, 2, false⟩ : Pt).ok := by constructor <;> simp <;> omega
      have k7 : (⟨[], 0, fresh, fresh.length, 1, 1, false⟩ : Pt).ok := by constructor <;> simp <;> omega
      have k8 : (cutT ⟨[], 0, fresh, fresh.length, 1, 1, false⟩ ks).ok := by
        have c0 := cut_le ks 0 old old.length
        have c1 := cut_le ks 1 fresh 0
        have c2 := cut_le ks 1 fresh fresh.length
        constructor <;> simp [cutT, cutAt] <;> omega
      have e8 : rdT (cutT ⟨[], 0, fresh, fresh.length, 1, 1, false⟩ ks) 1 = fresh := by simp [rdT, cutT, cut_all]
      refine r_region (id := 11) ?_
      refine o_give (g_move (evv rfl)) rfl rfl ?_
      refine o_give (g_move (evv rfl)) rfl rfl ?_
      (refine o_call rfl _ (PickR.ent (K := pt _)) (Arm_c _ _ _ _) rfl ?_; rintro _ _ ⟨rfl, rfl⟩)
      refine o_nil ?_
      refine c_code ?_
      refine r_seq ?_
      rw [show armT ⟨old, old.length, [], 0, 0, 0, false⟩ 5 = ⟨old, old.length, [], 0, 0, 5, false⟩ from rfl]
      refine r_region (id := 12) ?_
      refine o_give (g_move (evv rfl)) rfl rfl ?_
      refine o_give (g_move (evv rfl)) rfl rfl ?_
      (refine o_call rfl _ (PickR.ent (K := pt _)) (Append_c _ _ _ (by assumption) _ _ _ (by first | assumption | omega)) rfl ?_; rintro _ _ ⟨rfl, rfl⟩)
      refine o_nil ?_
      refine c_code ?_
      refine r_seq ?_
      rw [show appT ⟨old, old.length, [], 0, 0, 5, false⟩ 1 fresh = (0, ⟨old, old.length, fresh, 0, 0, 4, false⟩) from rfl]
      refine r_region (id := 13) ?_
      refine o_give (g_move (evv rfl)) rfl rfl ?_
      (refine o_call rfl _ (PickR.ent (K := pt _)) (Sync_c _ _ _ (by assumption) _) rfl ?_; rintro _ _ ⟨rfl, rfl⟩)
      refine o_nil ?_
      refine c_code ?_
      refine r_seq ?_
      rw [show synT ⟨old, old.length, fresh, 0, 0, 4, false⟩ 1 = (0, ⟨old, old.length, fresh, fresh.length, 0, 3, false⟩) from rfl]
      refine r_region (id := 14) ?_
      refine o_give (g_move (evv rfl)) rfl rfl ?_
      (refine o_call rfl _ (PickR.ent (K := pt _)) (Flip_c _ _ _ (by assumption)) rfl ?_; rintro _ _ ⟨rfl, rfl⟩)
      refine o_give (g_assign (evv rfl)) rfl rfl ?_
      refine o_nil ?_
      refine c_code ?_
      refine r_seq ?_
      rw [show flpT ⟨old, old.length, fresh, fresh.length, 0, 3, false⟩ = (0, ⟨old, old.length, fresh, fresh.length, 1, 2, false⟩) from by simp [flpT, chg, Pt.s, Pt.b, tick]]
      refine r_region (id := 15) ?_
      refine o_give (g_move (evv rfl)) rfl rfl ?_
      (refine o_call rfl _ (PickR.ent (K := pt _)) (Wipe_c _ _ _ (by assumption) _) rfl ?_; rintro _ _ ⟨rfl, rfl⟩)
      refine o_give (g_assign (evv rfl)) rfl rfl ?_
      refine o_nil ?_
      refine c_code ?_
      refine r_seq ?_
      rw [show wipT ⟨old, old.length, fresh, fresh.length, 1, 2, false⟩ 0 = (0, ⟨[], 0, fresh, fresh.length, 1, 1, false⟩) from by simp [wipT, chg, Pt.s, Pt.b, tick, Pt.setB, Pt.setS]]
      refine r_region (id := 16) ?_
      refine o_give (g_move (evv rfl)) rfl rfl ?_
      (refine o_call rfl _ (PickR.ent (K := pt _)) (Down_c _ _ _) rfl ?_; rintro _ _ ⟨rfl, rfl⟩)
      refine o_give (g_assign (evv rfl)) rfl rfl ?_
      refine o_nil ?_
      refine c_code ?_
      refine r_seq ?_
      refine r_region (id := 17) ?_
      refine o_give (g_move (evv rfl)) rfl rfl ?_
      refine o_give (g_move (evv rfl)) rfl rfl ?_
      (refine o_call rfl _ (PickR.ent (K := pt _)) (Cut_c _ _ _ (by assumption) _ _ (by assumption)) rfl ?_; rintro _ _ ⟨rfl, rfl⟩)
      refine o_nil ?_
      refine c_code ?_
      refine r_seq ?_
      refine r_region (id := 18) ?_
      refine o_give (g_move (evv rfl)) rfl rfl ?_
      refine o_give (g_move (evv rfl)) rfl rfl ?_
      (refine o_call rfl _ (PickR.ent (K := pt _)) (Live_c _ _ _) rfl ?_; rintro _ _ ⟨rfl, rfl⟩)
      (refine o_call rfl _ (PickR.ent (K := pt _)) (Read_c _ _ _ (by assumption) _) rfl ?_; rintro cw _ ⟨-, rfl⟩)
      refine o_give (g_b2sM (evv rfl)) rfl rfl ?_
      refine o_give (g_assign (evv rfl)) rfl rfl ?_
      refine o_nil ?_
      refine c_code ?_
      refine r_seq ?_
      refine r_seq ?_
      refine r_region (id := 19) ?_
      refine o_give (g_move (evv rfl)) rfl rfl ?_
      refine o_give (g_move (evv rfl)) rfl rfl ?_
      refine o_give (g_bin (evv rfl) (evv rfl) (by rfl)) rfl rfl ?_
      refine o_give (g_binB TyU.h (evv rfl) (evv rfl) (by rfl)) rfl rfl ?_
      refine o_give (g_move (evv rfl)) rfl rfl ?_
      refine o_gyes rfl ?_
      refine o_give (g_move (evv rfl)) rfl rfl ?_
      refine o_gyes rfl ?_
      refine o_give (g_bin (evv rfl) (evv rfl) (by rfl)) rfl rfl ?_
      refine o_gyes rfl ?_
      refine o_give (g_move (evv rfl)) rfl rfl ?_
      refine o_gyes rfl ?_
      refine o_give (g_bin (evv rfl) (evv rfl) (by rfl)) rfl rfl ?_
      refine o_gyes rfl ?_
      refine o_give (g_binB TyU.h (evv rfl) (evv rfl) (by rfl)) rfl rfl ?_
      refine o_give (g_pick (b := false) (evv rfl) (fun h => by cases h) (fun _ => (evv rfl))) rfl rfl ?_
      refine o_give (g_move (evv rfl)) rfl rfl ?_
      refine o_gyes rfl ?_
      refine o_give (g_move (evv rfl)) rfl rfl ?_
      refine o_gyes rfl ?_
      refine o_give (g_bin (evv rfl) (evv rfl) (by rfl)) rfl rfl ?_
      refine o_gyes rfl ?_
      refine o_give (g_move (evv rfl)) rfl rfl ?_
      refine o_gyes rfl ?_
      refine o_give (g_bin (evv rfl) (evv rfl) (by rfl)) rfl rfl ?_
      refine o_gyes rfl ?_
      refine o_give (g_binB TyU.h (evv rfl) (evv rfl) (by rfl)) rfl rfl ?_
      refine o_give (g_pick (b := false) (evv rfl) (fun h => by cases h) (fun _ => (evv rfl))) rfl rfl ?_
      refine o_nil ?_
      refine c_code ?_
      refine r_cond_false rfl ?_
      refine r_skip ?_
      refine c_code ?_
      refine r_seq ?_
      refine r_seq ?_
      refine r_region (id := 21) ?_
      refine o_give (g_move (evv rfl)) rfl rfl ?_
      refine o_give (g_bin (evv rfl) (evv rfl) (by rfl)) rfl rfl ?_
      refine o_nil ?_
      refine c_code ?_
      refine r_cond_true rfl ?_
      refine r_seq ?_
      refine r_region (id := 22) ?_
      refine o_give (g_move (evv rfl)) rfl rfl ?_
      (refine o_call rfl _ (PickR.ent (K := pt _)) (Live_c _ _ _) rfl ?_; rintro _ _ ⟨rfl, rfl⟩)
      refine o_give (g_bin (evv rfl) (evv rfl) (by rfl)) rfl rfl ?_
      refine o_give (g_move (evv rfl)) rfl rfl ?_
      refine o_gyes rfl ?_
      refine o_give (g_move (evv rfl)) rfl rfl ?_
      refine o_gyes rfl ?_
      refine o_give (g_move (evv rfl)) rfl rfl ?_
      refine o_gyes rfl ?_
      refine o_give (g_b2sM (evv rfl)) rfl rfl ?_
      refine o_gyes rfl ?_
      refine o_give (g_binS (evv rfl) (evv rfl) (by rfl)) rfl rfl ?_
      refine o_give (g_pick (b := true) (evv rfl) (fun _ => (evv rfl)) (fun h => by cases h)) rfl rfl ?_
      refine o_give (g_assign (evv rfl)) rfl rfl ?_
      refine o_nil ?_
      refine c_code ?_
      first | refine r_ret (rs := [.tmp 8]) rfl rfl _ ((Lay.ent (L' := [base W]))) ?_ | refine c_end (rs := [.tmp 8]) rfl rfl _ ((Lay.ent (L' := [base W]))) ?_
      refine ⟨?_, rfl⟩
      first | exact bool_eq (by simp [cutT, rdT, cut_all]) | (refine bool_eq ?_; simp [e8, cutT])
    · have k3 : (⟨old, old.length, [], 0, 0, 6, false⟩ : Pt).ok := by constructor <;> simp <;> omega
      have k4 : (⟨old, old.length, fresh, 0, 0, 5, false⟩ : Pt).ok := by constructor <;> simp <;> omega
      have k5 : (⟨old, old.length, fresh, fresh.length, 0, 4, false⟩ : Pt).ok := by constructor <;> simp <;> omega
      have k6 : (⟨old, old.length, fresh, fresh.length, 1, 3, false⟩ : Pt).ok := by constructor <;> simp <;> omega
      have k7 : (⟨[], 0, fresh, fresh.length, 1, 2, false⟩ : Pt).ok := by constructor <;> simp <;> omega
      have k8 : (cutT ⟨[], 0, fresh, fresh.length, 1, 2, false⟩ ks).ok := by
        have c0 := cut_le ks 0 old old.length
        have c1 := cut_le ks 1 fresh 0
        have c2 := cut_le ks 1 fresh fresh.length
        constructor <;> simp [cutT, cutAt] <;> omega
      have e8 : rdT (cutT ⟨[], 0, fresh, fresh.length, 1, 2, false⟩ ks) 1 = fresh := by simp [rdT, cutT, cut_all]
      refine r_region (id := 11) ?_
      refine o_give (g_move (evv rfl)) rfl rfl ?_
      refine o_give (g_move (evv rfl)) rfl rfl ?_
      (refine o_call rfl _ (PickR.ent (K := pt _)) (Arm_c _ _ _ _) rfl ?_; rintro _ _ ⟨rfl, rfl⟩)
      refine o_nil ?_
      refine c_code ?_
      refine r_seq ?_
      rw [show armT ⟨old, old.length, [], 0, 0, 0, false⟩ 6 = ⟨old, old.length, [], 0, 0, 6, false⟩ from rfl]
      refine r_region (id := 12) ?_
      refine o_give (g_move (evv rfl)) rfl rfl ?_
      refine o_give (g_move (evv rfl)) rfl rfl ?_
      (refine o_call rfl _ (PickR.ent (K := pt _)) (Append_c _ _ _ (by assumption) _ _ _ (by first | assumption | omega)) rfl ?_; rintro _ _ ⟨rfl, rfl⟩)
      refine o_nil ?_
      refine c_code ?_
      refine r_seq ?_
      rw [show appT ⟨old, old.length, [], 0, 0, 6, false⟩ 1 fresh = (0, ⟨old, old.length, fresh, 0, 0, 5, false⟩) from rfl]
      refine r_region (id := 13) ?_
      refine o_give (g_move (evv rfl)) rfl rfl ?_
      (refine o_call rfl _ (PickR.ent (K := pt _)) (Sync_c _ _ _ (by assumption) _) rfl ?_; rintro _ _ ⟨rfl, rfl⟩)
      refine o_nil ?_
      refine c_code ?_
      refine r_seq ?_
      rw [show synT ⟨old, old.length, fresh, 0, 0, 5, false⟩ 1 = (0, ⟨old, old.length, fresh, fresh.length, 0, 4, false⟩) from rfl]
      refine r_region (id := 14) ?_
      refine o_give (g_move (evv rfl)) rfl rfl ?_
      (refine o_call rfl _ (PickR.ent (K := pt _)) (Flip_c _ _ _ (by assumption)) rfl ?_; rintro _ _ ⟨rfl, rfl⟩)
      refine o_give (g_assign (evv rfl)) rfl rfl ?_
      refine o_nil ?_
      refine c_code ?_
      refine r_seq ?_
      rw [show flpT ⟨old, old.length, fresh, fresh.length, 0, 4, false⟩ = (0, ⟨old, old.length, fresh, fresh.length, 1, 3, false⟩) from by simp [flpT, chg, Pt.s, Pt.b, tick]]
      refine r_region (id := 15) ?_
      refine o_give (g_move (evv rfl)) rfl rfl ?_
      (refine o_call rfl _ (PickR.ent (K := pt _)) (Wipe_c _ _ _ (by assumption) _) rfl ?_; rintro _ _ ⟨rfl, rfl⟩)
      refine o_give (g_assign (evv rfl)) rfl rfl ?_
      refine o_nil ?_
      refine c_code ?_
      refine r_seq ?_
      rw [show wipT ⟨old, old.length, fresh, fresh.length, 1, 3, false⟩ 0 = (0, ⟨[], 0, fresh, fresh.length, 1, 2, false⟩) from by simp [wipT, chg, Pt.s, Pt.b, tick, Pt.setB, Pt.setS]]
      refine r_region (id := 16) ?_
      refine o_give (g_move (evv rfl)) rfl rfl ?_
      (refine o_call rfl _ (PickR.ent (K := pt _)) (Down_c _ _ _) rfl ?_; rintro _ _ ⟨rfl, rfl⟩)
      refine o_give (g_assign (evv rfl)) rfl rfl ?_
      refine o_nil ?_
      refine c_code ?_
      refine r_seq ?_
      refine r_region (id := 17) ?_
      refine o_give (g_move (evv rfl)) rfl rfl ?_
      refine o_give (g_move (evv rfl)) rfl rfl ?_
      (refine o_call rfl _ (PickR.ent (K := pt _)) (Cut_c _ _ _ (by assumption) _ _ (by assumption)) rfl ?_; rintro _ _ ⟨rfl, rfl⟩)
      refine o_nil ?_
      refine c_code ?_
      refine r_seq ?_
      refine r_region (id := 18) ?_
      refine o_give (g_move (evv rfl)) rfl rfl ?_
      refine o_give (g_move (evv rfl)) rfl rfl ?_
      (refine o_call rfl _ (PickR.ent (K := pt _)) (Live_c _ _ _) rfl ?_; rintro _ _ ⟨rfl, rfl⟩)
      (refine o_call rfl _ (PickR.ent (K := pt _)) (Read_c _ _ _ (by assumption) _) rfl ?_; rintro cw _ ⟨-, rfl⟩)
      refine o_give (g_b2sM (evv rfl)) rfl rfl ?_
      refine o_give (g_assign (evv rfl)) rfl rfl ?_
      refine o_nil ?_
      refine c_code ?_
      refine r_seq ?_
      refine r_seq ?_
      refine r_region (id := 19) ?_
      refine o_give (g_move (evv rfl)) rfl rfl ?_
      refine o_give (g_move (evv rfl)) rfl rfl ?_
      refine o_give (g_bin (evv rfl) (evv rfl) (by rfl)) rfl rfl ?_
      refine o_give (g_binB TyU.h (evv rfl) (evv rfl) (by rfl)) rfl rfl ?_
      refine o_give (g_move (evv rfl)) rfl rfl ?_
      refine o_gyes rfl ?_
      refine o_give (g_move (evv rfl)) rfl rfl ?_
      refine o_gyes rfl ?_
      refine o_give (g_bin (evv rfl) (evv rfl) (by rfl)) rfl rfl ?_
      refine o_gyes rfl ?_
      refine o_give (g_move (evv rfl)) rfl rfl ?_
      refine o_gyes rfl ?_
      refine o_give (g_bin (evv rfl) (evv rfl) (by rfl)) rfl rfl ?_
      refine o_gyes rfl ?_
      refine o_give (g_binB TyU.h (evv rfl) (evv rfl) (by rfl)) rfl rfl ?_
      refine o_give (g_pick (b := false) (evv rfl) (fun h => by cases h) (fun _ => (evv rfl))) rfl rfl ?_
      refine o_give (g_move (evv rfl)) rfl rfl ?_
      refine o_gyes rfl ?_
      refine o_give (g_move (evv rfl)) rfl rfl ?_
      refine o_gyes rfl ?_
      refine o_give (g_bin (evv rfl) (evv rfl) (by rfl)) rfl rfl ?_
      refine o_gyes rfl ?_
      refine o_give (g_move (evv rfl)) rfl rfl ?_
      refine o_gyes rfl ?_
      refine o_give (g_bin (evv rfl) (evv rfl) (by rfl)) rfl rfl ?_
      refine o_gyes rfl ?_
      refine o_give (g_binB TyU.h (evv rfl) (evv rfl) (by rfl)) rfl rfl ?_
      refine o_give (g_pick (b := false) (evv rfl) (fun h => by cases h) (fun _ => (evv rfl))) rfl rfl ?_
      refine o_nil ?_
      refine c_code ?_
      refine r_cond_false rfl ?_
      refine r_skip ?_
      refine c_code ?_
      refine r_seq ?_
      refine r_seq ?_
      refine r_region (id := 21) ?_
      refine o_give (g_move (evv rfl)) rfl rfl ?_
      refine o_give (g_bin (evv rfl) (evv rfl) (by rfl)) rfl rfl ?_
      refine o_nil ?_
      refine c_code ?_
      refine r_cond_true rfl ?_
      refine r_seq ?_
      refine r_region (id := 22) ?_
      refine o_give (g_move (evv rfl)) rfl rfl ?_
      (refine o_call rfl _ (PickR.ent (K := pt _)) (Live_c _ _ _) rfl ?_; rintro _ _ ⟨rfl, rfl⟩)
      refine o_give (g_bin (evv rfl) (evv rfl) (by rfl)) rfl rfl ?_
      refine o_give (g_move (evv rfl)) rfl rfl ?_
      refine o_gyes rfl ?_
      refine o_give (g_move (evv rfl)) rfl rfl ?_
      refine o_gyes rfl ?_
      refine o_give (g_move (evv rfl)) rfl rfl ?_
      refine o_gyes rfl ?_
      refine o_give (g_b2sM (evv rfl)) rfl rfl ?_
      refine o_gyes rfl ?_
      refine o_give (g_binS (evv rfl) (evv rfl) (by rfl)) rfl rfl ?_
      refine o_give (g_pick (b := true) (evv rfl) (fun _ => (evv rfl)) (fun h => by cases h)) rfl rfl ?_
      refine o_give (g_assign (evv rfl)) rfl rfl ?_
      refine o_nil ?_
      refine c_code ?_
      first | refine r_ret (rs := [.tmp 8]) rfl rfl _ ((Lay.ent (L' := [base W]))) ?_ | refine c_end (rs := [.tmp 8]) rfl rfl _ ((Lay.ent (L' := [base W]))) ?_
      refine ⟨?_, rfl⟩
      first | exact bool_eq (by simp [cutT, rdT, cut_all]) | (refine bool_eq ?_; simp [e8, cutT])
end VK
