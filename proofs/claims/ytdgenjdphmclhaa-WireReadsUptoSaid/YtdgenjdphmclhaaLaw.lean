/- The helpers of the laws. Conditions: none. -/
import Derived.Test.YtdgenjdphmclhaaCheck
import Derived.WalkKit
namespace VK
open Go Go.Proofs
set_option linter.unusedSimpArgs false
set_option linter.unusedVariables false
set_option maxRecDepth 100000
set_option maxHeartbeats 40000000
/-- a field's value -/
structure Fld where
  kind : Int
  n : Nat
  s : List UInt8
  most : Int
deriving Inhabited
def fldC (f : Fld) : List Value := [.int .i64 f.kind, .int .u64 f.n, str f.s, .int .i64 f.most]
def Fld.ok (f : Fld) : Prop := (-9223372036854775808 ≤ f.kind ∧ f.kind ≤ 9223372036854775807) ∧ f.n ≤ 18446744073709551615 ∧ (-9223372036854775808 ≤ f.most ∧ f.most ≤ 9223372036854775807)
def kindOf (f : Fld) : Int := f.kind % 18446744073709551616 % 5
theorem kind_c (F : List Atom) (f : Fld) (hf : f.ok) : Fn Try.prog 31 [agg (fldC f)] F fun v L' => v = .int .i64 (kindOf f) ∧ L' = F := by
  refine fn_intro Try.func31 rfl Try.ntmps31 rfl (fun W0 => ?_)
  simp only [argE]
  obtain ⟨h1, h2, h3⟩ := hf
  refine r_seq ?_
  refine r_region (id := 0) ?_
  refine o_boxA (evv rfl) rfl (fun _ => ?_)
  refine o_give (g_assign (evv rfl)) rfl rfl ?_
  refine o_nil ?_
  refine c_code ?_
  refine r_seq ?_
  refine r_region (id := 1) ?_
  refine o_give (g_fld (evv rfl)) rfl rfl ?_
  refine o_give (g_load (evv rfl) (by rfl) (by rfl)) rfl rfl ?_
  refine o_giveU (g_conv TyU.h TyU.h (evv rfl)) (by rfl) rfl ?_
  refine o_give (g_remP (evv rfl) (evv rfl) (by omega) (by omega)) rfl rfl ?_
  refine o_giveN (g_conv TyU.h TyU.h (evv rfl)) (by simp only [inR]; omega) rfl ?_
  refine o_give (g_assign (evv rfl)) rfl rfl ?_
  refine o_nil ?_
  refine c_code ?_
  exact r_ret (rs := [.tmp 2]) rfl rfl _ Ent.drop ⟨rfl, rfl⟩

def foldD (bs : List UInt8) : List UInt8 := bs.take 32 ++ List.replicate (32 - bs.length) 0
theorem Fold_c (F : List Atom) (v : Value) (bs : List UInt8) [rd : Rd F v (mrow by8 5 bs)] : Fn Try.prog 34 [v] F fun v L' => v = agg (bys (foldD bs)) ∧ L' = F := by
  refine fn_intro Try.func34 rfl Try.ntmps34 rfl (fun W0 => ?_)
  simp only [argE]
  refine r_seq ?_
  refine r_region (id := 0) ?_
  refine o_alloc rfl rfl (fun _ => ?_)
  refine o_nil ?_
  refine c_code ?_
  refine r_seq ?_
  refine r_region (id := 1) ?_
  refine o_alloc rfl rfl (fun _ => ?_)
  refine o_nil ?_
  refine c_code ?_
  refine r_seq ?_
  refine r_seq ?_
  refine r_region (id := 2) ?_
  refine o_give (g_assign (evv rfl)) rfl rfl ?_
  refine o_nil ?_
  refine c_code ?_
  refine r_block ?_
  rename_i b1 b2
  refine r_loop (σ := Nat × List UInt8) (fun s => s.1 ≤ 32 ∧ s.1 ≤ bs.length ∧ s.2 = bs.take s.1 ++ List.replicate (32 - s.1) 0) (fun s => 32 - s.1) (fun s => [(0, .v v), (2, .v (.pointer (some ⟨b1, 0, none⟩))), (3, .v (.pointer (some ⟨b2, 0, none⟩))), (4, .v (.int .i64 s.1))]) (fun s => blk b2 ⟨bys s.2, 67⟩ :: blk b1 ⟨bys (List.replicate 32 0), 67⟩ :: F) (0, List.replicate 32 0) ⟨by omega, by omega, rfl⟩ ⟨rfl, rfl, rfl, rfl, trivial⟩ (Ent.refl _) ?_
  rintro ⟨i, d⟩ ⟨h1, h2, h3⟩
  dsimp only at h1 h2 h3 ⊢
  have hdl : d.length = 32 := by rw [h3]; simp; omega
  refine r_seq ?_
  refine r_seq ?_
  refine r_region (id := 3) ?_
  refine o_give (g_move (evv rfl)) rfl rfl ?_
  refine o_give (g_bin (evv rfl) (evv rfl) (by rfl)) rfl rfl ?_
  refine o_give (g_move (evv rfl)) rfl rfl ?_
  refine o_lazy rfl (fun hg => g_move (by first | exact evv rfl | exact evg rfl (by rw [hp]; rfl) | exact evg rfl hp | exact evg rfl hg | exact evg rfl (by first | (simp_all; done) | (simp [*]; done) | fail) | fail)) rfl rfl ?_
  refine o_lazy rfl (fun hg => g_move (by first | exact evv rfl | exact evg rfl (by rw [hp]; rfl) | exact evg rfl hp | exact evg rfl hg | exact evg rfl (by first | (simp_all; done) | (simp [*]; done) | fail) | fail)) rfl rfl ?_
  refine o_lazy rfl (fun hg => g_lenM (by first | exact evv rfl | exact evg rfl (by rw [hp]; rfl) | exact evg rfl hp | exact evg rfl hg | exact evg rfl (by first | (simp_all; done) | (simp [*]; done) | fail) | fail)) rfl rfl ?_
  refine o_lazy rfl (fun hg => g_bin (by first | exact evv rfl | exact evg rfl (by rw [hp]; rfl) | exact evg rfl hp | exact evg rfl hg | exact evg rfl (by first | (simp_all; done) | (simp [*]; done) | fail) | fail) (by first | exact evv rfl | exact evg rfl (by rw [hp]; rfl) | exact evg rfl hp | exact evg rfl hg | exact evg rfl (by first | (simp_all; done) | (simp [*]; done) | fail) | fail) (by rfl)) rfl rfl ?_
  refine o_give (g_pick_and (evv rfl) (evv rfl) (fun hp => (by first | exact evv rfl | exact evg rfl (by rw [hp]; rfl) | exact evg rfl hp | exact evg rfl hg | exact evg rfl (by first | (simp_all; done) | (simp [*]; done) | fail) | fail))) rfl rfl ?_
  refine o_nil ?_
  refine c_code ?_
  refine r_cond rfl (fun hc => ?_) (fun hc => ?_)
  · simp only [Bool.and_eq_true, decide_eq_true_eq] at hc
    have hbl : i < (bys d).length := by simp [bys]; omega
    refine r_skip ?_
    refine c_code ?_
    refine r_seq ?_
    refine r_block ?_
    refine r_region (id := 5) ?_
    refine o_give (g_move (evv rfl)) rfl rfl ?_
    refine o_give (g_move (evv rfl)) rfl rfl ?_
    refine o_give (g_move (evv rfl)) rfl rfl ?_
    refine o_give (g_idxMN (evv rfl) (evv rfl) (by rfl) (by first | omega | (have := of_decide_eq_true hg; omega) | (simp at hg; omega) | (simp only [List.length_set, List.length_append, List.length_cons, List.length_nil, List.length_map, List.length_take, List.length_drop, List.length_replicate]; omega))) rfl rfl ?_
    refine o_give (g_loadM (evv rfl) (by rfl) (by first | omega | (have := of_decide_eq_true hg; omega) | (simp at hg; omega) | (simp only [List.length_set, List.length_append, List.length_cons, List.length_nil, List.length_map, List.length_take, List.length_drop, List.length_replicate]; omega))) rfl rfl ?_
    refine o_give (g_idxAN (evv rfl) (evv rfl) (by omega)) rfl rfl ?_
    refine o_storeI (evv rfl) (evv rfl) (by rfl) (by first | omega | (simp [bys]; omega) | fail) ?_
    refine o_nil ?_
    refine c_blk ?_
    refine c_code ?_
    refine r_region (id := 4) ?_
    refine o_give (g_move (evv rfl)) rfl rfl ?_
    refine o_giveN (g_bin (evv rfl) (evv rfl) (by rfl)) (by simp only [inR]; omega) rfl ?_
    refine o_give (g_assign (evv rfl)) rfl rfl ?_
    refine o_nil ?_
    have e0 : (bys d).set (0 + i * ({ size := 1, bytes := 1, zero := Value.int .u8 0 } : TI).size) (by8 (bs.getD i default)) = bys (d.set i (bs.getD i default)) := by
      simp [bys, List.map_set]
    rw [e0]
    refine c_loop (i + 1, d.set i (bs.getD i default)) ⟨by dsimp only; omega, by dsimp only; omega, ?_⟩ (by dsimp only; omega) ⟨rfl, rfl, rfl, rfl, trivial⟩ (Ent.refl _)
    dsimp only
    have hi : i < bs.length := by omega
    have hm : min i bs.length = i := by omega
    rw [h3, List.take_succ_eq_append_getElem hi, List.set_append, if_neg (by simp [hm])]
    rw [show 32 - i = (32 - (i + 1)) + 1 by omega, List.replicate_succ]
    simp [hi, hm]
    rw [List.take_succ_eq_append_getElem hi, List.append_assoc]
    rfl
  · simp only [Bool.and_eq_false_iff, decide_eq_false_iff_not] at hc
    refine r_exit rfl ?_
    refine c_code ?_
    refine r_seq ?_
    refine r_region (id := 6) ?_
    refine o_give (g_loadW (evv rfl) (by rfl) (by first | rfl | assumption | (simp [bys, *]; done) | fail)) rfl rfl ?_
    refine o_storeW (evv rfl) (evv rfl) (by first | rfl | assumption | (simp [bys, *]; done) | fail) (by first | (intro _ _ _; exact bys_one _) | exact AllOne.h | (intro _ _ _ u hu; simp at hu; rcases hu with rfl | rfl | rfl | rfl | rfl | rfl | rfl | rfl <;> rfl) | fail) (by first | rfl | (simp [bys, *]; done) | (simp only [bys, List.length_map, *]; rfl) | fail) ?_
    refine o_nil ?_
    refine c_code ?_
    have e1 : d = foldD bs := by
      rw [h3, foldD]
      by_cases hl : bs.length ≤ 32
      · have : i = bs.length ∨ i = 32 := by omega
        rw [List.take_of_length_le (by omega), List.take_of_length_le (by omega), show 32 - i = 32 - bs.length by omega]
      · rw [show i = 32 by omega, show 32 - bs.length = 32 - 32 by omega]
    rw [← e1]
    exact r_retC (rs := [.cell 2 67]) rfl (ro_agg rfl rfl (by simp [bys, hdl]) ro_nil) _ (Ent.drop.trans Ent.drop) ⟨rfl, rfl⟩
theorem foldD_len (bs : List UInt8) : (foldD bs).length = 32 := by simp [foldD]; omega
instance (bs : List UInt8) : LenIs (foldD bs) 32 := ⟨foldD_len bs, by decide⟩

def sgn (n : Nat) : Int := if n < 9223372036854775808 then n else (n : Int) - 18446744073709551616
theorem wrap_sgn {n : Nat} (h : n ≤ 18446744073709551615) : IntKind.i64.wrap (n : Int) = sgn n := by
  unfold sgn
  simp [IntKind.wrap, IntKind.bits, IntKind.signed]
  omega
theorem sgn_in {n : Nat} (h : n ≤ 18446744073709551615) : -9223372036854775808 ≤ sgn n ∧ sgn n ≤ 9223372036854775807 := by unfold sgn; split <;> omega
/-- a field's bytes -/
def fldB (f : Fld) : List UInt8 := if kindOf f = 0 then num f.n else if kindOf f = 1 then intB (sgn f.n) else if kindOf f = 2 then textB f.s else if kindOf f = 3 then flagB (decide (f.n % 2 = 1)) else foldD f.s
theorem put_c (F : List Atom) (o : Nat) (xs : List UInt8) (f : Fld) (hf : f.ok) (hx : xs.length + f.s.length ≤ 140737488350000) :
    Fn Try.prog 10 [.pointer (some ⟨o, 0, none⟩), agg (fldC f)] (outA o xs :: F) fun v L' => True ∧ L' = [sl v (mrow by8 5 (fldB f))] ++ outA o (xs ++ fldB f) :: F := by
  refine fn_intro Try.func10 rfl Try.ntmps10 rfl (fun W0 => ?_)
  simp only [argE]
  have hf' := hf
  obtain ⟨h1, h2, h3⟩ := hf'
  refine r_seq ?_
  refine r_region (id := 0) ?_
  refine o_boxA (evv rfl) rfl (fun _ => ?_)
  refine o_give (g_assign (evv rfl)) rfl rfl ?_
  refine o_nil ?_
  refine c_code ?_
  refine r_seq ?_
  refine r_seq ?_
  refine r_region (id := 1) ?_
  refine o_give (g_loadF (evv rfl) (by rfl) (by rfl)) rfl rfl ?_
  (refine o_call rfl _ (Ent.refl _) (kind_c _ _ (by assumption)) rfl ?_; rintro _ _ ⟨rfl, hLz⟩; obtain rfl := hLz.symm; clear hLz)
  refine o_nil ?_
  refine c_code ?_
  refine r_block ?_
  refine r_seq ?_
  rename_i b
  rw [fldB]
  have hfl := foldD_len f.s
  refine r_region (id := 2) ?_
  refine o_give (g_bin (evv rfl) (evv rfl) (by rfl)) rfl rfl ?_
  refine o_give (g_assign (evv rfl)) rfl rfl ?_
  refine o_nil ?_
  refine c_code ?_
  refine r_cond rfl (fun hc => ?_) (fun hc => ?_)
  · have hc := of_decide_eq_true hc
    rw [if_pos hc]
    refine r_seq ?_
    refine r_region (id := 3) ?_
    refine o_give (g_move (evv rfl)) rfl rfl ?_
    refine o_give (g_fld (evv rfl)) rfl rfl ?_
    refine o_give (g_load (evv rfl) (by rfl) (by rfl)) rfl rfl ?_
    (refine o_call rfl _ (Ent.refl _) (Num_l _ (by omega) (by (try simp only [bsOf, List.length_append, List.length_cons, List.length_nil]); omega)) rfl ?_; rintro _ _ ⟨rfl, rfl⟩; (try simp only [Int.toNat_natCast]))
    refine o_nil ?_
    refine c_code ?_
    refine r_seq ?_
    refine r_region (id := 4) ?_
    refine o_give (g_fld (evv rfl)) rfl rfl ?_
    refine o_give (g_load (evv rfl) (by rfl) (by rfl)) rfl rfl ?_
    (refine o_call rfl _ (Ent.refl _) (rNum_l _ (by omega)) rfl ?_; rintro _ _ ⟨_, rfl⟩; (try simp only [Int.toNat_natCast]))
    refine o_give (g_assign (evv rfl)) rfl rfl ?_
    refine o_nil ?_
    refine c_code ?_
    exact r_ret (rs := [.tmp 4]) rfl rfl _ (Ent.cons Ent.drop) ⟨trivial, rfl⟩
  · have hc := of_decide_eq_false hc
    rw [if_neg hc]
    refine r_seq ?_
    refine r_region (id := 5) ?_
    refine o_give (g_bin (evv rfl) (evv rfl) (by rfl)) rfl rfl ?_
    refine o_give (g_assign (evv rfl)) rfl rfl ?_
    refine o_nil ?_
    refine c_code ?_
    refine r_cond rfl (fun hd => ?_) (fun hd => ?_)
    · have hd := of_decide_eq_true hd
      rw [if_pos hd]
      refine r_seq ?_
      refine r_region (id := 6) ?_
      refine o_give (g_move (evv rfl)) rfl rfl ?_
      refine o_give (g_fld (evv rfl)) rfl rfl ?_
      refine o_give (g_load (evv rfl) (by rfl) (by rfl)) rfl rfl ?_
      refine o_give (g_conv TyU.h TyU.h (evv rfl)) rfl rfl ?_
      have hsg := sgn_in h2
      rw [wrap_sgn h2]
      (refine o_call rfl _ (Ent.refl _) (Int_l _ (by omega) (by (try simp only [bsOf, List.length_append, List.length_cons, List.length_nil]); omega)) rfl ?_; rintro _ _ ⟨rfl, rfl⟩)
      refine o_nil ?_
      refine c_code ?_
      refine r_seq ?_
      refine r_region (id := 7) ?_
      refine o_give (g_fld (evv rfl)) rfl rfl ?_
      refine o_give (g_load (evv rfl) (by rfl) (by rfl)) rfl rfl ?_
      refine o_give (g_conv TyU.h TyU.h (evv rfl)) rfl rfl ?_
      skip
      rw [wrap_sgn h2]
      (refine o_call rfl _ (Ent.refl _) (rInt_c _ _ (by omega)) rfl ?_; rintro _ _ ⟨_, rfl⟩)
      refine o_give (g_assign (evv rfl)) rfl rfl ?_
      refine o_nil ?_
      refine c_code ?_
      skip
      exact r_ret (rs := [.tmp 4]) rfl rfl _ (Ent.cons Ent.drop) ⟨trivial, rfl⟩
    · have hd := of_decide_eq_false hd
      rw [if_neg hd]
      refine r_seq ?_
      refine r_region (id := 8) ?_
      refine o_give (g_bin (evv rfl) (evv rfl) (by rfl)) rfl rfl ?_
      refine o_give (g_assign (evv rfl)) rfl rfl ?_
      refine o_nil ?_
      refine c_code ?_
      refine r_cond rfl (fun he => ?_) (fun he => ?_)
      · have he := of_decide_eq_true he
        rw [if_pos he]
        refine r_seq ?_
        refine r_region (id := 9) ?_
        refine o_give (g_move (evv rfl)) rfl rfl ?_
        refine o_give (g_fld (evv rfl)) rfl rfl ?_
        refine o_give (g_load (evv rfl) (by rfl) (by rfl)) rfl rfl ?_
        (refine o_call rfl _ (Ent.refl _) (Text_l (by (try simp only [bsOf, List.length_append, List.length_cons, List.length_nil]); omega)) rfl ?_; rintro _ _ ⟨rfl, rfl⟩)
        refine o_nil ?_
        refine c_code ?_
        refine r_seq ?_
        refine r_region (id := 10) ?_
        refine o_give (g_fld (evv rfl)) rfl rfl ?_
        refine o_give (g_load (evv rfl) (by rfl) (by rfl)) rfl rfl ?_
        (refine o_call rfl _ (Ent.refl _) (rText_c _ _ (by omega)) rfl ?_; rintro _ _ ⟨_, rfl⟩)
        refine o_give (g_assign (evv rfl)) rfl rfl ?_
        refine o_nil ?_
        refine c_code ?_
        exact r_ret (rs := [.tmp 4]) rfl rfl _ (Ent.cons Ent.drop) ⟨trivial, rfl⟩
      · have he := of_decide_eq_false he
        rw [if_neg he]
        refine r_seq ?_
        refine r_region (id := 11) ?_
        refine o_give (g_bin (evv rfl) (evv rfl) (by rfl)) rfl rfl ?_
        refine o_give (g_assign (evv rfl)) rfl rfl ?_
        refine o_nil ?_
        refine c_code ?_
        refine r_cond rfl (fun hg => ?_) (fun hg => ?_)
        · have hg := of_decide_eq_true hg
          rw [if_pos hg]
          refine r_seq ?_
          refine r_region (id := 12) ?_
          refine o_give (g_move (evv rfl)) rfl rfl ?_
          refine o_give (g_fld (evv rfl)) rfl rfl ?_
          refine o_give (g_load (evv rfl) (by rfl) (by rfl)) rfl rfl ?_
          refine o_give (g_remP (evv rfl) (evv rfl) (by omega) (by omega)) rfl rfl ?_
          refine o_give (g_bin (evv rfl) (evv rfl) (by rfl)) rfl rfl ?_
          (refine o_call rfl _ (Ent.refl _) (Flag_l (by (try simp only [bsOf, List.length_append, List.length_cons, List.length_nil]); omega)) rfl ?_; rintro _ _ ⟨rfl, rfl⟩)
          refine o_nil ?_
          refine c_code ?_
          refine r_seq ?_
          refine r_region (id := 13) ?_
          refine o_give (g_fld (evv rfl)) rfl rfl ?_
          refine o_give (g_load (evv rfl) (by rfl) (by rfl)) rfl rfl ?_
          refine o_give (g_remP (evv rfl) (evv rfl) (by omega) (by omega)) rfl rfl ?_
          refine o_give (g_bin (evv rfl) (evv rfl) (by rfl)) rfl rfl ?_
          (refine o_call rfl _ (Ent.refl _) (rFlag_c _ _) rfl ?_; rintro _ _ ⟨_, rfl⟩)
          refine o_give (g_assign (evv rfl)) rfl rfl ?_
          refine o_nil ?_
          refine c_code ?_
          have e2 : decide ((f.n : Int) % 2 = 1) = decide (f.n % 2 = 1) := by congr 1; apply propext; omega
          rw [e2]
          exact r_ret (rs := [.tmp 4]) rfl rfl _ (Ent.cons Ent.drop) ⟨trivial, rfl⟩
        · have hg := of_decide_eq_false hg
          rw [if_neg hg]
          refine r_skip ?_
          refine c_blk ?_
          refine c_code ?_
          refine r_seq ?_
          refine r_region (id := 14) ?_
          refine o_give (g_fld (evv rfl)) rfl rfl ?_
          refine o_give (g_load (evv rfl) (by rfl) (by rfl)) rfl rfl ?_
          refine o_s2bM (evv rfl) (by (try simp only [bsOf, List.length_append, List.length_cons, List.length_nil]); omega) rfl (fun _ => ?_)
          (refine o_call rfl _ (Ent.refl _) (Fold_c _ _ _) rfl ?_; rintro _ _ ⟨rfl, hLz⟩; obtain rfl := hLz.symm; clear hLz)
          refine o_alloc rfl rfl (fun _ => ?_)
          refine o_storeW (evv rfl) (evv rfl) (by first | rfl | assumption | (simp [bys, *]; done) | fail) (by first | (intro _ _ _; exact bys_one _) | exact AllOne.h | (intro _ _ _ u hu; simp at hu; rcases hu with rfl | rfl | rfl | rfl | rfl | rfl | rfl | rfl <;> rfl) | fail) (by first | rfl | (simp [bys, *]; done) | (simp only [bys, List.length_map, *]; rfl) | fail) ?_
          refine o_nil ?_
          refine c_code ?_
          refine r_seq ?_
          refine r_region (id := 15) ?_
          refine o_give (g_move (evv rfl)) rfl rfl ?_
          refine o_give (g_loadW (evv rfl) (by rfl) (by first | rfl | assumption | (simp [bys, *]; done) | fail)) rfl rfl ?_
          (refine o_call rfl _ (Ent.refl _) (Digest_l (by assumption) (by (try simp only [bsOf, List.length_append, List.length_cons, List.length_nil]); omega)) rfl ?_; rintro _ _ ⟨rfl, rfl⟩)
          refine o_nil ?_
          refine c_code ?_
          refine r_seq ?_
          refine r_region (id := 16) ?_
          refine o_lit0 by8 (by rfl) rfl (fun _ => ?_)
          refine o_give (g_arr (evv rfl)) rfl rfl ?_
          refine o_appM (evv rfl) (evv rfl) (by rfl) (by rfl) (by rfl) (by (try simp only [bsOf, List.length_append, List.length_cons, List.length_nil]); omega) rfl (fun _ => ?_)
          refine o_give (g_assign (evv rfl)) rfl rfl ?_
          refine o_nil ?_
          refine c_code ?_
          rename_i v1 v2
          exact r_ret (rs := [.tmp 4]) rfl rfl _ (Ent.cons (Ent.drop.trans (Ent.drop.trans Ent.drop))) ⟨trivial, rfl⟩
theorem put_l {L : List Atom} {o : Nat} {xs : List UInt8} {g : Atom → List Atom} [pk : Pick (outA o) L xs g] {f : Fld} (hf : f.ok) (hx : xs.length + f.s.length ≤ 140737488350000) :
    Fn Try.prog 10 [.pointer (some ⟨o, 0, none⟩), agg (fldC f)] L fun v L' => True ∧ L' = sl v (mrow by8 5 (fldB f)) :: g (outA o (xs ++ fldB f)) := Fn.liftV (fun F => put_c F o xs f hf hx) pk

theorem newOut {F : List Atom} (o : Nat) : Ent (blk o ⟨[.slice none 0 0], 27⟩ :: F) (outA o [] :: F) :=
  (Ent.cons (Ent.nilM by8 5)).trans (Ent.shut (X := fun v : Value => [blk o ⟨[v], 27⟩, sl v (mrow by8 5 [])]) _)
theorem n300 : num 300 = [172, 2] := by rw [num_big (by decide), num_small (by decide)]; rfl
theorem im1 : intB (-1) = [1] := by show num 1 = [1]; exact num01.1
theorem awake_c (L : List Atom) : Fn Try.prog 9 [] L fun v L' => v = .bool true ∧ L' = L := by
  refine fn_intro Try.func9 rfl Try.ntmps9 rfl (fun W0 => ?_)
  simp only [argE]
  refine r_seq ?_
  refine r_region (id := 0) ?_
  refine o_give (g_assign (evv rfl)) rfl rfl ?_
  refine o_nil ?_
  refine c_code ?_
  refine r_seq ?_
  refine r_region (id := 1) ?_
  refine o_give (v := agg [(Go.Value.slice none 0 0)]) (g_buildC rfl (by rfl)) rfl rfl ?_
  refine o_boxA (evv rfl) rfl (fun _ => ?_)
  refine o_give (g_assign (evv rfl)) rfl rfl ?_
  refine o_nil ?_
  refine c_code ?_
  refine r_seq ?_
  rename_i o
  refine r_ent _ (newOut o) ?_
  refine r_region (id := 2) ?_
  refine o_give (g_move (evv rfl)) rfl rfl ?_
  (refine o_call rfl _ (Ent.refl _) (Num_l _ (by omega) (by (try simp only [bsOf, List.length_append, List.length_cons, List.length_nil]); omega)) rfl ?_; rintro _ _ ⟨rfl, rfl⟩; (try simp only [Int.toNat_natCast]))
  refine o_nil ?_
  refine c_code ?_
  refine r_seq ?_
  rw [show [] ++ num (Int.toNat 300) = [172, 2] from n300]
  refine r_region (id := 3) ?_
  refine o_give (g_move (evv rfl)) rfl rfl ?_
  (refine o_call rfl _ (Ent.refl _) (Int_l _ (by omega) (by (try simp only [bsOf, List.length_append, List.length_cons, List.length_nil]); omega)) rfl ?_; rintro _ _ ⟨rfl, rfl⟩)
  refine o_nil ?_
  refine c_code ?_
  refine r_seq ?_
  rw [show [172, 2] ++ intB (-1) = [172, 2, 1] from by rw [im1]; rfl]
  refine r_region (id := 4) ?_
  refine o_litBs rfl rfl (by simp only [okB, and_true]; omega) rfl (by rfl) rfl rfl (fun _ => ?_)
  (refine o_call rfl _ (Ent.refl _) (Read_c _ _ _ (by (try simp only [bsOf, List.length_append, List.length_cons, List.length_nil]); omega)) rfl ?_; rintro _ _ ⟨i, rfl, rfl⟩)
  refine o_give (g_assign (evv rfl)) rfl rfl ?_
  refine o_nil ?_
  refine c_code ?_
  refine r_seq ?_
  refine r_region (id := 5) ?_
  refine o_give (g_move (evv rfl)) rfl rfl ?_
  (refine o_call rfl _ (Ent.refl _) (Bytes_l (by (try simp only [bsOf, List.length_append, List.length_cons, List.length_nil]); omega)) rfl ?_; rintro _ _ ⟨_, rfl⟩)
  refine o_give (g_b2sM (evv rfl)) rfl rfl ?_
  refine o_give (g_binS (evv rfl) (evv rfl) (by rfl)) rfl rfl ?_
  refine o_give (g_move (evv rfl)) rfl rfl ?_
  refine o_gyes rfl ?_
  refine o_give (g_move (evv rfl)) rfl rfl ?_
  refine o_gyes rfl ?_
  refine o_give (g_pnil TyU.h (evv rfl) (evv rfl) (by simp) (by rfl)) rfl rfl ?_
  refine o_give (g_pick (b := true) (evv rfl) (fun _ => (evv rfl)) (fun h => by cases h)) rfl rfl ?_
  refine o_give (g_move (evv rfl)) rfl rfl ?_
  refine o_gyes rfl ?_
  refine o_give (g_move (evv rfl)) rfl rfl ?_
  refine o_gyes rfl ?_
  (refine o_call rfl _ (Ent.refl _) inNum_l rfl ?_; rintro _ _ ⟨rfl, rfl⟩)
  refine o_gyes rfl ?_
  refine o_give (g_bin (evv rfl) (evv rfl) (by rfl)) rfl rfl ?_
  refine o_give (g_pick (b := true) (evv rfl) (fun _ => (evv rfl)) (fun h => by cases h)) rfl rfl ?_
  refine o_give (g_move (evv rfl)) rfl rfl ?_
  refine o_gyes rfl ?_
  refine o_give (g_move (evv rfl)) rfl rfl ?_
  refine o_gyes rfl ?_
  (refine o_call rfl _ (Ent.refl _) inInt_l rfl ?_; rintro _ _ ⟨rfl, rfl⟩)
  refine o_gyes rfl ?_
  refine o_give (g_bin (evv rfl) (evv rfl) (by rfl)) rfl rfl ?_
  refine o_give (g_pick (b := true) (evv rfl) (fun _ => (evv rfl)) (fun h => by cases h)) rfl rfl ?_
  refine o_give (g_move (evv rfl)) rfl rfl ?_
  refine o_gyes rfl ?_
  refine o_give (g_move (evv rfl)) rfl rfl ?_
  refine o_gyes rfl ?_
  (refine o_call rfl _ (Ent.refl _) inEnd_l rfl ?_; rintro _ _ ⟨rfl, rfl⟩)
  refine o_give (g_pick (b := true) (evv rfl) (fun _ => (evv rfl)) (fun h => by cases h)) rfl rfl ?_
  refine o_give (g_move (evv rfl)) rfl rfl ?_
  refine o_gyes rfl ?_
  refine o_litBs rfl rfl (by simp only [okB, and_true]; omega) rfl (by rfl) rfl rfl (fun _ => ?_)
  refine o_gyes rfl ?_
  refine o_mark (evv rfl) (by first | exact Nat.succ_pos _ | (simp [mrow]; done)) rfl ?_
  refine o_gyes rfl ?_
  refine o_litBs rfl rfl (by simp only [okB, and_true]; omega) rfl (by rfl) rfl rfl (fun _ => ?_)
  refine o_gyes rfl ?_
  refine o_mark (evv rfl) (by first | exact Nat.succ_pos _ | (simp [mrow]; done)) rfl ?_
  refine o_gyes rfl ?_
  refine o_litV rfl rfl rfl (by rfl) rfl rfl (fun _ => ?_)
  refine o_gyes rfl ?_
  (refine o_call rfl _ (Ent.refl _) (Check_c _ _ _ _ (ReadsI.h (e := 5))) rfl ?_; rintro _ _ ⟨rfl, hLz⟩; obtain rfl := hLz.symm; clear hLz)
  refine o_gyes rfl ?_
  refine o_give (g_bin (evv rfl) (evv rfl) (by rfl)) rfl rfl ?_
  refine o_give (g_pick (b := true) (evv rfl) (fun _ => (evv rfl)) (fun h => by cases h)) rfl rfl ?_
  refine o_give (g_assign (evv rfl)) rfl rfl ?_
  refine o_nil ?_
  refine c_code ?_
  exact r_ret (rs := [.tmp 0]) rfl rfl L Lay.ent ⟨congrArg Value.bool (by kernel_rfl), rfl⟩
end VK
