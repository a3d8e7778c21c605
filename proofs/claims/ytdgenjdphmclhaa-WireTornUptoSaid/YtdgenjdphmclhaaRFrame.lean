/- Frames, as the reference has them. Conditions: none. -/
import Derived.Test.YtdgenjdphmclhaaTells
namespace VK
open Go Go.Proofs
set_option linter.unusedSimpArgs false
set_option linter.unusedVariables false
set_option maxRecDepth 100000
set_option maxHeartbeats 40000000
theorem rFour_c (L : List Atom) (n : Nat) (hn : n < 4294967296) :
    Fn Try.prog 44 [.int .u32 (n : Int)] L fun v L' => L' = sl v (mrow by8 5 (fourB n)) :: L := by
  refine fn_intro Try.func44 rfl Try.ntmps44 rfl (fun W0 => ?_)
  simp only [argE]
  refine r_seq ?_
  refine r_region (id := 0) ?_
  refine o_give (g_assign (evv rfl)) rfl rfl ?_
  refine o_nil ?_
  refine c_code ?_
  refine r_seq ?_
  refine r_region (id := 1) ?_
  refine o_give (g_move (evv rfl)) rfl rfl ?_
  refine o_give (g_remP (evv rfl) (evv rfl) (by omega) (by omega)) rfl rfl ?_
  refine o_giveN (g_conv TyU.h TyU.h (evv rfl)) (by simp only [inR]; omega) rfl ?_
  refine o_give (g_move (evv rfl)) rfl rfl ?_
  refine o_giveN (g_quoP (evv rfl) (evv rfl) (by omega) (by omega)) (by simp only [inR]; omega) rfl ?_
  refine o_give (g_remP (evv rfl) (evv rfl) (by omega) (by omega)) rfl rfl ?_
  refine o_giveN (g_conv TyU.h TyU.h (evv rfl)) (by simp only [inR]; omega) rfl ?_
  refine o_give (g_move (evv rfl)) rfl rfl ?_
  refine o_giveN (g_quoP (evv rfl) (evv rfl) (by omega) (by omega)) (by simp only [inR]; omega) rfl ?_
  refine o_give (g_remP (evv rfl) (evv rfl) (by omega) (by omega)) rfl rfl ?_
  refine o_giveN (g_conv TyU.h TyU.h (evv rfl)) (by simp only [inR]; omega) rfl ?_
  refine o_give (g_move (evv rfl)) rfl rfl ?_
  refine o_giveN (g_quoP (evv rfl) (evv rfl) (by omega) (by omega)) (by simp only [inR]; omega) rfl ?_
  refine o_giveN (g_conv TyU.h TyU.h (evv rfl)) (by simp only [inR]; omega) rfl ?_
  refine o_litBs rfl rfl (by simp only [okB, and_true]; omega) rfl (by rfl) rfl rfl (fun _ => ?_)
  refine o_give (g_assign (evv rfl)) rfl rfl ?_
  refine o_nil ?_
  refine c_code ?_
  rw [four_bs n hn]
  first | refine r_ret (rs := [.tmp 2]) rfl rfl _ (Ent.refl _) ?_ | refine c_end (rs := [.tmp 2]) rfl rfl _ (Ent.refl _) ?_
  rfl
theorem rCheck_c (L : List Atom) (v : Value) (b : List UInt8) [rd : Rd L v (mrow by8 5 b)] :
    Fn Try.prog 22 [v] L fun w L' => w = .int .u32 (crc b : Int) ∧ L' = L := by
  refine fn_lenM rd fun hbl => ?_
  have hbl : b.length ≤ 2 ^ 63 - 1 := hbl
  refine fn_intro Try.func22 rfl Try.ntmps22 rfl (fun W0 => ?_)
  simp only [argE]
  refine r_seq ?_
  refine r_region (id := 0) ?_
  refine o_give (g_assign (evv rfl)) rfl rfl ?_
  refine o_nil ?_
  refine c_code ?_
  refine r_seq ?_
  refine r_region (id := 1) ?_
  refine o_give (g_assign (evv rfl)) rfl rfl ?_
  refine o_nil ?_
  refine c_code ?_
  refine r_seq ?_
  refine r_seq ?_
  refine r_region (id := 2) ?_
  refine o_give (g_assign (evv rfl)) rfl rfl ?_
  refine o_nil ?_
  refine c_code ?_
  refine r_block ?_
  refine r_loopE (σ := Nat × Nat) (fun ⟨i, s⟩ => i ≤ b.length ∧ s = crcGo 4294967295 (b.take i)) (fun ⟨i, s⟩ => b.length - i) (fun ⟨i, s⟩ => [(3, .v (.int .u32 (s : Int))), (4, .v (.int .i64 i))]) [0] (fun ⟨i, s⟩ => L) (0, 4294967295) (by dsimp only [pickE, pick1, lk2, Nat.reduceBEq, Nat.reduceAdd, Nat.zero_add, cond_true, cond_false] <;> exact rfl) ?_ (by repeat (first | exact trivial | refine ⟨rfl, ?_⟩ | refine envsub_v rfl (by first | rfl | (refine int_eq ?_; first | omega | (simp; omega) | (simp; done)) | (refine bool_eq ?_; first | (simp [*]; done) | (simp; done)) | (refine str_eq ?_; simp; done) | (refine ptr_eq ?_; omega) | fail) ?_)) ?_ ?_
  · exact ⟨Nat.zero_le _, rfl⟩
  · exact Ent.refl _
  rintro ⟨i, s⟩ ⟨hi, hs⟩; dsimp only [List.cons_append, List.nil_append]
  have hs32 : s < 4294967296 := by rw [hs]; exact crcGo_lt (by decide)
  refine r_seq ?_
  refine r_seq ?_
  refine r_region (id := 3) ?_
  refine o_give (g_move (evv rfl)) rfl rfl ?_
  refine o_give (g_move (evv rfl)) rfl rfl ?_
  refine o_give (g_lenM (evv rfl)) rfl rfl ?_
  refine o_give (g_bin (evv rfl) (evv rfl) (by rfl)) rfl rfl ?_
  refine o_nil ?_
  refine c_code ?_
  refine r_cond rfl (fun hc => ?_) (fun hc => ?_) <;> (try simp only [decide_eq_true_eq, decide_eq_false_iff_not, Bool.and_eq_true, Bool.or_eq_true, Bool.not_eq_true', Bool.and_eq_false_iff, Bool.or_eq_false_iff, Bool.not_eq_false', Bool.not_eq_true, Bool.not_eq_false, Bool.true_eq_false, Bool.false_eq_true, Int.not_lt, Int.not_le, not_and, not_or, ne_eq] at hc)
  · have hi1 : i < b.length := by omega
    have hstep : crcGo 4294967295 (b.take (i + 1)) = crcByte s (b.getD i default) := by
      rw [List.take_succ_eq_append_getElem hi1, crcGo_app, ← hs]
      simp [hi1, crcGo]
    have hc8 := (b.getD i default).toNat_lt
    have e0 : ((s : Int).toNat ^^^ (((b.getD i default).toNat : Nat) : Int).toNat) = s ^^^ (b.getD i default).toNat := rfl
    have hx : s ^^^ (b.getD i default).toNat < 4294967296 := Nat.xor_lt_two_pow (n := 32) hs32 (by omega)
    refine r_skip ?_
    refine c_code ?_
    refine r_seq ?_
    refine r_block ?_
    refine r_seq ?_
    refine r_region (id := 5) ?_
    refine o_give (g_move (evv rfl)) rfl rfl ?_
    refine o_give (g_move (evv rfl)) rfl rfl ?_
    refine o_give (g_move (evv rfl)) rfl rfl ?_
    refine o_give (g_idxMN (evv rfl) (evv rfl) (by rfl) (by first | omega | (have := of_decide_eq_true hg; omega) | (simp at hg; omega) | (simp only [List.length_set, List.length_append, List.length_cons, List.length_nil, List.length_map, List.length_take, List.length_drop, List.length_replicate]; omega))) rfl rfl ?_
    refine o_give (g_loadM (evv rfl) (by rfl) (by first | omega | (have := of_decide_eq_true hg; omega) | (simp at hg; omega) | (simp only [List.length_set, List.length_append, List.length_cons, List.length_nil, List.length_map, List.length_take, List.length_drop, List.length_replicate]; omega))) rfl rfl ?_
    refine o_giveN (g_conv TyU.h TyU.h (evv rfl)) (by simp only [inR]; omega) rfl ?_
    refine o_give (g_bits (evv rfl) (evv rfl) (by rfl) (by omega) (by omega) (by omega) (by omega)) rfl rfl ?_
    refine o_give (g_assign (evv rfl)) rfl rfl ?_
    refine o_nil ?_
    refine c_code ?_
    refine r_seq ?_
    refine r_region (id := 6) ?_
    refine o_give (g_assign (evv rfl)) rfl rfl ?_
    refine o_nil ?_
    refine c_code ?_
    refine r_block ?_
    rw [e0]
    refine r_loopE (σ := Nat × Nat) (fun ⟨q, z⟩ => q ≤ 8 ∧ crcBits (8 - q) z = crcByte s (b.getD i default) ∧ z < 4294967296) (fun ⟨q, z⟩ => 8 - q) (fun ⟨q, z⟩ => [(3, .v (.int .u32 (z : Int))), (5, .v (.int .i64 q))]) [0, 4] (fun ⟨q, z⟩ => L) (0, s ^^^ (b.getD i default).toNat) (by dsimp only [pickE, pick1, lk2, Nat.reduceBEq, Nat.reduceAdd, Nat.zero_add, cond_true, cond_false] <;> exact rfl) ?_ (by repeat (first | exact trivial | refine ⟨rfl, ?_⟩ | refine envsub_v rfl (by first | rfl | (refine int_eq ?_; first | omega | (simp; omega) | (simp; done)) | (refine bool_eq ?_; first | (simp [*]; done) | (simp; done)) | (refine str_eq ?_; simp; done) | (refine ptr_eq ?_; omega) | fail) ?_)) ?_ ?_
    · exact ⟨Nat.zero_le _, rfl, hx⟩
    · exact Ent.refl _
    rintro ⟨q, z⟩ ⟨hq, hz, hz32⟩; dsimp only [List.cons_append, List.nil_append]
    refine r_seq ?_
    refine r_seq ?_
    refine r_region (id := 7) ?_
    refine o_give (g_move (evv rfl)) rfl rfl ?_
    refine o_give (g_bin (evv rfl) (evv rfl) (by rfl)) rfl rfl ?_
    refine o_nil ?_
    refine c_code ?_
    refine r_cond rfl (fun hd => ?_) (fun hd => ?_) <;> (try simp only [decide_eq_true_eq, decide_eq_false_iff_not, Bool.and_eq_true, Bool.or_eq_true, Bool.not_eq_true', Bool.and_eq_false_iff, Bool.or_eq_false_iff, Bool.not_eq_false', Bool.not_eq_true, Bool.not_eq_false, Bool.true_eq_false, Bool.false_eq_true, Int.not_lt, Int.not_le, not_and, not_or, ne_eq] at hd)
    · have hzn := crcBit_lt hz32
      have hstep2 : crcBits (8 - (q + 1)) (crcBit z) = crcByte s (b.getD i default) := by
        rw [← hz, show 8 - q = (8 - (q + 1)) + 1 by omega]; rfl
      refine r_skip ?_
      refine c_code ?_
      refine r_seq ?_
      refine r_block ?_
      refine r_seq ?_
      refine r_region (id := 9) ?_
      refine o_give (g_move (evv rfl)) rfl rfl ?_
      refine o_give (g_remP (evv rfl) (evv rfl) (by omega) (by omega)) rfl rfl ?_
      refine o_give (g_bin (evv rfl) (evv rfl) (by rfl)) rfl rfl ?_
      refine o_give (g_assign (evv rfl)) rfl rfl ?_
      refine o_nil ?_
      refine c_code ?_
      refine r_seq ?_
      refine r_region (id := 10) ?_
      refine o_give (g_move (evv rfl)) rfl rfl ?_
      refine o_giveN (g_quoP (evv rfl) (evv rfl) (by omega) (by omega)) (by simp only [inR]; omega) rfl ?_
      refine o_give (g_assign (evv rfl)) rfl rfl ?_
      refine o_nil ?_
      refine c_code ?_
      refine r_seq ?_
      refine r_region (id := 11) ?_
      refine o_give (g_move (evv rfl)) rfl rfl ?_
      refine o_nil ?_
      refine c_code ?_
      refine r_cond rfl (fun ho => ?_) (fun ho => ?_) <;> (try simp only [decide_eq_true_eq, decide_eq_false_iff_not, Bool.and_eq_true, Bool.or_eq_true, Bool.not_eq_true', Bool.and_eq_false_iff, Bool.or_eq_false_iff, Bool.not_eq_false', Bool.not_eq_true, Bool.not_eq_false, Bool.true_eq_false, Bool.false_eq_true, Int.not_lt, Int.not_le, not_and, not_or, ne_eq] at ho)
      · have ez : crcBit z = z / 2 ^^^ 3988292384 := by rw [crcBit, if_pos (by omega)]
        have e3 : (((z : Int) / 2).toNat ^^^ Int.toNat 3988292384) = crcBit z := by
          rw [ez, show ((z : Int) / 2).toNat = z / 2 by omega]; rfl
        refine r_region (id := 12) ?_
        refine o_give (g_move (evv rfl)) rfl rfl ?_
        refine o_give (g_bits (evv rfl) (evv rfl) (by rfl) (by omega) (by omega) (by omega) (by omega)) rfl rfl ?_
        refine o_give (g_assign (evv rfl)) rfl rfl ?_
        refine o_nil ?_
        refine c_blk ?_
        refine c_code ?_
        rw [e3]
        refine r_region (id := 8) ?_
        refine o_give (g_move (evv rfl)) rfl rfl ?_
        refine o_giveN (g_bin (evv rfl) (evv rfl) (by rfl)) (by simp only [inR]; omega) rfl ?_
        refine o_give (g_assign (evv rfl)) rfl rfl ?_
        refine o_nil ?_
        refine c_loop (q + 1, crcBit z) ?_ ?_ (by repeat (first | exact trivial | refine ⟨rfl, ?_⟩ | refine envsub_v rfl (by first | rfl | (refine int_eq ?_; first | omega | (simp; omega) | (simp; done)) | (refine bool_eq ?_; first | (simp [*]; done) | (simp; done)) | (refine str_eq ?_; simp; done) | (refine ptr_eq ?_; omega) | fail) ?_)) ?_ <;> (try dsimp only)
        · exact ⟨by omega, hstep2, hzn⟩
        · omega
        · exact Ent.refl _
      · have ez : crcBit z = z / 2 := by rw [crcBit, if_neg (by omega)]
        have e3 : (z : Int) / 2 = ((crcBit z : Nat) : Int) := by rw [ez]; omega
        rw [e3]
        refine r_skip ?_
        refine c_blk ?_
        refine c_code ?_
        refine r_region (id := 8) ?_
        refine o_give (g_move (evv rfl)) rfl rfl ?_
        refine o_giveN (g_bin (evv rfl) (evv rfl) (by rfl)) (by simp only [inR]; omega) rfl ?_
        refine o_give (g_assign (evv rfl)) rfl rfl ?_
        refine o_nil ?_
        refine c_loop (q + 1, crcBit z) ?_ ?_ (by repeat (first | exact trivial | refine ⟨rfl, ?_⟩ | refine envsub_v rfl (by first | rfl | (refine int_eq ?_; first | omega | (simp; omega) | (simp; done)) | (refine bool_eq ?_; first | (simp [*]; done) | (simp; done)) | (refine str_eq ?_; simp; done) | (refine ptr_eq ?_; omega) | fail) ?_)) ?_ <;> (try dsimp only)
        · exact ⟨by omega, hstep2, hzn⟩
        · omega
        · exact Ent.refl _
    · have e8 : q = 8 := by omega
      subst e8
      have hz' : z = crcByte s (b.getD i default) := hz
      refine r_exit rfl ?_
      refine c_blk ?_
      refine c_code ?_
      refine r_region (id := 4) ?_
      refine o_give (g_move (evv rfl)) rfl rfl ?_
      refine o_giveN (g_bin (evv rfl) (evv rfl) (by rfl)) (by simp only [inR]; omega) rfl ?_
      refine o_give (g_assign (evv rfl)) rfl rfl ?_
      refine o_nil ?_
      refine c_loop (i + 1, z) ?_ ?_ (by repeat (first | exact trivial | refine ⟨rfl, ?_⟩ | refine envsub_v rfl (by first | rfl | (refine int_eq ?_; first | omega | (simp; omega) | (simp; done)) | (refine bool_eq ?_; first | (simp [*]; done) | (simp; done)) | (refine str_eq ?_; simp; done) | (refine ptr_eq ?_; omega) | fail) ?_)) ?_ <;> (try dsimp only)
      · exact ⟨by omega, by rw [hz', hstep]⟩
      · omega
      · exact Ent.refl _
  · refine r_exit rfl ?_
    refine c_code ?_
    refine r_seq ?_
    refine r_region (id := 13) ?_
    refine o_give (g_move (evv rfl)) rfl rfl ?_
    refine o_give (g_bits (evv rfl) (evv rfl) (by rfl) (by omega) (by omega) (by omega) (by omega)) rfl rfl ?_
    refine o_give (g_assign (evv rfl)) rfl rfl ?_
    refine o_nil ?_
    refine c_code ?_
    first | refine r_ret (rs := [.tmp 2]) rfl rfl _ (Ent.refl _) ?_ | refine c_end (rs := [.tmp 2]) rfl rfl _ (Ent.refl _) ?_
    refine ⟨?_, rfl⟩
    have : s = crcGo 4294967295 b := by rw [hs, List.take_of_length_le (by omega)]
    subst this
    rfl
theorem rFrame_c (L : List Atom) (v : Value) (p : List UInt8) (hp : p.length ≤ 1048576) [rd : Rd L v (mrow by8 5 p)] :
    Fn Try.prog 16 [v] L fun w L' => ∃ f, w = .tuple #[f, .int .i64 (frR p).2] ∧ L' = sl f (mrow by8 5 (frR p).1) :: L := by
  refine fn_intro Try.func16 rfl Try.ntmps16 rfl (fun W0 => ?_)
  simp only [argE]
  refine r_seq ?_
  refine r_region (id := 0) ?_
  refine o_give (g_assign (evv rfl)) rfl rfl ?_
  refine o_give (g_assign (evv rfl)) rfl rfl ?_
  refine o_nil ?_
  refine c_code ?_
  refine r_seq ?_
  refine r_seq ?_
  refine r_region (id := 1) ?_
  refine o_give (g_move (evv rfl)) rfl rfl ?_
  refine o_give (g_lenM (evv rfl)) rfl rfl ?_
  refine o_give (g_bin (evv rfl) (evv rfl) (by rfl)) rfl rfl ?_
  refine o_nil ?_
  refine c_code ?_
  refine r_cond rfl (fun hc => ?_) (fun hc => ?_) <;> (try simp only [decide_eq_true_eq, decide_eq_false_iff_not, Bool.and_eq_true, Bool.or_eq_true, Bool.not_eq_true', Bool.and_eq_false_iff, Bool.or_eq_false_iff, Bool.not_eq_false', Bool.not_eq_true, Bool.not_eq_false, Bool.true_eq_false, Bool.false_eq_true, Int.not_lt, Int.not_le, not_and, not_or, ne_eq] at hc)
  · rw [show frR p = ([], 2) from if_pos (by omega)]
    refine r_seq ?_
    refine r_region (id := 2) ?_
    refine o_give (g_assign (evv rfl)) rfl rfl ?_
    refine o_give (g_assign (evv rfl)) rfl rfl ?_
    refine o_nil ?_
    refine c_code ?_
    first | refine r_ret (rs := [.tmp 2, .tmp 3]) rfl rfl _ ((Ent.nilM by8 5)) ?_ | refine c_end (rs := [.tmp 2, .tmp 3]) rfl rfl _ ((Ent.nilM by8 5)) ?_
    exact ⟨_, rfl, rfl⟩
  · rw [show frR p = (frameB p, 0) from if_neg (by omega)]
    have h4 : (fourB p.length).length = 4 := rfl
    have h5 : ∀ n, (fourB n).length = 4 := fun _ => rfl
    have h6 := h5 (crc (fourB p.length ++ p))
    refine r_skip ?_
    refine c_code ?_
    refine r_seq ?_
    refine r_region (id := 3) ?_
    refine o_give (g_move (evv rfl)) rfl rfl ?_
    refine o_give (g_lenM (evv rfl)) rfl rfl ?_
    refine o_giveN (g_conv TyU.h TyU.h (evv rfl)) (by simp only [inR]; omega) rfl ?_
    (refine o_call rfl _ (Ent.refl _) (rFour_c _ _ (by first | assumption | exact crc_lt _ | omega)) rfl ?_; rintro fv _ rfl)
    refine o_give (g_assign (evv rfl)) rfl rfl ?_
    refine o_nil ?_
    refine c_code ?_
    refine r_seq ?_
    refine r_region (id := 4) ?_
    refine o_give (g_move (evv rfl)) rfl rfl ?_
    refine o_give (g_move (evv rfl)) rfl rfl ?_
    refine o_appM (evv rfl) (evv rfl) (by rfl) (by rfl) (by rfl) (by (try simp only [bsOf, List.length_append, List.length_cons, List.length_nil]); omega) rfl (fun _ => ?_)
    refine o_give (g_assign (evv rfl)) rfl rfl ?_
    refine o_nil ?_
    refine c_code ?_
    refine r_seq ?_
    refine r_region (id := 5) ?_
    refine o_give (g_move (evv rfl)) rfl rfl ?_
    (refine o_call rfl _ (Ent.refl _) (rCheck_c _ _ _) rfl ?_; rintro _ _ ⟨rfl, hLz⟩; obtain rfl := hLz.symm; clear hLz)
    refine o_give (g_assign (evv rfl)) rfl rfl ?_
    refine o_nil ?_
    refine c_code ?_
    refine r_seq ?_
    refine r_region (id := 6) ?_
    refine o_give (g_move (evv rfl)) rfl rfl ?_
    refine o_give (g_move (evv rfl)) rfl rfl ?_
    (refine o_call rfl _ (Ent.refl _) (rFour_c _ _ (by first | assumption | exact crc_lt _ | omega)) rfl ?_; rintro fv _ rfl)
    refine o_appM (evv rfl) (evv rfl) (by rfl) (by rfl) (by rfl) (by (try simp only [bsOf, List.length_append, List.length_cons, List.length_nil]); omega) rfl (fun _ => ?_)
    refine o_give (g_assign (evv rfl)) rfl rfl ?_
    refine o_give (g_assign (evv rfl)) rfl rfl ?_
    refine o_nil ?_
    refine c_code ?_
    rename_i f1 f2
    rw [show fourB p.length ++ p ++ fourB (crc (fourB p.length ++ p)) = frameB p from rfl]
    first | refine r_ret (rs := [.tmp 2, .tmp 3]) rfl rfl _ ((Lay.ent (L' := sl f2 (mrow by8 5 (frameB p)) :: L))) ?_ | refine c_end (rs := [.tmp 2, .tmp 3]) rfl rfl _ ((Lay.ent (L' := sl f2 (mrow by8 5 (frameB p)) :: L))) ?_
    exact ⟨_, rfl, rfl⟩
end VK
