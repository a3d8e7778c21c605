/- The reference's bytes of numbers, texts and flags. Conditions: room for the bytes. -/
import Derived.Test.YtmjmlmjcfekphaaOut
namespace VK
open Go Go.Proofs
set_option linter.unusedSimpArgs false
set_option linter.unusedVariables false
set_option maxRecDepth 100000
set_option maxHeartbeats 40000000

theorem rNum_c (L : List Atom) (n : Nat) (hn : n ≤ 18446744073709551615) :
    Fn Try.prog 42 [.int .u64 n] L fun v L' => True ∧ L' = sl v (mrow by8 5 (num n)) :: L := by
  refine fn_intro Try.func42 rfl Try.ntmps42 rfl (fun W0 => ?_)
  simp only [argE]
  refine r_seq ?_
  refine r_region (id := 0) ?_
  refine o_give (g_assign (evv rfl)) rfl rfl ?_
  refine o_nil ?_
  refine c_code ?_
  refine r_seq ?_
  refine r_region (id := 1) ?_
  refine o_give (g_assign (evv rfl)) rfl rfl ?_
  refine o_nil ?_
  refine c_code ?_
  refine r_seq ?_
  refine r_block ?_
  refine r_ent _ (Ent.nilM by8 5) ?_
  refine r_loop (σ := Nat × List UInt8 × Value) (fun s => RowKit.Hid (s.2.1 ++ num s.1 = num n) ∧ s.1 ≤ 18446744073709551615) (fun s => s.1) (fun s => [(0, .v (.int .u64 s.1)), (3, .v s.2.2)]) (fun s => sl s.2.2 (mrow by8 5 s.2.1) :: L) (n, [], .slice none 0 0) ⟨rfl, hn⟩ ⟨rfl, rfl, trivial⟩ (Ent.refl _) ?_
  rintro ⟨m, ys, u⟩ ⟨h1, h2⟩
  have hl := num_le n hn
  have hp := num_pos m
  have hlen := congrArg List.length h1.out
  simp only [List.length_append] at hlen
  dsimp only at h1 h2 ⊢
  refine r_seq ?_
  refine r_seq ?_
  refine r_region (id := 2) ?_
  refine o_give (g_move (evv rfl)) rfl rfl ?_
  refine o_give (g_bin (evv rfl) (evv rfl) (by rfl)) rfl rfl ?_
  refine o_nil ?_
  refine c_code ?_
  refine r_cond rfl (fun hc => ?_) (fun hc => ?_)
  · have hc := of_decide_eq_true hc
    refine r_skip ?_
    refine c_code ?_
    refine r_block ?_
    refine r_seq ?_
    refine r_region (id := 3) ?_
    refine o_give (g_move (evv rfl)) rfl rfl ?_
    refine o_give (g_move (evv rfl)) rfl rfl ?_
    refine o_give (g_remP (evv rfl) (evv rfl) (by omega) (by omega)) rfl rfl ?_
    refine o_giveN (g_bin (evv rfl) (evv rfl) (by rfl)) (by simp only [inR]; omega) rfl ?_
    refine o_giveN (g_conv TyU.h TyU.h (evv rfl)) (by simp only [inR]; omega) rfl ?_
    refine o_litB rfl (by rfl) (by omega) (by first | omega | exact Int.ofNat_le.2 (Nat.le_of_lt_succ (Nat.or_lt_two_pow (n := 8) (by omega) (by omega))) | exact Int.ofNat_le.2 (Nat.le_of_lt_succ (Nat.xor_lt_two_pow (n := 8) (by omega) (by omega)))) rfl (fun _ => ?_)
    refine o_appM (evv rfl) (evv rfl) (by rfl) (by rfl) (by rfl) (by (try simp only [bsOf, List.length_append, List.length_cons, List.length_nil, List.length_take, List.length_drop, List.length_map, List.length_range]); omega) rfl (fun _ => ?_)
    refine o_give (g_assign (evv rfl)) rfl rfl ?_
    refine o_nil ?_
    refine c_code ?_
    refine r_region (id := 4) ?_
    refine o_give (g_move (evv rfl)) rfl rfl ?_
    refine o_giveN (g_quoP (evv rfl) (evv rfl) (by omega) (by omega)) (by simp only [inR]; omega) rfl ?_
    refine o_give (g_assign (evv rfl)) rfl rfl ?_
    refine o_nil ?_
    refine c_blk ?_
    rename_i v1 v2
    refine c_loop (m / 128, ys ++ [UInt8.ofNat (m % 128 + 128)], v2) ⟨?_, by dsimp only; omega⟩ (by dsimp only; omega) ⟨?_, rfl, trivial⟩ ?_
    · show _ = _
      rw [← h1.out, num_big (by omega : 127 < m)]; simp
    · exact congrArg some (congrArg EV.v (congrArg (Value.int .u64) (by dsimp only; omega)))
    · have e : (((m : Int) % 128 + 128) % 256).toNat = m % 128 + 128 := by omega
      first | rw [e] | (have e2 : ((m : Int) % 128 + 128).toNat = m % 128 + 128 := by omega
                        rw [e2])
      exact Ent.drop
  · have hc := of_decide_eq_false hc
    refine r_exit rfl ?_
    refine c_code ?_
    refine r_seq ?_
    refine r_region (id := 5) ?_
    refine o_give (g_move (evv rfl)) rfl rfl ?_
    refine o_give (g_move (evv rfl)) rfl rfl ?_
    refine o_giveN (g_conv TyU.h TyU.h (evv rfl)) (by simp only [inR]; omega) rfl ?_
    refine o_litB rfl (by rfl) (by omega) (by first | omega | exact Int.ofNat_le.2 (Nat.le_of_lt_succ (Nat.or_lt_two_pow (n := 8) (by omega) (by omega))) | exact Int.ofNat_le.2 (Nat.le_of_lt_succ (Nat.xor_lt_two_pow (n := 8) (by omega) (by omega)))) rfl (fun _ => ?_)
    refine o_appM (evv rfl) (evv rfl) (by rfl) (by rfl) (by rfl) (by (try simp only [bsOf, List.length_append, List.length_cons, List.length_nil, List.length_take, List.length_drop, List.length_map, List.length_range]); omega) rfl (fun _ => ?_)
    refine o_give (g_assign (evv rfl)) rfl rfl ?_
    refine o_nil ?_
    refine c_code ?_
    rename_i v1 v2
    refine r_ret (rs := [.tmp 2]) rfl rfl _ ?_ ⟨trivial, rfl⟩
    have : num m = [UInt8.ofNat (m : Int).toNat] := by rw [num_small (by omega)]; rfl
    rw [← h1.out, this]
    exact Ent.drop
theorem rNum_l {L : List Atom} (z : Int) (hn : 0 ≤ z ∧ z ≤ 18446744073709551615) : Fn Try.prog 42 [.int .u64 z] L fun v L' => True ∧ L' = sl v (mrow by8 5 (num z.toNat)) :: L := by
  have h := rNum_c L z.toNat (by omega)
  rwa [Int.toNat_of_nonneg hn.1] at h
theorem rInt_c (L : List Atom) (n : Int) (h0 : -9223372036854775808 ≤ n ∧ n ≤ 9223372036854775807) :
    Fn Try.prog 33 [.int .i64 n] L fun v L' => True ∧ L' = sl v (mrow by8 5 (intB n)) :: L := by
  refine fn_intro Try.func33 rfl Try.ntmps33 rfl (fun W0 => ?_)
  simp only [argE]
  by_cases h : 0 ≤ n
  · have hd : decide (0 ≤ n) = true := decide_eq_true h
    refine r_seq ?_
    refine r_region (id := 0) ?_
    refine o_give (g_assign (evv rfl)) rfl rfl ?_
    refine o_nil ?_
    refine c_code ?_
    refine r_seq ?_
    refine r_seq ?_
    refine r_region (id := 1) ?_
    refine o_give (g_move (evv rfl)) rfl rfl ?_
    refine o_give (g_bin (evv rfl) (evv rfl) (by rfl)) rfl rfl ?_
    refine o_nil ?_
    refine c_code ?_
    refine r_cond rfl (fun _ => ?_) (fun hc => absurd h (of_decide_eq_false hc))
    refine r_seq ?_
    refine r_region (id := 2) ?_
    refine o_give (g_move (evv rfl)) rfl rfl ?_
    refine o_giveN (g_conv TyU.h TyU.h (evv rfl)) (by simp only [inR]; omega) rfl ?_
    refine o_giveN (g_bin (evv rfl) (evv rfl) (by rfl)) (by simp only [inR]; omega) rfl ?_
    (refine o_call rfl _ (Ent.refl _) (rNum_l _ (by omega)) rfl ?_; rintro _ _ ⟨_, rfl⟩; (try simp only [Int.toNat_natCast]))
    refine o_give (g_assign (evv rfl)) rfl rfl ?_
    refine o_nil ?_
    refine c_code ?_
    refine r_ret (rs := [.tmp 2]) rfl rfl _ (Ent.refl _) ⟨trivial, ?_⟩
    rw [intB, zig, if_pos h]; rfl
  · refine r_seq ?_
    refine r_region (id := 0) ?_
    refine o_give (g_assign (evv rfl)) rfl rfl ?_
    refine o_nil ?_
    refine c_code ?_
    refine r_seq ?_
    refine r_seq ?_
    refine r_region (id := 1) ?_
    refine o_give (g_move (evv rfl)) rfl rfl ?_
    refine o_give (g_bin (evv rfl) (evv rfl) (by rfl)) rfl rfl ?_
    refine o_nil ?_
    refine c_code ?_
    refine r_cond rfl (fun hc => absurd (of_decide_eq_true hc) h) (fun _ => ?_)
    refine r_skip ?_
    refine c_code ?_
    refine r_seq ?_
    refine r_region (id := 3) ?_
    refine o_give (g_move (evv rfl)) rfl rfl ?_
    refine o_giveN (g_bin (evv rfl) (evv rfl) (by rfl)) (by simp only [inR]; omega) rfl ?_
    refine o_giveN (g_neg (evv rfl)) (by simp only [inR]; omega) rfl ?_
    refine o_giveN (g_conv TyU.h TyU.h (evv rfl)) (by simp only [inR]; omega) rfl ?_
    refine o_giveN (g_bin (evv rfl) (evv rfl) (by rfl)) (by simp only [inR]; omega) rfl ?_
    refine o_giveN (g_bin (evv rfl) (evv rfl) (by rfl)) (by simp only [inR]; omega) rfl ?_
    (refine o_call rfl _ (Ent.refl _) (rNum_l _ (by omega)) rfl ?_; rintro _ _ ⟨_, rfl⟩; (try simp only [Int.toNat_natCast]))
    refine o_give (g_assign (evv rfl)) rfl rfl ?_
    refine o_nil ?_
    refine c_code ?_
    refine r_ret (rs := [.tmp 2]) rfl rfl _ (Ent.refl _) ⟨trivial, ?_⟩
    rw [intB, zig, if_neg h, show -2 * n - 1 = 2 * (0 - (n + 1)) + 1 by omega]; rfl
theorem rText_c (L : List Atom) (s : List UInt8) (h : s.length ≤ 140737488355000) :
    Fn Try.prog 34 [str s] L fun v L' => True ∧ L' = sl v (mrow by8 5 (textB s)) :: L := by
  refine fn_intro Try.func34 rfl Try.ntmps34 rfl (fun W0 => ?_)
  simp only [argE]
  have hl := num_le s.length (by omega)
  refine r_seq ?_
  refine r_region (id := 0) ?_
  refine o_give (g_assign (evv rfl)) rfl rfl ?_
  refine o_nil ?_
  refine c_code ?_
  refine r_seq ?_
  refine r_region (id := 1) ?_
  refine o_give (g_move (evv rfl)) rfl rfl ?_
  refine o_give (g_lenS TyU.h (evv rfl)) rfl rfl ?_
  refine o_giveN (g_conv TyU.h TyU.h (evv rfl)) (by simp only [inR]; omega) rfl ?_
  (refine o_call rfl _ (Ent.refl _) (rNum_l _ (by omega)) rfl ?_; rintro _ _ ⟨_, rfl⟩; (try simp only [Int.toNat_natCast]))
  refine o_give (g_move (evv rfl)) rfl rfl ?_
  refine o_appSM (evv rfl) (evv rfl) (by rfl) (by rfl) (by rfl) (by (try simp only [bsOf, List.length_append, List.length_cons, List.length_nil, List.length_take, List.length_drop, List.length_map, List.length_range]); omega) rfl (fun _ => ?_)
  refine o_give (g_assign (evv rfl)) rfl rfl ?_
  refine o_nil ?_
  refine c_code ?_
  exact r_ret (rs := [.tmp 2]) rfl rfl _ (Ent.refl _) ⟨trivial, rfl⟩
end VK
