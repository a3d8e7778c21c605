/- What the other methods of Out append, and what the reference's functions of the same names give. Conditions: room for the bytes. -/
import Derived.Test.YtmjmlmjcfekphaaNum
namespace VK
open Go Go.Proofs
set_option linter.unusedSimpArgs false
set_option linter.unusedVariables false
set_option maxRecDepth 100000
set_option maxHeartbeats 40000000

theorem Num_nil (L : List Atom) (n : Int) : Fn Try.prog 41 [.pointer none, .int .u64 n] L fun v L' => v = .tuple #[] ∧ L' = L := by
  refine fn_intro Try.func41 rfl Try.ntmps41 rfl (fun W0 => ?_)
  simp only [argE]
  refine r_seq ?_
  refine r_seq ?_
  refine r_region (id := 0) ?_
  refine o_give (g_move (evv rfl)) rfl rfl ?_
  refine o_give (g_pnil TyU.h (evv rfl) (evv rfl) (by simp) (by rfl)) rfl rfl ?_
  refine o_nil ?_
  refine c_code ?_
  refine r_cond_true rfl ?_
  exact r_ret (rs := []) rfl rfl _ (Ent.refl _) ⟨rfl, rfl⟩
theorem Text_nil (L : List Atom) (s : List UInt8) : Fn Try.prog 30 [.pointer none, str s] L fun v L' => v = .tuple #[] ∧ L' = L := by
  refine fn_intro Try.func30 rfl Try.ntmps30 rfl (fun W0 => ?_)
  simp only [argE]
  refine r_seq ?_
  refine r_seq ?_
  refine r_region (id := 0) ?_
  refine o_give (g_move (evv rfl)) rfl rfl ?_
  refine o_give (g_pnil TyU.h (evv rfl) (evv rfl) (by simp) (by rfl)) rfl rfl ?_
  refine o_nil ?_
  refine c_code ?_
  refine r_cond_true rfl ?_
  exact r_ret (rs := []) rfl rfl _ (Ent.refl _) ⟨rfl, rfl⟩
theorem Bytes_nil (L : List Atom) : Fn Try.prog 31 [.pointer none] L fun v L' => v = .slice none 0 0 ∧ L' = L := by
  refine fn_intro Try.func31 rfl Try.ntmps31 rfl (fun W0 => ?_)
  simp only [argE]
  refine r_seq ?_
  refine r_region (id := 0) ?_
  refine o_give (g_assign (evv rfl)) rfl rfl ?_
  refine o_nil ?_
  refine c_code ?_
  refine r_seq ?_
  refine r_seq ?_
  refine r_region (id := 1) ?_
  refine o_give (g_move (evv rfl)) rfl rfl ?_
  refine o_give (g_pnil TyU.h (evv rfl) (evv rfl) (by simp) (by rfl)) rfl rfl ?_
  refine o_nil ?_
  refine c_code ?_
  refine r_cond_true rfl ?_
  refine r_seq ?_
  refine r_region (id := 2) ?_
  refine o_give (g_assign (evv rfl)) rfl rfl ?_
  refine o_nil ?_
  refine c_code ?_
  exact r_ret (rs := [.tmp 2]) rfl rfl _ (Ent.refl _) ⟨rfl, rfl⟩

theorem Bytes_c (F : List Atom) (o : Nat) (xs : List UInt8) (hx : xs.length ≤ 140737488355328) :
    Fn Try.prog 31 [.pointer (some ⟨o, 0, none⟩)] (outA o xs :: F) fun v L' => True ∧ L' = [sl v (mrow by8 5 xs)] ++ outA o xs :: F := by
  refine Fn.exA fun v => ?_
  refine fn_intro Try.func31 rfl Try.ntmps31 rfl (fun W0 => ?_)
  simp only [List.cons_append, List.nil_append, argE]
  refine r_seq ?_
  refine r_region (id := 0) ?_
  refine o_give (g_assign (evv rfl)) rfl rfl ?_
  refine o_nil ?_
  refine c_code ?_
  refine r_seq ?_
  refine r_seq ?_
  refine r_region (id := 1) ?_
  refine o_give (g_move (evv rfl)) rfl rfl ?_
  refine o_give (g_pnil TyU.h (evv rfl) (evv rfl) (by simp) (by rfl)) rfl rfl ?_
  refine o_nil ?_
  refine c_code ?_
  refine r_cond_false rfl ?_
  refine r_skip ?_
  refine c_code ?_
  refine r_seq ?_
  refine r_region (id := 3) ?_
  refine o_give (g_move (evv rfl)) rfl rfl ?_
  refine o_give (g_nil (evv rfl)) rfl rfl ?_
  refine o_give (g_fld (evv rfl)) rfl rfl ?_
  refine o_give (g_load (evv rfl) (by rfl) (by rfl)) rfl rfl ?_
  refine o_nilM by8 5 ?_
  refine o_appM (evv rfl) (evv rfl) (by rfl) (by rfl) (by rfl) (by (try simp only [bsOf, List.length_append, List.length_cons, List.length_nil, List.length_take, List.length_drop, List.length_map, List.length_range]); omega) rfl (fun _ => ?_)
  refine o_give (g_assign (evv rfl)) rfl rfl ?_
  refine o_nil ?_
  refine c_code ?_
  rename_i u
  refine r_ret (rs := [.tmp 2]) rfl rfl _ ?_ ⟨trivial, rfl⟩
  exact Ent.cons (Ent.shut (X := fun v : Value => [blk o ⟨[v], 79⟩, sl v (mrow by8 5 _)]) _)
theorem Bytes_l {L : List Atom} {o : Nat} {xs : List UInt8} {g : Atom → List Atom} [pk : Pick (outA o) L xs g] (hx : xs.length ≤ 140737488355328) :
    Fn Try.prog 31 [.pointer (some ⟨o, 0, none⟩)] L fun v L' => True ∧ L' = sl v (mrow by8 5 xs) :: g (outA o xs) :=
  Fn.liftV (fun F => Bytes_c F o xs hx) pk

def textB (s : List UInt8) : List UInt8 := num s.length ++ s
theorem Text_c (F : List Atom) (o : Nat) (xs s : List UInt8) (hx : xs.length + s.length ≤ 140737488354000) :
    Fn Try.prog 30 [.pointer (some ⟨o, 0, none⟩), str s] (outA o xs :: F) fun v L' => v = .tuple #[] ∧ L' = outA o (xs ++ textB s) :: F := by
  refine fn_intro Try.func30 rfl Try.ntmps30 rfl (fun W0 => ?_)
  simp only [List.cons_append, List.nil_append, argE]
  have hl := num_le s.length (by omega)
  refine r_seq ?_
  refine r_seq ?_
  refine r_region (id := 0) ?_
  refine o_give (g_move (evv rfl)) rfl rfl ?_
  refine o_give (g_pnil TyU.h (evv rfl) (evv rfl) (by simp) (by rfl)) rfl rfl ?_
  refine o_nil ?_
  refine c_code ?_
  refine r_cond_false rfl ?_
  refine r_skip ?_
  refine c_code ?_
  refine r_seq ?_
  refine r_region (id := 1) ?_
  refine o_give (g_move (evv rfl)) rfl rfl ?_
  refine o_give (g_move (evv rfl)) rfl rfl ?_
  refine o_give (g_lenS TyU.h (evv rfl)) rfl rfl ?_
  refine o_giveN (g_conv TyU.h TyU.h (evv rfl)) (by simp only [inR]; omega) rfl ?_
  (refine o_call rfl _ (Ent.refl _) (Num_l _ (by omega) (by (try simp only [bsOf, List.length_append, List.length_cons, List.length_nil]); omega)) rfl ?_; rintro _ _ ⟨rfl, rfl⟩; (try simp only [Int.toNat_natCast]))
  refine o_nil ?_
  refine c_code ?_
  refine r_exA fun v => ?_
  simp only [List.cons_append, List.nil_append]
  refine r_region (id := 2) ?_
  refine o_give (g_move (evv rfl)) rfl rfl ?_
  refine o_give (g_move (evv rfl)) rfl rfl ?_
  refine o_give (g_nil (evv rfl)) rfl rfl ?_
  refine o_give (g_fld (evv rfl)) rfl rfl ?_
  refine o_give (g_load (evv rfl) (by rfl) (by rfl)) rfl rfl ?_
  refine o_give (g_move (evv rfl)) rfl rfl ?_
  refine o_appSM (evv rfl) (evv rfl) (by rfl) (by rfl) (by rfl) (by (try simp only [bsOf, List.length_append, List.length_cons, List.length_nil, List.length_take, List.length_drop, List.length_map, List.length_range]); omega) rfl (fun _ => ?_)
  refine o_give (g_nil (evv rfl)) rfl rfl ?_
  refine o_give (g_fld (evv rfl)) rfl rfl ?_
  refine o_store1 (evv rfl) (evv rfl) (by rfl) (by rfl) (by rfl) ?_
  refine o_nil ?_
  rename_i u
  refine c_end (rs := []) rfl rfl _ ?_ ⟨rfl, rfl⟩
  rw [textB, ← List.append_assoc]
  exact Ent.shut (X := fun v : Value => [blk o ⟨[v], 79⟩, sl v (mrow by8 5 _)]) _
theorem Text_l {L : List Atom} {o : Nat} {xs : List UInt8} {g : Atom → List Atom} [pk : Pick (outA o) L xs g] {s : List UInt8} (hx : xs.length + s.length ≤ 140737488354000) :
    Fn Try.prog 30 [.pointer (some ⟨o, 0, none⟩), str s] L fun v L' => v = .tuple #[] ∧ L' = g (outA o (xs ++ textB s)) :=
  Fn.lift1 (fun F => Text_c F o xs s hx) pk

/-- a number with a sign, as one without -/
def zig (n : Int) : Nat := if 0 ≤ n then (2 * n).toNat else (-2 * n - 1).toNat
theorem xor_ones (a : Nat) (h : a < 2 ^ 64) : a ^^^ (2 ^ 64 - 1) = 2 ^ 64 - 1 - a := by
  have h1 := congrArg BitVec.toNat (BitVec.xor_allOnes (x := BitVec.ofNat 64 a))
  rw [BitVec.toNat_xor, BitVec.toNat_not, BitVec.toNat_allOnes, BitVec.toNat_ofNat, Nat.mod_eq_of_lt h] at h1
  exact h1
theorem zig_bits (n : Int) (h0 : -9223372036854775808 ≤ n) (h1 : n ≤ 9223372036854775807) :
    ((n % 18446744073709551616 * 2 % 18446744073709551616).toNat ^^^ (n / 9223372036854775808 % 18446744073709551616).toNat) = zig n := by
  by_cases h : 0 ≤ n
  · have e1 : n / 9223372036854775808 = 0 := by omega
    rw [e1, zig, if_pos h]
    simp
    omega
  · have e1 : n / 9223372036854775808 = -1 := by omega
    rw [e1, zig, if_neg h]
    have e2 : ((-1 : Int) % 18446744073709551616).toNat = 2 ^ 64 - 1 := by decide
    rw [e2, xor_ones _ (by omega)]
    omega
theorem zig_le (n : Int) (h0 : -9223372036854775808 ≤ n) (h1 : n ≤ 9223372036854775807) : zig n ≤ 18446744073709551615 := by unfold zig; split <;> omega
def intB (n : Int) : List UInt8 := num (zig n)
theorem Int_c (F : List Atom) (o : Nat) (xs : List UInt8) (n : Int) (h0 : -9223372036854775808 ≤ n) (h1 : n ≤ 9223372036854775807) (hx : xs.length ≤ 140737488355000) :
    Fn Try.prog 29 [.pointer (some ⟨o, 0, none⟩), .int .i64 n] (outA o xs :: F) fun v L' => v = .tuple #[] ∧ L' = outA o (xs ++ intB n) :: F := by
  refine fn_intro Try.func29 rfl Try.ntmps29 rfl (fun W0 => ?_)
  simp only [List.cons_append, List.nil_append, argE]
  refine r_region (id := 0) ?_
  refine o_give (g_move (evv rfl)) rfl rfl ?_
  refine o_give (g_move (evv rfl)) rfl rfl ?_
  refine o_giveU (g_conv TyU.h TyU.h (evv rfl)) (by rfl) rfl ?_
  refine o_giveU (g_shlC 2 (evv rfl) (evv rfl) (by rfl) (by decide)) (by rfl) rfl ?_
  refine o_give (g_move (evv rfl)) rfl rfl ?_
  refine o_give (g_shrC 9223372036854775808 (evv rfl) (evv rfl) (by rfl) (by decide)) rfl rfl ?_
  refine o_giveU (g_conv TyU.h TyU.h (evv rfl)) (by rfl) rfl ?_
  refine o_give (g_bits (evv rfl) (evv rfl) (by rfl) (by omega) (by omega) (by omega) (by omega)) rfl rfl ?_
  rw [zig_bits n h0 h1]
  have hz := zig_le n h0 h1
  (refine o_call rfl _ (Ent.refl _) (Num_l _ (by omega) (by (try simp only [bsOf, List.length_append, List.length_cons, List.length_nil]); omega)) rfl ?_; rintro _ _ ⟨rfl, rfl⟩; (try simp only [Int.toNat_natCast]))
  refine o_nil ?_
  exact c_end (rs := []) rfl rfl _ (Ent.refl _) ⟨rfl, rfl⟩
theorem Int_l {L : List Atom} {o : Nat} {xs : List UInt8} {g : Atom → List Atom} [pk : Pick (outA o) L xs g] (n : Int) (h : -9223372036854775808 ≤ n ∧ n ≤ 9223372036854775807) (hx : xs.length ≤ 140737488355000) :
    Fn Try.prog 29 [.pointer (some ⟨o, 0, none⟩), .int .i64 n] L fun v L' => v = .tuple #[] ∧ L' = g (outA o (xs ++ intB n)) :=
  Fn.lift1 (fun F => Int_c F o xs n h.1 h.2 hx) pk

def flagB (b : Bool) : List UInt8 := [if b then 1 else 0]
theorem num01 : num 1 = [1] ∧ num 0 = [0] := by rw [num_small (by omega), num_small (by omega)]; exact ⟨rfl, rfl⟩
end VK
