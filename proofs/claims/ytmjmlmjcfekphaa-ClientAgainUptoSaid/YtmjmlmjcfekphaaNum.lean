/- The bytes of a number: what Out.Num appends. Conditions: room for them. -/
import Derived.Test.YtmjmlmjcfekphaaT
namespace VK
open Go Go.Proofs
set_option linter.unusedSimpArgs false
set_option linter.unusedVariables false
set_option maxRecDepth 100000
set_option maxHeartbeats 40000000

/-- a number's bytes, seven bits each -/
def num (n : Nat) : List UInt8 := if h : 127 < n then UInt8.ofNat (n % 128 + 128) :: num (n / 128) else [UInt8.ofNat n]
termination_by n
theorem num_big {n : Nat} (h : 127 < n) : num n = UInt8.ofNat (n % 128 + 128) :: num (n / 128) := by rw [num]; simp [h]
theorem num_small {n : Nat} (h : ¬ 127 < n) : num n = [UInt8.ofNat n] := by rw [num]; simp [h]

def outA (o : Nat) (xs : List UInt8) : Atom := exA fun v : Value => [blk o ⟨[v], 79⟩, sl v (mrow by8 5 xs)]

theorem num_le (n : Nat) (h : n ≤ 18446744073709551615) : (num n).length ≤ 10 := by
  have key : ∀ (q : Nat) (n : Nat), n < 128 ^ (q + 1) → (num n).length ≤ q + 1 := by
    intro q
    induction q with
    | zero => intro n h; rw [num_small (by omega)]; simp
    | succ q ih =>
      intro n h
      by_cases hb : 127 < n
      · rw [num_big hb]
        have := ih (n / 128) (by rw [Nat.div_lt_iff_lt_mul (by omega)]; rw [← Nat.pow_succ]; exact h)
        simp; omega
      · rw [num_small hb]; simp
  exact key 9 n (Nat.lt_of_le_of_lt h (by decide))
theorem num_pos (n : Nat) : 1 ≤ (num n).length := by
  by_cases hb : 127 < n
  · rw [num_big hb]; simp
  · rw [num_small hb]; simp
theorem or128 (n : Nat) : UInt8.ofNat (((((n : Int) % 256).toNat ||| Int.toNat 128 : Nat) : Int)).toNat = UInt8.ofNat (n % 128 + 128) := by
  have h : ∀ m, m < 256 → UInt8.ofNat (m ||| 128) = UInt8.ofNat (m % 128 + 128) := by decide
  have e1 : ((n : Int) % 256).toNat = n % 256 := by omega
  have e2 : Int.toNat 128 = 128 := rfl
  rw [Int.toNat_natCast, e1, e2, h _ (by omega)]
  congr 2
  omega
theorem Num_c (F : List Atom) (o : Nat) (xs : List UInt8) (n : Nat) (hn : n ≤ 18446744073709551615) (hx : xs.length ≤ 140737488355000) :
    Fn Try.prog 41 [.pointer (some ⟨o, 0, none⟩), .int .u64 n] (outA o xs :: F) fun v L' => v = .tuple #[] ∧ L' = outA o (xs ++ num n) :: F := by
  refine Fn.exA fun v => ?_
  refine fn_intro Try.func41 rfl Try.ntmps41 rfl (fun W0 => ?_)
  simp only [List.cons_append, List.nil_append, argE]
  refine r_seq ?_
  refine r_seq ?_
  refine r_region (id := 0) ?_
  refine o_give (g_move (evv rfl)) rfl rfl ?_
  refine o_give (g_pnil TyU.h (evv rfl) (evv rfl) (by simp) (by rfl)) rfl rfl ?_
  refine o_nil ?_
  refine c_code ?_
  refine r_cond_false rfl ?_
  refine r_skip ?_
  refine c_code ?_
  refine r_seq ?_
  refine r_block ?_
  refine r_loop (σ := Nat × List UInt8 × Value) (fun s => s.2.1 ++ num s.1 = xs ++ num n ∧ s.1 ≤ 18446744073709551615) (fun s => s.1) (fun s => [(0, .v (.pointer (some ⟨o, 0, none⟩))), (1, .v (.int .u64 s.1))]) (fun s => blk o ⟨[s.2.2], 79⟩ :: sl s.2.2 (mrow by8 5 s.2.1) :: F) (n, xs, v) ⟨rfl, hn⟩ ⟨rfl, rfl, trivial⟩ (Ent.refl _) ?_
  rintro ⟨m, ys, u⟩ ⟨h1, h2⟩
  have hl := num_le n hn
  have hp := num_pos m
  have hlen := congrArg List.length h1
  simp only [List.length_append] at hlen
  dsimp only at h1 h2 ⊢
  have h1 : RowKit.Hid (ys ++ num m = xs ++ num n) := h1
  refine r_seq ?_
  refine r_seq ?_
  refine r_region (id := 1) ?_
  refine o_give (g_move (evv rfl)) rfl rfl ?_
  refine o_give (g_bin (evv rfl) (evv rfl) (by rfl)) rfl rfl ?_
  refine o_nil ?_
  refine c_code ?_
  refine r_cond rfl (fun hc => ?_) (fun hc => ?_)
  · have hc := of_decide_eq_true hc
    refine r_skip ?_
    refine c_code ?_
    refine r_seq ?_
    refine r_block ?_
    refine r_region (id := 3) ?_
    refine o_give (g_move (evv rfl)) rfl rfl ?_
    refine o_give (g_move (evv rfl)) rfl rfl ?_
    refine o_give (g_nil (evv rfl)) rfl rfl ?_
    refine o_give (g_fld (evv rfl)) rfl rfl ?_
    refine o_give (g_load (evv rfl) (by rfl) (by rfl)) rfl rfl ?_
    refine o_give (g_move (evv rfl)) rfl rfl ?_
    refine o_giveU (g_conv TyU.h TyU.h (evv rfl)) (by rfl) rfl ?_
    refine o_give (g_bits (evv rfl) (evv rfl) (by rfl) (by omega) (by omega) (by omega) (by omega)) rfl rfl ?_
    refine o_litB rfl (by rfl) (by omega) (by first | omega | exact Int.ofNat_le.2 (Nat.le_of_lt_succ (Nat.or_lt_two_pow (n := 8) (by omega) (by omega))) | exact Int.ofNat_le.2 (Nat.le_of_lt_succ (Nat.xor_lt_two_pow (n := 8) (by omega) (by omega)))) rfl (fun _ => ?_)
    refine o_appM (evv rfl) (evv rfl) (by rfl) (by rfl) (by rfl) (by (try simp only [bsOf, List.length_append, List.length_cons, List.length_nil, List.length_take, List.length_drop, List.length_map, List.length_range]); omega) rfl (fun _ => ?_)
    refine o_give (g_nil (evv rfl)) rfl rfl ?_
    refine o_give (g_fld (evv rfl)) rfl rfl ?_
    refine o_store1 (evv rfl) (evv rfl) (by rfl) (by rfl) (by rfl) ?_
    refine o_nil ?_
    refine c_blk ?_
    refine c_code ?_
    refine r_region (id := 2) ?_
    refine o_give (g_move (evv rfl)) rfl rfl ?_
    refine o_give (g_shrC 128 (evv rfl) (evv rfl) (by rfl) (by decide)) rfl rfl ?_
    refine o_give (g_assign (evv rfl)) rfl rfl ?_
    refine o_nil ?_
    rename_i v1 v2
    refine c_loop (m / 128, ys ++ [UInt8.ofNat (m % 128 + 128)], v2) ⟨?_, by dsimp only; omega⟩ (by dsimp only; omega) ⟨rfl, ?_, trivial⟩ ?_
    · rw [h1.out.symm, num_big (by omega : 127 < m)]; simp
    · rfl
    · rw [or128]
      exact Ent.drop
  · have hc := of_decide_eq_false hc
    refine r_exit rfl ?_
    refine c_code ?_
    refine r_region (id := 4) ?_
    refine o_give (g_move (evv rfl)) rfl rfl ?_
    refine o_give (g_move (evv rfl)) rfl rfl ?_
    refine o_give (g_nil (evv rfl)) rfl rfl ?_
    refine o_give (g_fld (evv rfl)) rfl rfl ?_
    refine o_give (g_load (evv rfl) (by rfl) (by rfl)) rfl rfl ?_
    refine o_give (g_move (evv rfl)) rfl rfl ?_
    refine o_giveN (g_conv TyU.h TyU.h (evv rfl)) (by simp only [inR]; omega) rfl ?_
    refine o_litB rfl (by rfl) (by omega) (by first | omega | exact Int.ofNat_le.2 (Nat.le_of_lt_succ (Nat.or_lt_two_pow (n := 8) (by omega) (by omega))) | exact Int.ofNat_le.2 (Nat.le_of_lt_succ (Nat.xor_lt_two_pow (n := 8) (by omega) (by omega)))) rfl (fun _ => ?_)
    refine o_appM (evv rfl) (evv rfl) (by rfl) (by rfl) (by rfl) (by (try simp only [bsOf, List.length_append, List.length_cons, List.length_nil, List.length_take, List.length_drop, List.length_map, List.length_range]); omega) rfl (fun _ => ?_)
    refine o_give (g_nil (evv rfl)) rfl rfl ?_
    refine o_give (g_fld (evv rfl)) rfl rfl ?_
    refine o_store1 (evv rfl) (evv rfl) (by rfl) (by rfl) (by rfl) ?_
    refine o_nil ?_
    rename_i v1 v2
    refine c_end (rs := []) rfl rfl _ ?_ ⟨rfl, rfl⟩
    have : num m = [UInt8.ofNat (m : Int).toNat] := by rw [num_small (by omega)]; rfl
    rw [← h1.out, this]
    exact Ent.drop.trans (Ent.shut (X := fun v : Value => [blk o ⟨[v], 79⟩, sl v (mrow by8 5 _)]) _)
/-- Out.Num wherever the Out lies -/
theorem Num_l {L : List Atom} {o : Nat} {xs : List UInt8} {g : Atom → List Atom} [pk : Pick (outA o) L xs g] (z : Int) (hn : 0 ≤ z ∧ z ≤ 18446744073709551615) (hx : xs.length ≤ 140737488355000) :
    Fn Try.prog 41 [.pointer (some ⟨o, 0, none⟩), .int .u64 z] L fun v L' => v = .tuple #[] ∧ L' = g (outA o (xs ++ num z.toNat)) := by
  have h := Fn.lift1 (fun F => Num_c F o xs z.toNat (by omega) hx) pk
  rwa [Int.toNat_of_nonneg hn.1] at h
end VK
