/- What the reference In reads: its bytes stay, how many of them are passed grows. Conditions: none. -/
import Derived.Test.YtpknikpkepcbcaaIn3
namespace VK
open Go Go.Proofs
set_option linter.unusedSimpArgs false
set_option linter.unusedVariables false
set_option maxRecDepth 100000
set_option maxHeartbeats 40000000
/-- the cells of a reference In -/
abbrev rC (u : Value) (at_ : Nat) (err : Int) : Blk := ⟨[u, .int .i64 at_, .int .i64 err], 64⟩
theorem rbad_g {g : Atom → List Atom} {r : Nat} {u : Value} {B : List UInt8} [hp : ∀ c, Pick (blk r) (g (blk r c)) c g] [hr : ∀ c, Rd (g (blk r c)) u (mrow by8 5 B)] (a : Nat) (e e' : Int) :
    Fn Try.prog 45 [.pointer (some ⟨r, 0, none⟩), .int .i64 e'] (g (blk r (rC u a e))) fun v L' => v = .tuple #[] ∧ L' = g (blk r (rC u B.length e')) := by
  refine fn_intro Try.func45 rfl Try.ntmps45 rfl (fun W0 => ?_)
  simp only [argE, rC]
  refine r_seq ?_
  refine r_region (id := 0) ?_
  refine o_give (g_move (evv rfl)) rfl rfl ?_
  refine o_give (g_move (evv rfl)) rfl rfl ?_
  refine o_give (g_nil (evv rfl)) rfl rfl ?_
  refine o_give (g_fld (evv rfl)) rfl rfl ?_
  refine o_store1 (evv rfl) (evv rfl) (by rfl) (by rfl) (by rfl) ?_
  refine o_nil ?_
  refine c_code ?_
  refine r_region (id := 1) ?_
  refine o_give (g_move (evv rfl)) rfl rfl ?_
  refine o_give (g_move (evv rfl)) rfl rfl ?_
  refine o_give (g_nil (evv rfl)) rfl rfl ?_
  refine o_give (g_fld (evv rfl)) rfl rfl ?_
  refine o_give (g_load (evv rfl) (by rfl) (by rfl)) rfl rfl ?_
  refine o_give (g_lenM (evv rfl)) rfl rfl ?_
  refine o_give (g_nil (evv rfl)) rfl rfl ?_
  refine o_give (g_fld (evv rfl)) rfl rfl ?_
  refine o_store1 (evv rfl) (evv rfl) (by rfl) (by rfl) (by rfl) ?_
  refine o_nil ?_
  exact c_end (rs := []) rfl rfl _ (Ent.refl _) ⟨rfl, rfl⟩
theorem rLeft_g {g : Atom → List Atom} {r : Nat} {u : Value} {B : List UInt8} [hp : ∀ c, Pick (blk r) (g (blk r c)) c g] [hr : ∀ c, Rd (g (blk r c)) u (mrow by8 5 B)] (a : Nat) (ha : a ≤ B.length) (hB : B.length ≤ 140737488355000) (e : Int) :
    Fn Try.prog 29 [.pointer (some ⟨r, 0, none⟩)] (g (blk r (rC u a e))) fun v L' => v = .int .i64 (B.drop a).length ∧ L' = g (blk r (rC u a e)) := by
  refine fn_intro Try.func29 rfl Try.ntmps29 rfl (fun W0 => ?_)
  simp only [argE, rC]
  refine r_seq ?_
  refine r_region (id := 0) ?_
  refine o_give (g_assign (evv rfl)) rfl rfl ?_
  refine o_nil ?_
  refine c_code ?_
  refine r_seq ?_
  refine r_quiet (id := 1) Mixed.h (by kernel_rfl) ?_
  refine q_give (g_move (evv rfl)) rfl rfl ?_
  refine q_give (g_nil (evv rfl)) rfl rfl ?_
  refine q_give (g_fld (evv rfl)) rfl rfl ?_
  refine q_give (g_load (evv rfl) (by rfl) (by rfl)) rfl rfl ?_
  refine q_give (g_lenM (evv rfl)) rfl rfl ?_
  refine q_give (g_move (evv rfl)) rfl rfl ?_
  refine q_give (g_nil (evv rfl)) rfl rfl ?_
  refine q_give (g_fld (evv rfl)) rfl rfl ?_
  refine q_give (g_load (evv rfl) (by rfl) (by rfl)) rfl rfl ?_
  refine q_giveN (g_bin (evv rfl) (evv rfl) (by rfl)) (by simp only [inR]; omega) rfl ?_
  refine q_give (g_assign (evv rfl)) rfl rfl ?_
  refine q_nil ?_
  refine c_code ?_
  refine r_ret (rs := [.tmp 2]) rfl rfl _ (Ent.refl _) ⟨?_, rfl⟩
  show Value.int _ _ = Value.int _ _
  congr 1
  simp; omega
theorem numStep2 {n k c : Nat} (hn : n < 128 ^ k) (hk : k ≤ 9) (hc : c < 256) (h9 : k = 9 → c ≤ 1) :
    IntKind.u64.wrap ↑(BitVec.ofInt IntKind.u64.bits ↑n ||| BitVec.ofInt IntKind.u64.bits ((c : Int) % 128 * 2 ^ min (7 * (k : Int)).toNat IntKind.u64.bits % 18446744073709551616)).toNat = ((n + c % 128 * 128 ^ k : Nat) : Int) := by
  have h := numStep hn hk hc h9
  have e2 : ((c : Int).toNat &&& Int.toNat 127) = c % 128 := Nat.and_two_pow_sub_one_eq_mod c 7
  have e : (((c : Int).toNat &&& Int.toNat 127 : Nat) : Int) % 18446744073709551616 = (c : Int) % 128 := by rw [e2]; omega
  rw [e] at h
  exact h
theorem rNum_g {g : Atom → List Atom} {r : Nat} {u : Value} {B : List UInt8} [hp : ∀ c, Pick (blk r) (g (blk r c)) c g] [hr : ∀ c, Rd (g (blk r c)) u (mrow by8 5 B)] (a : Nat) (ha : a ≤ B.length) (hB : B.length ≤ 140737488355000) (e : Int) :
    Fn Try.prog 26 [.pointer (some ⟨r, 0, none⟩)] (g (blk r (rC u a e))) fun v L' => ∃ a' e', a' ≤ B.length ∧ v = .int .u64 (numR ⟨B.drop a, e⟩).1 ∧ (numR ⟨B.drop a, e⟩).2 = ⟨B.drop a', e'⟩ ∧ L' = g (blk r (rC u a' e')) := by
  refine fn_intro Try.func26 rfl Try.ntmps26 rfl (fun W0 => ?_)
  simp only [argE]
  by_cases he : e = 0
  · subst he
    have hR0 : numR ⟨B.drop a, 0⟩ = numGo 0 0 (B.drop a) := by simp only [numR, if_true]
    rw [hR0]
    refine r_seq ?_
    refine r_region (id := 0) ?_
    refine o_give (g_assign (evv rfl)) rfl rfl ?_
    refine o_nil ?_
    refine c_code ?_
    refine r_seq ?_
    refine r_seq ?_
    refine r_region (id := 1) ?_
    refine o_give (g_move (evv rfl)) rfl rfl ?_
    refine o_give (g_nil (evv rfl)) rfl rfl ?_
    refine o_give (g_fld (evv rfl)) rfl rfl ?_
    refine o_give (g_load (evv rfl) (by rfl) (by rfl)) rfl rfl ?_
    refine o_give (g_bin (evv rfl) (evv rfl) (by rfl)) rfl rfl ?_
    refine o_nil ?_
    refine c_code ?_
    refine r_cond_false rfl ?_
    refine r_skip ?_
    refine c_code ?_
    refine r_seq ?_
    refine r_region (id := 3) ?_
    refine o_give (g_assign (evv rfl)) rfl rfl ?_
    refine o_nil ?_
    refine c_code ?_
    refine r_seq ?_
    refine r_seq ?_
    refine r_region (id := 4) ?_
    refine o_give (g_assign (evv rfl)) rfl rfl ?_
    refine o_nil ?_
    refine c_code ?_
    refine r_block ?_
    refine r_loop (σ := Nat × Nat × Nat) (fun s => s.1 ≤ 9 ∧ s.2.1 < 128 ^ s.1 ∧ s.2.2 ≤ B.length ∧ numGo s.1 s.2.1 (B.drop s.2.2) = numGo 0 0 (B.drop a)) (fun s => 10 - s.1) (fun s => [(0, .v (.pointer (some ⟨r, 0, none⟩))), (3, .v (.int .u64 s.2.1)), (4, .v (.int .i64 s.1))]) (fun s => g (blk r (rC u s.2.2 0))) (0, 0, a) ⟨by omega, by simp, ha, rfl⟩ ⟨rfl, rfl, rfl, trivial⟩ (Ent.refl _) ?_
    rintro ⟨k, n, b⟩ ⟨h1, h2, h3, h4⟩
    dsimp only at h1 h2 h3 h4 ⊢
    rw [← h4]
    refine r_seq ?_
    refine r_seq ?_
    refine r_region (id := 5) ?_
    refine o_give (g_move (evv rfl)) rfl rfl ?_
    refine o_give (g_bin (evv rfl) (evv rfl) (by rfl)) rfl rfl ?_
    refine o_nil ?_
    refine c_code ?_
    refine r_cond rfl (fun hc => ?_) (fun hc => ?_)
    · clear hc
      refine r_skip ?_
      refine c_code ?_
      refine r_seq ?_
      refine r_block ?_
      refine r_seq ?_
      refine r_seq ?_
      refine r_quiet (id := 7) Mixed.h (by kernel_rfl) ?_
      refine q_give (g_move (evv rfl)) rfl rfl ?_
      refine q_give (g_nil (evv rfl)) rfl rfl ?_
      refine q_give (g_fld (evv rfl)) rfl rfl ?_
      refine q_give (g_load (evv rfl) (by rfl) (by rfl)) rfl rfl ?_
      refine q_give (g_move (evv rfl)) rfl rfl ?_
      refine q_give (g_nil (evv rfl)) rfl rfl ?_
      refine q_give (g_fld (evv rfl)) rfl rfl ?_
      refine q_give (g_load (evv rfl) (by rfl) (by rfl)) rfl rfl ?_
      refine q_give (g_lenM (evv rfl)) rfl rfl ?_
      refine q_give (g_bin (evv rfl) (evv rfl) (by rfl)) rfl rfl ?_
      refine q_nil ?_
      refine c_code ?_
      refine r_cond rfl (fun hc => ?_) (fun hc => ?_)
      · have hc := of_decide_eq_true hc
        refine r_seq ?_
        refine r_region (id := 8) ?_
        refine o_give (g_move (evv rfl)) rfl rfl ?_
        (refine o_call rfl _ (Ent.refl _) (Fn.atPick (rbad_g _ _ _)) rfl ?_; rintro _ _ ⟨rfl, rfl⟩)
        refine o_nil ?_
        refine c_code ?_
        refine r_seq ?_
        refine r_region (id := 9) ?_
        refine o_give (g_assign (evv rfl)) rfl rfl ?_
        refine o_nil ?_
        refine c_code ?_
        refine r_ret (rs := [.tmp 2]) rfl rfl _ (Ent.refl _) ⟨B.length, 20, Nat.le_refl _, ?_, ?_, rfl⟩
        · rw [List.drop_of_length_le (by omega)]; rfl
        · rw [List.drop_of_length_le (by omega), List.drop_of_length_le (Nat.le_refl _)]; rfl
      · have hc := of_decide_eq_false hc
        have hb : b < B.length := by omega
        have hget : B.getD b default = B[b] := by simp [hb]
        rw [List.drop_eq_getElem_cons hb] at h4 ⊢
        have hc256 : B[b].toNat < 256 := B[b].toNat_lt
        refine r_skip ?_
        refine c_code ?_
        refine r_seq ?_
        refine r_quiet (id := 10) Mixed.h (by kernel_rfl) ?_
        refine q_give (g_move (evv rfl)) rfl rfl ?_
        refine q_give (g_nil (evv rfl)) rfl rfl ?_
        refine q_give (g_fld (evv rfl)) rfl rfl ?_
        refine q_give (g_load (evv rfl) (by rfl) (by rfl)) rfl rfl ?_
        refine q_give (g_move (evv rfl)) rfl rfl ?_
        refine q_give (g_nil (evv rfl)) rfl rfl ?_
        refine q_give (g_fld (evv rfl)) rfl rfl ?_
        refine q_give (g_load (evv rfl) (by rfl) (by rfl)) rfl rfl ?_
        refine q_give (g_idxMN (evv rfl) (evv rfl) (by rfl) (by first | omega | (have := of_decide_eq_true hg; omega) | (simp at hg; omega) | (simp only [List.length_set, List.length_append, List.length_cons, List.length_nil, List.length_map, List.length_take, List.length_drop, List.length_replicate]; omega))) rfl rfl ?_
        refine q_give (g_loadM (evv rfl) (by rfl) (by first | omega | (have := of_decide_eq_true hg; omega) | (simp at hg; omega) | (simp only [List.length_set, List.length_append, List.length_cons, List.length_nil, List.length_map, List.length_take, List.length_drop, List.length_replicate]; omega))) rfl rfl ?_
        refine q_give (g_assign (evv rfl)) rfl rfl ?_
        refine q_nil ?_
        refine c_code ?_
        refine r_seq ?_
        rw [hget]
        generalize B[b] = c at h4 hget hc256 ⊢
        refine r_region (id := 11) ?_
        refine o_give (g_move (evv rfl)) rfl rfl ?_
        refine o_give (g_nil (evv rfl)) rfl rfl ?_
        refine o_give (g_fld (evv rfl)) rfl rfl ?_
        refine o_give (g_load (evv rfl) (by rfl) (by rfl)) rfl rfl ?_
        refine o_giveN (g_bin (evv rfl) (evv rfl) (by rfl)) (by simp only [inR]; omega) rfl ?_
        refine o_give (g_nil (evv rfl)) rfl rfl ?_
        refine o_give (g_fld (evv rfl)) rfl rfl ?_
        refine o_store1 (evv rfl) (evv rfl) (by rfl) (by rfl) (by rfl) ?_
        refine o_nil ?_
        refine c_code ?_
        refine r_seq ?_
        refine r_seq ?_
        refine r_region (id := 12) ?_
        refine o_give (g_move (evv rfl)) rfl rfl ?_
        refine o_give (g_bin (evv rfl) (evv rfl) (by rfl)) rfl rfl ?_
        refine o_give (g_move (evv rfl)) rfl rfl ?_
        refine o_lazy rfl (fun hg => g_move (by first | exact evv rfl | exact evg rfl (by rw [hp]; rfl) | exact evg rfl hp | exact evg rfl hg | exact evg rfl (by first | (simp_all; done) | (simp [*]; done) | fail) | fail)) rfl rfl ?_
        refine o_lazy rfl (fun hg => g_bin (by first | exact evv rfl | exact evg rfl (by rw [hp]; rfl) | exact evg rfl hp | exact evg rfl hg | exact evg rfl (by first | (simp_all; done) | (simp [*]; done) | fail) | fail) (by first | exact evv rfl | exact evg rfl (by rw [hp]; rfl) | exact evg rfl hp | exact evg rfl hg | exact evg rfl (by first | (simp_all; done) | (simp [*]; done) | fail) | fail) (by rfl)) rfl rfl ?_
        refine o_give (g_pick_and (evv rfl) (evv rfl) (fun hp => (by first | exact evv rfl | exact evg rfl (by rw [hp]; rfl) | exact evg rfl hp | exact evg rfl hg | exact evg rfl (by first | (simp_all; done) | (simp [*]; done) | fail) | fail))) rfl rfl ?_
        refine o_give (g_move (evv rfl)) rfl rfl ?_
        refine o_lazy rfl (fun hg => g_move (by first | exact evv rfl | exact evg rfl (by rw [hp]; rfl) | exact evg rfl hp | exact evg rfl hg | exact evg rfl (by first | (simp_all; done) | (simp [*]; done) | fail) | fail)) rfl rfl ?_
        refine o_lazy rfl (fun hg => g_bin (by first | exact evv rfl | exact evg rfl (by rw [hp]; rfl) | exact evg rfl hp | exact evg rfl hg | exact evg rfl (by first | (simp_all; done) | (simp [*]; done) | fail) | fail) (by first | exact evv rfl | exact evg rfl (by rw [hp]; rfl) | exact evg rfl hp | exact evg rfl hg | exact evg rfl (by first | (simp_all; done) | (simp [*]; done) | fail) | fail) (by rfl)) rfl rfl ?_
        refine o_lazy rfl (fun hg => g_move (by first | exact evv rfl | exact evg rfl (by rw [hp]; rfl) | exact evg rfl hp | exact evg rfl hg | exact evg rfl (by first | (simp_all; done) | (simp [*]; done) | fail) | fail)) rfl rfl ?_
        refine o_lazy rfl (fun hg => g_move (by first | exact evv rfl | exact evg rfl (by rw [hp]; rfl) | exact evg rfl hp | exact evg rfl hg | exact evg rfl (by first | (simp_all; done) | (simp [*]; done) | fail) | fail)) rfl rfl ?_
        refine o_lazy rfl (fun hg => g_bin (by first | exact evv rfl | exact evg rfl (by rw [hp]; rfl) | exact evg rfl hp | exact evg rfl hg | exact evg rfl (by first | (simp_all; done) | (simp [*]; done) | fail) | fail) (by first | exact evv rfl | exact evg rfl (by rw [hp]; rfl) | exact evg rfl hp | exact evg rfl hg | exact evg rfl (by first | (simp_all; done) | (simp [*]; done) | fail) | fail) (by rfl)) rfl rfl ?_
        refine o_lazy rfl (fun hg => g_pick_and (by first | exact evv rfl | exact evg rfl (by rw [hp]; rfl) | exact evg rfl hp | exact evg rfl hg | exact evg rfl (by first | (simp_all; done) | (simp [*]; done) | fail) | fail) (by first | exact evv rfl | exact evg rfl (by rw [hp]; rfl) | exact evg rfl hp | exact evg rfl hg | exact evg rfl (by first | (simp_all; done) | (simp [*]; done) | fail) | fail) (fun hp => (by first | exact evv rfl | exact evg rfl (by rw [hp]; rfl) | exact evg rfl hp | exact evg rfl hg | exact evg rfl (by first | (simp_all; done) | (simp [*]; done) | fail) | fail))) rfl rfl ?_
        refine o_give (g_pick_or (evv rfl) (evv rfl) (fun hp => (by first | exact evv rfl | exact evg rfl (by rw [hp]; rfl) | exact evg rfl hp | exact evg rfl hg | exact evg rfl (by first | (simp_all; done) | (simp [*]; done) | fail) | fail))) rfl rfl ?_
        refine o_nil ?_
        refine c_code ?_
        refine r_cond rfl (fun hd => ?_) (fun hd => ?_)
        · have hb1 : k = 9 ∧ 1 < c.toNat ∨ 0 < k ∧ c.toNat = 0 := by simp only [Bool.or_eq_true, Bool.and_eq_true, decide_eq_true_eq] at hd; omega
          have hg1 : numGo k n (c :: B.drop (b + 1)) = (0, ⟨[], 21⟩) := by simp only [numGo, if_pos hb1]
          rw [hg1]
          refine r_seq ?_
          refine r_region (id := 13) ?_
          refine o_give (g_move (evv rfl)) rfl rfl ?_
          (refine o_call rfl _ (Ent.refl _) (Fn.atPick (rbad_g _ _ _)) rfl ?_; rintro _ _ ⟨rfl, rfl⟩)
          refine o_nil ?_
          refine c_code ?_
          refine r_seq ?_
          refine r_region (id := 14) ?_
          refine o_give (g_assign (evv rfl)) rfl rfl ?_
          refine o_nil ?_
          refine c_code ?_
          exact r_ret (rs := [.tmp 2]) rfl rfl _ (Ent.refl _) ⟨B.length, 21, Nat.le_refl _, rfl, by rw [List.drop_of_length_le (Nat.le_refl _)], rfl⟩
        · have hb1 : ¬ (k = 9 ∧ 1 < c.toNat ∨ 0 < k ∧ c.toNat = 0) := by simp only [Bool.or_eq_false_iff, Bool.and_eq_false_iff, decide_eq_false_iff_not] at hd; omega
          clear hd
          have hg1 : numGo k n (c :: B.drop (b + 1)) = if c.toNat < 128 then (n + c.toNat % 128 * 128 ^ k, ⟨B.drop (b + 1), 0⟩) else numGo (k + 1) (n + c.toNat % 128 * 128 ^ k) (B.drop (b + 1)) := by simp only [numGo, if_neg hb1]
          refine r_skip ?_
          refine c_code ?_
          refine r_seq ?_
          refine r_region (id := 15) ?_
          refine o_give (g_move (evv rfl)) rfl rfl ?_
          refine o_give (g_move (evv rfl)) rfl rfl ?_
          refine o_give (g_remP (evv rfl) (evv rfl) (by omega) (by omega)) rfl rfl ?_
          refine o_giveN (g_conv TyU.h TyU.h (evv rfl)) (by simp only [inR]; omega) rfl ?_
          refine o_give (g_move (evv rfl)) rfl rfl ?_
          refine o_giveN (g_bin (evv rfl) (evv rfl) (by rfl)) (by simp only [inR]; omega) rfl ?_
          refine o_giveN (g_conv TyU.h TyU.h (evv rfl)) (by simp only [inR]; omega) rfl ?_
          refine o_giveU (g_shift (evv rfl) (evv rfl) (by rfl) (by omega)) (by rfl) rfl ?_
          refine o_give (g_bin (evv rfl) (evv rfl) (by rfl)) rfl rfl ?_
          refine o_give (g_assign (evv rfl)) rfl rfl ?_
          refine o_nil ?_
          refine c_code ?_
          refine r_seq ?_
          refine r_region (id := 16) ?_
          refine o_give (g_move (evv rfl)) rfl rfl ?_
          refine o_give (g_bin (evv rfl) (evv rfl) (by rfl)) rfl rfl ?_
          refine o_nil ?_
          refine c_code ?_
          rw [numStep2 h2 h1 hc256 (by omega)]
          have hN : n + c.toNat % 128 * 128 ^ k < 128 ^ (k + 1) := by rw [Nat.pow_succ]; have : c.toNat % 128 * 128 ^ k ≤ 127 * 128 ^ k := Nat.mul_le_mul_right _ (by omega); omega
          refine r_cond rfl (fun hd => ?_) (fun hd => ?_)
          · have hd := of_decide_eq_true hd
            rw [hg1, if_pos (by omega)]
            refine r_seq ?_
            refine r_region (id := 17) ?_
            refine o_give (g_move (evv rfl)) rfl rfl ?_
            refine o_give (g_assign (evv rfl)) rfl rfl ?_
            refine o_nil ?_
            refine c_code ?_
            exact r_ret (rs := [.tmp 2]) rfl rfl _ (Ent.refl _) ⟨b + 1, 0, by omega, rfl, rfl, rfl⟩
          · have hd := of_decide_eq_false hd
            refine r_skip ?_
            refine c_blk ?_
            refine c_code ?_
            refine r_region (id := 6) ?_
            refine o_give (g_move (evv rfl)) rfl rfl ?_
            refine o_giveN (g_bin (evv rfl) (evv rfl) (by rfl)) (by simp only [inR]; omega) rfl ?_
            refine o_give (g_assign (evv rfl)) rfl rfl ?_
            refine o_nil ?_
            refine c_loop (k + 1, n + c.toNat % 128 * 128 ^ k, b + 1) ⟨?_, hN, by dsimp only; omega, ?_⟩ (by dsimp only; omega) ⟨rfl, rfl, rfl, trivial⟩ (Ent.refl _)
            · dsimp only; by_cases h9 : k = 9
              · exfalso; omega
              · omega
            · dsimp only; rw [hg1, if_neg (by omega)]
    · have := of_decide_eq_false hc
      omega
  · have hR : numR ⟨B.drop a, e⟩ = (0, ⟨B.drop a, e⟩) := by simp only [numR, if_neg he]
    rw [hR]
    simp only [rC]
    refine r_seq ?_
    refine r_region (id := 0) ?_
    refine o_give (g_assign (evv rfl)) rfl rfl ?_
    refine o_nil ?_
    refine c_code ?_
    refine r_seq ?_
    refine r_seq ?_
    refine r_region (id := 1) ?_
    refine o_give (g_move (evv rfl)) rfl rfl ?_
    refine o_give (g_nil (evv rfl)) rfl rfl ?_
    refine o_give (g_fld (evv rfl)) rfl rfl ?_
    refine o_give (g_load (evv rfl) (by rfl) (by rfl)) rfl rfl ?_
    refine o_give (g_bin (evv rfl) (evv rfl) (by rfl)) rfl rfl ?_
    refine o_nil ?_
    refine c_code ?_
    refine r_cond rfl (fun hc => ?_) (fun hc => ?_)
    · refine r_seq ?_
      refine r_region (id := 2) ?_
      refine o_give (g_assign (evv rfl)) rfl rfl ?_
      refine o_nil ?_
      refine c_code ?_
      exact r_ret (rs := [.tmp 2]) rfl rfl _ (Ent.refl _) ⟨a, e, ha, rfl, rfl, rfl⟩
    · simp [he] at hc
theorem takeR_cut' {n : Nat} {p : List UInt8} (h : p.length < n) : takeR n ⟨p, 0⟩ = ([], ⟨[], 20⟩) := by simp [takeR, h]
theorem rText_g {g : Atom → List Atom} {r : Nat} {u : Value} {B : List UInt8} [hp : ∀ c, Pick (blk r) (g (blk r c)) c g] [hr : ∀ c, Rd (g (blk r c)) u (mrow by8 5 B)] (a : Nat) (ha : a ≤ B.length) (hB : B.length ≤ 140737488355000) (e : Int) (most : Int) (hm : -9223372036854775808 ≤ most ∧ most ≤ 9223372036854775807) :
    Fn Try.prog 27 [.pointer (some ⟨r, 0, none⟩), .int .i64 most] (g (blk r (rC u a e))) fun v L' => ∃ a' e', a' ≤ B.length ∧ v = str (textR most ⟨B.drop a, e⟩).1 ∧ (textR most ⟨B.drop a, e⟩).2 = ⟨B.drop a', e'⟩ ∧ L' = g (blk r (rC u a' e')) := by
  refine fn_intro Try.func27 rfl Try.ntmps27 rfl (fun W0 => ?_)
  simp only [argE]
  have hn := numR_le ⟨B.drop a, e⟩
  refine r_seq ?_
  refine r_region (id := 0) ?_
  refine o_give (g_assign (evv rfl)) rfl rfl ?_
  refine o_nil ?_
  refine c_code ?_
  refine r_seq ?_
  refine r_region (id := 1) ?_
  refine o_give (g_move (evv rfl)) rfl rfl ?_
  (refine o_call rfl _ (Ent.refl _) (Fn.atPick (rNum_g _ (by assumption) (by assumption) _)) rfl ?_; rintro _ _ ⟨ra, re, hra, rfl, hrs, rfl⟩)
  refine o_give (g_assign (evv rfl)) rfl rfl ?_
  refine o_nil ?_
  refine c_code ?_
  refine r_seq ?_
  refine r_seq ?_
  rw [textR, hrs]
  generalize (numR ⟨B.drop a, e⟩).1 = n at hn ⊢
  refine r_region (id := 2) ?_
  refine o_give (g_move (evv rfl)) rfl rfl ?_
  refine o_give (g_nil (evv rfl)) rfl rfl ?_
  refine o_give (g_fld (evv rfl)) rfl rfl ?_
  refine o_give (g_load (evv rfl) (by rfl) (by rfl)) rfl rfl ?_
  refine o_give (g_bin (evv rfl) (evv rfl) (by rfl)) rfl rfl ?_
  refine o_nil ?_
  refine c_code ?_
  refine r_cond rfl (fun hc => ?_) (fun hc => ?_)
  · have he : re ≠ 0 := by simpa using hc
    rw [if_neg he]
    refine r_seq ?_
    refine r_region (id := 3) ?_
    refine o_give (g_assign (evv rfl)) rfl rfl ?_
    refine o_nil ?_
    refine c_code ?_
    exact r_ret (rs := [.tmp 4]) rfl rfl _ (Ent.refl _) ⟨ra, re, hra, rfl, rfl, rfl⟩
  · have he : re = 0 := by simpa using hc
    subst he
    rw [if_pos rfl]
    refine r_skip ?_
    refine c_code ?_
    refine r_seq ?_
    refine r_seq ?_
    refine r_region (id := 4) ?_
    refine o_give (g_move (evv rfl)) rfl rfl ?_
    refine o_give (g_bin (evv rfl) (evv rfl) (by rfl)) rfl rfl ?_
    refine o_give (g_move (evv rfl)) rfl rfl ?_
    refine o_lazy rfl (fun hg => g_move (by first | exact evv rfl | exact evg rfl (by rw [hp]; rfl) | exact evg rfl hp | exact evg rfl hg | exact evg rfl (by first | (simp_all; done) | (simp [*]; done) | fail) | fail)) rfl rfl ?_
    refine o_lazy rfl (fun hg => g_bin (by first | exact evv rfl | exact evg rfl (by rw [hp]; rfl) | exact evg rfl hp | exact evg rfl hg | exact evg rfl (by first | (simp_all; done) | (simp [*]; done) | fail) | fail) (by first | exact evv rfl | exact evg rfl (by rw [hp]; rfl) | exact evg rfl hp | exact evg rfl hg | exact evg rfl (by first | (simp_all; done) | (simp [*]; done) | fail) | fail) (by rfl)) rfl rfl ?_
    refine o_give (g_pick_and (evv rfl) (evv rfl) (fun hp => (by first | exact evv rfl | exact evg rfl (by rw [hp]; rfl) | exact evg rfl hp | exact evg rfl hg | exact evg rfl (by first | (simp_all; done) | (simp [*]; done) | fail) | fail))) rfl rfl ?_
    refine o_give (g_move (evv rfl)) rfl rfl ?_
    refine o_lazy rfl (fun hg => g_move (by first | exact evv rfl | exact evg rfl (by rw [hp]; rfl) | exact evg rfl hp | exact evg rfl hg | exact evg rfl (by first | (simp_all; done) | (simp [*]; done) | fail) | fail)) rfl rfl ?_
    refine o_lazy rfl (fun hg => g_bin (by first | exact evv rfl | exact evg rfl (by rw [hp]; rfl) | exact evg rfl hp | exact evg rfl hg | exact evg rfl (by first | (simp_all; done) | (simp [*]; done) | fail) | fail) (by first | exact evv rfl | exact evg rfl (by rw [hp]; rfl) | exact evg rfl hp | exact evg rfl hg | exact evg rfl (by first | (simp_all; done) | (simp [*]; done) | fail) | fail) (by rfl)) rfl rfl ?_
    refine o_lazy rfl (fun hg => g_move (by first | exact evv rfl | exact evg rfl (by rw [hp]; rfl) | exact evg rfl hp | exact evg rfl hg | exact evg rfl (by first | (simp_all; done) | (simp [*]; done) | fail) | fail)) rfl rfl ?_
    refine o_lazy rfl (fun hg => g_move (by first | exact evv rfl | exact evg rfl (by rw [hp]; rfl) | exact evg rfl hp | exact evg rfl hg | exact evg rfl (by first | (simp_all; done) | (simp [*]; done) | fail) | fail)) rfl rfl ?_
    refine o_lazy rfl (fun hg => g_move (by first | exact evv rfl | exact evg rfl (by rw [hp]; rfl) | exact evg rfl hp | exact evg rfl hg | exact evg rfl (by first | (simp_all; done) | (simp [*]; done) | fail) | fail)) rfl rfl ?_
    refine o_lazy rfl (fun hg => g_conv TyU.h TyU.h (by first | exact evv rfl | exact evg rfl (by rw [hp]; rfl) | exact evg rfl hp | exact evg rfl hg | exact evg rfl (by first | (simp_all; done) | (simp [*]; done) | fail) | fail)) rfl rfl ?_
    refine o_lazy rfl (fun hg => g_bin (by first | exact evv rfl | exact evg rfl (by rw [hp]; rfl) | exact evg rfl hp | exact evg rfl hg | exact evg rfl (by first | (simp_all; done) | (simp [*]; done) | fail) | fail) (by first | exact evv rfl | exact evg rfl (by rw [hp]; rfl) | exact evg rfl hp | exact evg rfl hg | exact evg rfl (by first | (simp_all; done) | (simp [*]; done) | fail) | fail) (by rfl)) rfl rfl ?_
    refine o_lazy rfl (fun hg => g_pick_and (by first | exact evv rfl | exact evg rfl (by rw [hp]; rfl) | exact evg rfl hp | exact evg rfl hg | exact evg rfl (by first | (simp_all; done) | (simp [*]; done) | fail) | fail) (by first | exact evv rfl | exact evg rfl (by rw [hp]; rfl) | exact evg rfl hp | exact evg rfl hg | exact evg rfl (by first | (simp_all; done) | (simp [*]; done) | fail) | fail) (fun hp => (by first | exact evv rfl | exact evg rfl (by rw [hp]; rfl) | exact evg rfl hp | exact evg rfl hg | exact evg rfl (by first | (simp_all; done) | (simp [*]; done) | fail) | fail))) rfl rfl ?_
    refine o_give (g_pick_or (evv rfl) (evv rfl) (fun hp => (by first | exact evv rfl | exact evg rfl (by rw [hp]; rfl) | exact evg rfl hp | exact evg rfl hg | exact evg rfl (by first | (simp_all; done) | (simp [*]; done) | fail) | fail))) rfl rfl ?_
    refine o_nil ?_
    refine c_code ?_
    have hW : 0 ≤ most → IntKind.u64.wrap most = most := fun h => wrap_in (by simp only [inR]; omega)
    refine r_cond rfl (fun hc => ?_) (fun hc => ?_)
    · have hM : max most 0 < (n : Int) := by
        simp only [Bool.or_eq_true, Bool.and_eq_true, decide_eq_true_eq] at hc
        rcases hc with hc | hc
        · omega
        · have := hW hc.1; omega
      rw [if_pos hM]
      refine r_seq ?_
      refine r_region (id := 5) ?_
      refine o_give (g_move (evv rfl)) rfl rfl ?_
      (refine o_call rfl _ (Ent.refl _) (Fn.atPick (rbad_g _ _ _)) rfl ?_; rintro _ _ ⟨rfl, rfl⟩)
      refine o_nil ?_
      refine c_code ?_
      refine r_seq ?_
      refine r_region (id := 6) ?_
      refine o_give (g_assign (evv rfl)) rfl rfl ?_
      refine o_nil ?_
      refine c_code ?_
      exact r_ret (rs := [.tmp 4]) rfl rfl _ (Ent.refl _) ⟨B.length, 2, Nat.le_refl _, rfl, by rw [List.drop_of_length_le (Nat.le_refl _)], rfl⟩
    · have hM : ¬ max most 0 < (n : Int) := by
        simp only [Bool.or_eq_false_iff, Bool.and_eq_false_iff, decide_eq_false_iff_not] at hc
        by_cases h0 : 0 ≤ most
        · have := hW h0; omega
        · omega
      rw [if_neg hM]
      clear hc
      have hn63 : n ≤ 9223372036854775807 := by omega
      refine r_skip ?_
      refine c_code ?_
      refine r_seq ?_
      refine r_seq ?_
      refine r_region (id := 7) ?_
      refine o_give (g_move (evv rfl)) rfl rfl ?_
      refine o_give (g_move (evv rfl)) rfl rfl ?_
      (refine o_call rfl _ (Ent.refl _) (Fn.atPick (rLeft_g _ (by assumption) (by assumption) _)) rfl ?_; rintro _ _ ⟨rfl, rfl⟩)
      refine o_giveU (g_conv TyU.h TyU.h (evv rfl)) (by rfl) rfl ?_
      refine o_give (g_bin (evv rfl) (evv rfl) (by rfl)) rfl rfl ?_
      refine o_nil ?_
      refine c_code ?_
      have hdl : (B.drop ra).length = B.length - ra := by simp
      refine r_cond rfl (fun hc => ?_) (fun hc => ?_)
      · have hc := of_decide_eq_true hc
        rw [takeR_cut' (by omega)]
        refine r_seq ?_
        refine r_region (id := 8) ?_
        refine o_give (g_move (evv rfl)) rfl rfl ?_
        (refine o_call rfl _ (Ent.refl _) (Fn.atPick (rbad_g _ _ _)) rfl ?_; rintro _ _ ⟨rfl, rfl⟩)
        refine o_nil ?_
        refine c_code ?_
        refine r_seq ?_
        refine r_region (id := 9) ?_
        refine o_give (g_assign (evv rfl)) rfl rfl ?_
        refine o_nil ?_
        refine c_code ?_
        exact r_ret (rs := [.tmp 4]) rfl rfl _ (Ent.refl _) ⟨B.length, 20, Nat.le_refl _, rfl, by rw [List.drop_of_length_le (Nat.le_refl _)], rfl⟩
      · have hc := of_decide_eq_false hc
        refine r_skip ?_
        refine c_code ?_
        refine r_seq ?_
        refine r_quiet (id := 10) Mixed.h (by kernel_rfl) ?_
        refine q_give (g_move (evv rfl)) rfl rfl ?_
        refine q_give (g_nil (evv rfl)) rfl rfl ?_
        refine q_give (g_fld (evv rfl)) rfl rfl ?_
        refine q_give (g_load (evv rfl) (by rfl) (by rfl)) rfl rfl ?_
        refine q_give (g_move (evv rfl)) rfl rfl ?_
        refine q_give (g_nil (evv rfl)) rfl rfl ?_
        refine q_give (g_fld (evv rfl)) rfl rfl ?_
        refine q_give (g_load (evv rfl) (by rfl) (by rfl)) rfl rfl ?_
        refine q_give (g_move (evv rfl)) rfl rfl ?_
        refine q_give (g_nil (evv rfl)) rfl rfl ?_
        refine q_give (g_fld (evv rfl)) rfl rfl ?_
        refine q_give (g_load (evv rfl) (by rfl) (by rfl)) rfl rfl ?_
        refine q_give (g_move (evv rfl)) rfl rfl ?_
        refine q_giveN (g_conv TyU.h TyU.h (evv rfl)) (by simp only [inR]; omega) rfl ?_
        refine q_giveN (g_bin (evv rfl) (evv rfl) (by rfl)) (by simp only [inR]; omega) rfl ?_
        refine q_give (g_subM (evv rfl) _ _ (bnd_some (evv rfl) rfl) (bnd_some (evv rfl) rfl) (by rfl) (by omega) (by omega)) rfl rfl ?_
        refine q_give (g_b2sM (evv rfl)) rfl rfl ?_
        refine q_give (g_assign (evv rfl)) rfl rfl ?_
        refine q_nil ?_
        refine c_code ?_
        refine r_seq ?_
        refine r_region (id := 11) ?_
        refine o_give (g_move (evv rfl)) rfl rfl ?_
        refine o_give (g_nil (evv rfl)) rfl rfl ?_
        refine o_give (g_fld (evv rfl)) rfl rfl ?_
        refine o_give (g_load (evv rfl) (by rfl) (by rfl)) rfl rfl ?_
        refine o_give (g_move (evv rfl)) rfl rfl ?_
        refine o_giveN (g_conv TyU.h TyU.h (evv rfl)) (by simp only [inR]; omega) rfl ?_
        refine o_giveN (g_bin (evv rfl) (evv rfl) (by rfl)) (by simp only [inR]; omega) rfl ?_
        refine o_give (g_nil (evv rfl)) rfl rfl ?_
        refine o_give (g_fld (evv rfl)) rfl rfl ?_
        refine o_store1 (evv rfl) (evv rfl) (by rfl) (by rfl) (by rfl) ?_
        refine o_nil ?_
        refine c_code ?_
        refine r_seq ?_
        refine r_region (id := 12) ?_
        refine o_give (g_move (evv rfl)) rfl rfl ?_
        refine o_give (g_assign (evv rfl)) rfl rfl ?_
        refine o_nil ?_
        refine c_code ?_
        have hlt : ¬ (B.drop ra).length < n := by omega
        have hT : takeR n ⟨B.drop ra, 0⟩ = ((B.drop ra).take n, ⟨(B.drop ra).drop n, 0⟩) := by simp only [takeR, if_true, if_neg hlt]
        rw [hT]
        refine r_ret (rs := [.tmp 4]) rfl rfl _ (Ent.refl _) ⟨ra + n, 0, by omega, ?_, by rw [List.drop_drop], rfl⟩
        rw [show ra + n - ra = n by omega]; rfl
theorem rDigest_g {g : Atom → List Atom} {r : Nat} {u : Value} {B : List UInt8} [hp : ∀ c, Pick (blk r) (g (blk r c)) c g] [hr : ∀ c, Rd (g (blk r c)) u (mrow by8 5 B)] (a : Nat) (ha : a ≤ B.length) (hB : B.length ≤ 140737488355000) (e : Int) :
    Fn Try.prog 28 [.pointer (some ⟨r, 0, none⟩)] (g (blk r (rC u a e))) fun v L' => ∃ a' e', a' ≤ B.length ∧ v = agg (bys (digestR ⟨B.drop a, e⟩).1) ∧ (digestR ⟨B.drop a, e⟩).2 = ⟨B.drop a', e'⟩ ∧ L' = g (blk r (rC u a' e')) := by
  refine fn_intro Try.func28 rfl Try.ntmps28 rfl (fun W0 => ?_)
  simp only [argE]
  refine r_seq ?_
  refine r_region (id := 0) ?_
  refine o_alloc rfl rfl (fun _ => ?_)
  refine o_nil ?_
  refine c_code ?_
  refine r_seq ?_
  refine r_region (id := 1) ?_
  refine o_alloc rfl rfl (fun _ => ?_)
  refine o_nil ?_
  refine c_code ?_
  refine r_seq ?_
  refine r_seq ?_
  refine r_region (id := 2) ?_
  refine o_give (g_move (evv rfl)) rfl rfl ?_
  refine o_give (g_nil (evv rfl)) rfl rfl ?_
  refine o_give (g_fld (evv rfl)) rfl rfl ?_
  refine o_give (g_load (evv rfl) (by rfl) (by rfl)) rfl rfl ?_
  refine o_give (g_bin (evv rfl) (evv rfl) (by rfl)) rfl rfl ?_
  refine o_nil ?_
  refine c_code ?_
  rename_i b1 b2
  refine r_cond rfl (fun hc => ?_) (fun hc => ?_)
  · have he : e ≠ 0 := by simpa using hc
    have hT : digestR ⟨B.drop a, e⟩ = (List.replicate 32 0, ⟨B.drop a, e⟩) := by simp only [digestR, takeR, if_neg he]; rfl
    rw [hT]
    refine r_seq ?_
    refine r_region (id := 3) ?_
    refine o_give (g_loadF (evv rfl) (by rfl) (by rfl)) rfl rfl ?_
    refine o_storeW (evv rfl) (evv rfl) (by first | rfl | assumption | (simp [bys, *]; done) | fail) (by first | (intro _ _ _; exact bys_one _) | exact AllOne.h | (intro _ _ _ u hu; simp at hu; rcases hu with rfl | rfl | rfl | rfl | rfl | rfl | rfl | rfl <;> rfl) | fail) (by first | rfl | (simp [bys, *]; done) | (simp only [bys, List.length_map, *]; rfl) | fail) ?_
    refine o_nil ?_
    refine c_code ?_
    exact r_retC (rs := [.cell 2 52]) rfl (ro_agg rfl rfl rfl ro_nil) _ (Ent.drop.trans Ent.drop) ⟨a, e, ha, rfl, rfl, rfl⟩
  · have he : e = 0 := by simpa using hc
    subst he
    refine r_skip ?_
    refine c_code ?_
    refine r_seq ?_
    refine r_seq ?_
    refine r_region (id := 4) ?_
    refine o_give (g_move (evv rfl)) rfl rfl ?_
    (refine o_call rfl _ (Ent.refl _) (Fn.atPick (rLeft_g _ (by assumption) (by assumption) _)) rfl ?_; rintro _ _ ⟨rfl, rfl⟩)
    refine o_give (g_bin (evv rfl) (evv rfl) (by rfl)) rfl rfl ?_
    refine o_nil ?_
    refine c_code ?_
    have hdl : (B.drop a).length = B.length - a := by simp
    refine r_cond rfl (fun hc => ?_) (fun hc => ?_)
    · have hc := of_decide_eq_true hc
      have hT : digestR ⟨B.drop a, 0⟩ = (List.replicate 32 0, ⟨[], 20⟩) := by rw [digestR, takeR_cut' (by omega)]; rfl
      rw [hT]
      refine r_seq ?_
      refine r_region (id := 5) ?_
      refine o_give (g_move (evv rfl)) rfl rfl ?_
      (refine o_call rfl _ (Ent.refl _) (Fn.atPick (rbad_g _ _ _)) rfl ?_; rintro _ _ ⟨rfl, rfl⟩)
      refine o_nil ?_
      refine c_code ?_
      refine r_seq ?_
      refine r_region (id := 6) ?_
      refine o_give (g_loadF (evv rfl) (by rfl) (by rfl)) rfl rfl ?_
      refine o_storeW (evv rfl) (evv rfl) (by first | rfl | assumption | (simp [bys, *]; done) | fail) (by first | (intro _ _ _; exact bys_one _) | exact AllOne.h | (intro _ _ _ u hu; simp at hu; rcases hu with rfl | rfl | rfl | rfl | rfl | rfl | rfl | rfl <;> rfl) | fail) (by first | rfl | (simp [bys, *]; done) | (simp only [bys, List.length_map, *]; rfl) | fail) ?_
      refine o_nil ?_
      refine c_code ?_
      exact r_retC (rs := [.cell 2 52]) rfl (ro_agg rfl rfl rfl ro_nil) _ (Ent.drop.trans Ent.drop) ⟨B.length, 20, Nat.le_refl _, rfl, by rw [List.drop_of_length_le (Nat.le_refl _)], rfl⟩
    · have hc := of_decide_eq_false hc
      have hlt : ¬ (B.drop a).length < 32 := by omega
      have hT : digestR ⟨B.drop a, 0⟩ = ((B.drop a).take 32, ⟨(B.drop a).drop 32, 0⟩) := by
        simp only [digestR, takeR, if_true, if_neg hlt]
        rw [pad32, show 32 - ((B.drop a).take 32).length = 0 by simp; omega]; simp
      rw [hT]
      refine r_skip ?_
      refine c_code ?_
      refine r_seq ?_
      refine r_seq ?_
      refine r_region (id := 7) ?_
      refine o_give (g_assign (evv rfl)) rfl rfl ?_
      refine o_nil ?_
      refine c_code ?_
      refine r_block ?_
      refine r_loopE (σ := Nat × List UInt8) (fun ⟨i, d⟩ => i ≤ 32 ∧ d = (B.drop a).take i ++ List.replicate (32 - i) 0) (fun ⟨i, d⟩ => 32 - i) (fun ⟨i, d⟩ => [(4, .v (.int .i64 i))]) [0, 2, 3] (fun ⟨i, d⟩ => blk b2 ⟨bys d, 52⟩ :: blk b1 ⟨bys (List.replicate 32 0), 52⟩ :: g (blk r (rC u a 0))) (0, List.replicate 32 0) (by dsimp only [pickE, pick1, lk2, Nat.reduceBEq, Nat.reduceAdd, Nat.zero_add, cond_true, cond_false] <;> exact rfl) ?_ (by repeat (first | exact trivial | refine ⟨rfl, ?_⟩ | refine envsub_v rfl (by first | rfl | (refine int_eq ?_; first | omega | (simp; omega) | (simp; done)) | (refine bool_eq ?_; first | (simp [*]; done) | (simp; done)) | (refine str_eq ?_; simp; done) | (refine ptr_eq ?_; omega) | fail) ?_)) ?_ ?_
      · exact ⟨Nat.zero_le _, rfl⟩
      · exact Ent.refl _
      rintro ⟨i, d⟩ ⟨h1, h3⟩; dsimp only [List.cons_append, List.nil_append]
      have hd32 : d.length = 32 := by rw [h3]; simp; omega
      refine r_seq ?_
      refine r_seq ?_
      refine r_region (id := 8) ?_
      refine o_give (g_move (evv rfl)) rfl rfl ?_
      refine o_give (g_bin (evv rfl) (evv rfl) (by rfl)) rfl rfl ?_
      refine o_nil ?_
      refine c_code ?_
      refine r_cond rfl (fun hd => ?_) (fun hd => ?_) <;> (try simp only [decide_eq_true_eq, decide_eq_false_iff_not, Bool.and_eq_true, Bool.or_eq_true, Bool.not_eq_true', Bool.and_eq_false_iff, Bool.or_eq_false_iff, Bool.not_eq_false', Bool.not_eq_true, Bool.not_eq_false, Bool.true_eq_false, Bool.false_eq_true, Int.not_lt, Int.not_le, not_and, not_or, ne_eq] at hd)
      · have hbl : i < (bys d).length := by simp [bys]; omega
        have hi : i < (B.drop a).length := by omega
        repeat (first | refine r_seq ?_ | refine c_code ?_ | refine c_blk ?_ | refine r_block ?_ | refine r_skip ?_)
        refine r_held (id := 10) (g (blk r (rC u a 0))) Mixed.h ?_
        refine h_give (i := 0) (by kernel_rfl) rfl (g_move (evv rfl)) rfl rfl ?_
        refine h_give (i := 1) (by kernel_rfl) rfl (g_move (evv rfl)) rfl rfl ?_
        refine h_give (i := 2) (by kernel_rfl) rfl (g_nil (evv rfl)) rfl rfl ?_
        refine h_give (i := 3) (by kernel_rfl) rfl (g_fld (evv rfl)) rfl rfl ?_
        refine h_give (i := 4) (by kernel_rfl) rfl (g_load (evv rfl) (by rfl) (by rfl)) rfl rfl ?_
        refine h_give (i := 5) (by kernel_rfl) rfl (g_move (evv rfl)) rfl rfl ?_
        refine h_give (i := 6) (by kernel_rfl) rfl (g_nil (evv rfl)) rfl rfl ?_
        refine h_give (i := 7) (by kernel_rfl) rfl (g_fld (evv rfl)) rfl rfl ?_
        refine h_give (i := 8) (by kernel_rfl) rfl (g_load (evv rfl) (by rfl) (by rfl)) rfl rfl ?_
        refine h_give (i := 9) (by kernel_rfl) rfl (g_move (evv rfl)) rfl rfl ?_
        refine h_giveN (i := 10) (by kernel_rfl) rfl (g_bin (evv rfl) (evv rfl) (by rfl)) (by simp only [inR]; omega) rfl ?_
        refine h_give (i := 11) (by kernel_rfl) rfl (g_idxMN (evv rfl) (evv rfl) (by rfl) (by first | omega | (have := of_decide_eq_true hg; omega) | (simp at hg; omega) | (simp only [List.length_set, List.length_append, List.length_cons, List.length_nil, List.length_map, List.length_take, List.length_drop, List.length_replicate]; omega))) rfl rfl ?_
        refine h_give (i := 12) (by kernel_rfl) rfl (g_loadM (evv rfl) (by rfl) (by first | omega | (have := of_decide_eq_true hg; omega) | (simp at hg; omega) | (simp only [List.length_set, List.length_append, List.length_cons, List.length_nil, List.length_map, List.length_take, List.length_drop, List.length_replicate]; omega))) rfl rfl ?_
        refine h_give (i := 13) (by kernel_rfl) rfl (g_idxAN (evv rfl) (evv rfl) (by omega)) rfl rfl ?_
        refine h_one (i := 14) (by kernel_rfl) rfl (Ent.drop.trans Ent.drop) ?_
        refine o_storeI (evv rfl) (evv rfl) (by rfl) (by first | omega | (simp [bys]; omega) | fail) ?_
        refine o_nil ?_
        refine h_done (by kernel_rfl) (Ent.drop.trans Ent.drop) ?_
        have hge : B.getD (a + i) default = (B.drop a)[i] := by simp [List.getD_eq_getElem?_getD, List.getElem?_eq_getElem (show a + i < B.length by omega)]
        have hse : (bys d).set (0 + i * 1) (by8 (B.getD (a + i) default)) = bys (d.set i (B.drop a)[i]) := by rw [hge, bys, bys, List.map_set]; congr 1; omega
        rw [hse]
        refine c_blk ?_
        refine c_code ?_
        refine r_region (id := 9) ?_
        refine o_give (g_move (evv rfl)) rfl rfl ?_
        refine o_giveN (g_bin (evv rfl) (evv rfl) (by rfl)) (by simp only [inR]; omega) rfl ?_
        refine o_give (g_assign (evv rfl)) rfl rfl ?_
        refine o_nil ?_
        refine c_loop (i + 1, d.set i (B.drop a)[i]) ?_ ?_ (by repeat (first | exact trivial | refine ⟨rfl, ?_⟩ | refine envsub_v rfl (by first | rfl | (refine int_eq ?_; first | omega | (simp; omega) | (simp; done)) | (refine bool_eq ?_; first | (simp [*]; done) | (simp; done)) | (refine str_eq ?_; simp; done) | (refine ptr_eq ?_; omega) | fail) ?_)) ?_ <;> (try dsimp only)
        · refine ⟨by omega, ?_⟩
          rw [h3, List.take_succ_eq_append_getElem hi, List.set_append, if_neg (by simp; omega)]
          rw [show 32 - i = (32 - (i + 1)) + 1 by omega, List.replicate_succ, List.append_assoc]
          have hm : i - min i (B.length - a) = 0 := by omega
          simp [hm]
        · omega
        · exact Ent.refl _
      · have e32 : i = 32 := by omega
        subst e32
        have e1 : d = (B.drop a).take 32 := by rw [h3]; simp
        rw [← e1]
        clear h3 e1
        have hb32 : (bys d).length = 32 := by simp [bys, hd32]
        refine r_exit rfl ?_
        refine c_code ?_
        refine r_seq ?_
        refine r_region (id := 11) ?_
        refine o_give (g_move (evv rfl)) rfl rfl ?_
        refine o_give (g_nil (evv rfl)) rfl rfl ?_
        refine o_give (g_fld (evv rfl)) rfl rfl ?_
        refine o_give (g_load (evv rfl) (by rfl) (by rfl)) rfl rfl ?_
        refine o_giveN (g_bin (evv rfl) (evv rfl) (by rfl)) (by simp only [inR]; omega) rfl ?_
        refine o_give (g_nil (evv rfl)) rfl rfl ?_
        refine o_give (g_fld (evv rfl)) rfl rfl ?_
        refine o_store1 (evv rfl) (evv rfl) (by rfl) (by rfl) (by rfl) ?_
        refine o_nil ?_
        refine c_code ?_
        refine r_seq ?_
        refine r_region (id := 12) ?_
        refine o_give (g_loadW (evv rfl) (by rfl) (by first | rfl | assumption | (simp [bys, *]; done) | fail)) rfl rfl ?_
        refine o_storeW (evv rfl) (evv rfl) (by first | rfl | assumption | (simp [bys, *]; done) | fail) (by first | (intro _ _ _; exact bys_one _) | exact AllOne.h | (intro _ _ _ u hu; simp at hu; rcases hu with rfl | rfl | rfl | rfl | rfl | rfl | rfl | rfl <;> rfl) | fail) (by first | rfl | (simp [bys, *]; done) | (simp only [bys, List.length_map, *]; rfl) | fail) ?_
        refine o_nil ?_
        refine c_code ?_
        exact r_retC (rs := [.cell 2 52]) rfl (ro_agg rfl rfl (by simp [bys, hd32]) ro_nil) _ (Ent.drop.trans Ent.drop) ⟨a + 32, 0, by omega, rfl, by rw [List.drop_drop], rfl⟩
end VK
