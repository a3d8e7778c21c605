/- What In reads: its state is the bytes that are left and the first thing that was wrong. Conditions: none. -/
import Derived.Test.YtpknikpkepcbcaaRef
namespace VK
open Go Go.Proofs
set_option linter.unusedSimpArgs false
set_option linter.unusedVariables false
set_option maxRecDepth 100000
set_option maxHeartbeats 40000000

structure InS where
  bs : List UInt8
  err : Int
/-- an In: its bytes are a part of a row of its own -/
def inX (i : Nat) (s : InS) : {x : Value × Value × List UInt8 // Rd [sl x.2.1 (mrow by8 5 x.2.2)] x.1 (mrow by8 5 s.bs)} → List Atom :=
  fun x => [blk i ⟨[x.1.1, .int .i64 s.err], 83⟩, sl x.1.2.1 (mrow by8 5 x.1.2.2)]
def inA (i : Nat) (s : InS) : Atom := exA (inX i s)
theorem inA_shut {i : Nat} {s : InS} {v w : Value} {full : List UInt8} {F : List Atom} (h : Rd [sl w (mrow by8 5 full)] v (mrow by8 5 s.bs)) :
    Ent (blk i ⟨[v, .int .i64 s.err], 83⟩ :: sl w (mrow by8 5 full) :: F) (inA i s :: F) := Ent.shut (X := inX i s) ⟨(v, w, full), h⟩
theorem Rd.app {L F : List Atom} {v : Value} {r : Row} (h : Rd L v r) : Rd (L ++ F) v r := ⟨fun W0 w hs => h.rd W0 w ⟨hs.os, hs.tape, hs.output, by obtain ⟨h1, h2, s, ha, hb⟩ := star_app hs.heap; exact star_mono s.2.1 ha⟩⟩
theorem Rd.one {A : Atom} {F : List Atom} {v : Value} {r : Row} (h : Rd [A] v r) : Rd (A :: F) v r := Rd.app (L := [A]) h

theorem fail_c (F : List Atom) (i : Nat) (s : InS) (e : Int) : Fn Try.prog 48 [.pointer (some ⟨i, 0, none⟩), .int .i64 e] (inA i s :: F) fun v L' => v = .tuple #[] ∧ L' = inA i ⟨[], e⟩ :: F := by
  refine Fn.exA ?_
  rintro ⟨⟨v, w, full⟩, hr⟩
  refine fn_intro Try.func48 rfl Try.ntmps48 rfl (fun W0 => ?_)
  simp only [inX, List.cons_append, List.nil_append, argE]
  refine r_region (id := 0) ?_
  refine o_give (g_move (evv rfl)) rfl rfl ?_
  refine o_give (g_move (evv rfl)) rfl rfl ?_
  refine o_give (g_move (evv rfl)) rfl rfl ?_
  refine o_give (g_nil (evv rfl)) rfl rfl ?_
  refine o_give (g_fld (evv rfl)) rfl rfl ?_
  refine o_store1 (evv rfl) (evv rfl) (by rfl) (by rfl) (by rfl) ?_
  refine o_give (g_nil (evv rfl)) rfl rfl ?_
  refine o_give (g_fld (evv rfl)) rfl rfl ?_
  refine o_store1 (evv rfl) (evv rfl) (by rfl) (by rfl) (by rfl) ?_
  refine o_nil ?_
  exact c_end (rs := []) rfl rfl _ (inA_shut (s := ⟨[], e⟩) (Rd.nilM by8 _)) ⟨rfl, rfl⟩
theorem fail_l {L : List Atom} {i : Nat} {s : InS} {g : Atom → List Atom} [pk : Pick (inA i) L s g] (e : Int) :
    Fn Try.prog 48 [.pointer (some ⟨i, 0, none⟩), .int .i64 e] L fun v L' => v = .tuple #[] ∧ L' = g (inA i ⟨[], e⟩) := Fn.lift1 (fun F => fail_c F i s e) pk

def nextV (s : InS) : Value := if s.err = 0 then (match s.bs with | [] => .tuple #[.int .u8 0, .bool false] | c :: _ => .tuple #[by8 c, .bool true]) else .tuple #[.int .u8 0, .bool false]
def nextS (s : InS) : InS := if s.err = 0 then (match s.bs with | [] => ⟨[], 20⟩ | _ :: r => ⟨r, 0⟩) else s
theorem next_c (F : List Atom) (i : Nat) (s : InS) : Fn Try.prog 47 [.pointer (some ⟨i, 0, none⟩)] (inA i s :: F) fun v L' => v = nextV s ∧ L' = inA i (nextS s) :: F := by
  obtain ⟨bs, e⟩ := s
  refine Fn.exA ?_
  rintro ⟨⟨v, w, full⟩, hr⟩
  dsimp only at hr
  refine fn_intro Try.func47 rfl Try.ntmps47 rfl (fun W0 => ?_)
  haveI := hr.one (F := F)
  simp only [inX, List.cons_append, List.nil_append, argE]
  by_cases he : e = 0
  · subst he
    cases bs with
    | nil =>
      refine r_seq ?_
      refine r_region (id := 0) ?_
      refine o_give (g_assign (evv rfl)) rfl rfl ?_
      refine o_give (g_assign (evv rfl)) rfl rfl ?_
      refine o_nil ?_
      refine c_code ?_
      refine r_seq ?_
      refine r_seq ?_
      refine r_region (id := 1) ?_
      refine o_give (g_move (evv rfl)) rfl rfl ?_
      refine o_give (g_pnil TyU.h (evv rfl) (evv rfl) (by simp) (by rfl)) rfl rfl ?_
      refine o_give (g_move (evv rfl)) rfl rfl ?_
      refine o_gyes rfl ?_
      refine o_give (g_move (evv rfl)) rfl rfl ?_
      refine o_gyes rfl ?_
      refine o_give (g_nil (evv rfl)) rfl rfl ?_
      refine o_gyes rfl ?_
      refine o_give (g_fld (evv rfl)) rfl rfl ?_
      refine o_gyes rfl ?_
      refine o_give (g_load (evv rfl) (by rfl) (by rfl)) rfl rfl ?_
      refine o_gyes rfl ?_
      refine o_give (g_bin (evv rfl) (evv rfl) (by rfl)) rfl rfl ?_
      refine o_give (g_pick (b := false) (evv rfl) (fun h => by cases h) (fun _ => (evv rfl))) rfl rfl ?_
      refine o_nil ?_
      refine c_code ?_
      refine r_cond_false rfl ?_
      refine r_skip ?_
      refine c_code ?_
      refine r_seq ?_
      refine r_seq ?_
      refine r_region (id := 3) ?_
      refine o_give (g_move (evv rfl)) rfl rfl ?_
      refine o_give (g_nil (evv rfl)) rfl rfl ?_
      refine o_give (g_fld (evv rfl)) rfl rfl ?_
      refine o_give (g_load (evv rfl) (by rfl) (by rfl)) rfl rfl ?_
      refine o_give (g_lenM (evv rfl)) rfl rfl ?_
      refine o_give (g_bin (evv rfl) (evv rfl) (by rfl)) rfl rfl ?_
      refine o_nil ?_
      refine c_code ?_
      refine r_cond_true rfl ?_
      refine r_seq ?_
      refine r_ent _ (inA_shut (s := ⟨[], 0⟩) hr) ?_
      refine r_region (id := 4) ?_
      refine o_give (g_move (evv rfl)) rfl rfl ?_
      (refine o_call rfl _ (Ent.refl _) (fail_l _) rfl ?_; rintro _ _ ⟨rfl, rfl⟩)
      refine o_nil ?_
      refine c_code ?_
      refine r_seq ?_
      refine r_region (id := 5) ?_
      refine o_give (g_assign (evv rfl)) rfl rfl ?_
      refine o_give (g_assign (evv rfl)) rfl rfl ?_
      refine o_nil ?_
      refine c_code ?_
      exact r_ret (rs := [.tmp 2, .tmp 3]) rfl rfl _ (Ent.refl _) ⟨rfl, rfl⟩
    | cons c r =>
      have hpos : 0 < (c :: r).length := by simp
      refine r_seq ?_
      refine r_region (id := 0) ?_
      refine o_give (g_assign (evv rfl)) rfl rfl ?_
      refine o_give (g_assign (evv rfl)) rfl rfl ?_
      refine o_nil ?_
      refine c_code ?_
      refine r_seq ?_
      refine r_seq ?_
      refine r_region (id := 1) ?_
      refine o_give (g_move (evv rfl)) rfl rfl ?_
      refine o_give (g_pnil TyU.h (evv rfl) (evv rfl) (by simp) (by rfl)) rfl rfl ?_
      refine o_give (g_move (evv rfl)) rfl rfl ?_
      refine o_gyes rfl ?_
      refine o_give (g_move (evv rfl)) rfl rfl ?_
      refine o_gyes rfl ?_
      refine o_give (g_nil (evv rfl)) rfl rfl ?_
      refine o_gyes rfl ?_
      refine o_give (g_fld (evv rfl)) rfl rfl ?_
      refine o_gyes rfl ?_
      refine o_give (g_load (evv rfl) (by rfl) (by rfl)) rfl rfl ?_
      refine o_gyes rfl ?_
      refine o_give (g_bin (evv rfl) (evv rfl) (by rfl)) rfl rfl ?_
      refine o_give (g_pick (b := false) (evv rfl) (fun h => by cases h) (fun _ => (evv rfl))) rfl rfl ?_
      refine o_nil ?_
      refine c_code ?_
      refine r_cond_false rfl ?_
      refine r_skip ?_
      refine c_code ?_
      refine r_seq ?_
      refine r_seq ?_
      refine r_region (id := 3) ?_
      refine o_give (g_move (evv rfl)) rfl rfl ?_
      refine o_give (g_nil (evv rfl)) rfl rfl ?_
      refine o_give (g_fld (evv rfl)) rfl rfl ?_
      refine o_give (g_load (evv rfl) (by rfl) (by rfl)) rfl rfl ?_
      refine o_give (g_lenM (evv rfl)) rfl rfl ?_
      refine o_give (g_bin (evv rfl) (evv rfl) (by rfl)) rfl rfl ?_
      refine o_nil ?_
      refine c_code ?_
      refine r_cond_false rfl ?_
      refine r_skip ?_
      refine c_code ?_
      refine r_seq ?_
      refine r_region (id := 6) ?_
      refine o_give (g_move (evv rfl)) rfl rfl ?_
      refine o_give (g_nil (evv rfl)) rfl rfl ?_
      refine o_give (g_fld (evv rfl)) rfl rfl ?_
      refine o_give (g_load (evv rfl) (by rfl) (by rfl)) rfl rfl ?_
      refine o_give (g_idxMN (evv rfl) (evv rfl) (by rfl) (by first | omega | (have := of_decide_eq_true hg; omega) | (simp at hg; omega) | (simp only [List.length_set, List.length_append, List.length_cons, List.length_nil, List.length_map, List.length_take, List.length_drop, List.length_replicate]; omega))) rfl rfl ?_
      refine o_give (g_loadM (evv rfl) (by rfl) (by first | omega | (have := of_decide_eq_true hg; omega) | (simp at hg; omega) | (simp only [List.length_set, List.length_append, List.length_cons, List.length_nil, List.length_map, List.length_take, List.length_drop, List.length_replicate]; omega))) rfl rfl ?_
      refine o_give (g_assign (evv rfl)) rfl rfl ?_
      refine o_nil ?_
      refine c_code ?_
      refine r_seq ?_
      refine r_region (id := 7) ?_
      refine o_give (g_move (evv rfl)) rfl rfl ?_
      refine o_give (g_move (evv rfl)) rfl rfl ?_
      refine o_give (g_nil (evv rfl)) rfl rfl ?_
      refine o_give (g_fld (evv rfl)) rfl rfl ?_
      refine o_give (g_load (evv rfl) (by rfl) (by rfl)) rfl rfl ?_
      refine o_give (g_subM (evv rfl) _ _ (bnd_to (evv rfl) (by omega)) bnd_none (by rfl) (by omega) (by omega)) rfl rfl ?_
      refine o_give (g_nil (evv rfl)) rfl rfl ?_
      refine o_give (g_fld (evv rfl)) rfl rfl ?_
      refine o_store1 (evv rfl) (evv rfl) (by rfl) (by rfl) (by rfl) ?_
      refine o_nil ?_
      refine c_code ?_
      refine r_seq ?_
      refine r_region (id := 8) ?_
      refine o_give (g_move (evv rfl)) rfl rfl ?_
      refine o_give (g_assign (evv rfl)) rfl rfl ?_
      refine o_give (g_assign (evv rfl)) rfl rfl ?_
      refine o_nil ?_
      refine c_code ?_
      exact r_ret (rs := [.tmp 2, .tmp 3]) rfl rfl _ (inA_shut (s := ⟨r, 0⟩) ((Rd.subM (rd := hr)).as (by simp))) ⟨rfl, rfl⟩
  · have he' : decide (e = 0) = false := decide_eq_false he
    refine r_seq ?_
    refine r_region (id := 0) ?_
    refine o_give (g_assign (evv rfl)) rfl rfl ?_
    refine o_give (g_assign (evv rfl)) rfl rfl ?_
    refine o_nil ?_
    refine c_code ?_
    refine r_seq ?_
    refine r_seq ?_
    refine r_region (id := 1) ?_
    refine o_give (g_move (evv rfl)) rfl rfl ?_
    refine o_give (g_pnil TyU.h (evv rfl) (evv rfl) (by simp) (by rfl)) rfl rfl ?_
    refine o_give (g_move (evv rfl)) rfl rfl ?_
    refine o_gyes rfl ?_
    refine o_give (g_move (evv rfl)) rfl rfl ?_
    refine o_gyes rfl ?_
    refine o_give (g_nil (evv rfl)) rfl rfl ?_
    refine o_gyes rfl ?_
    refine o_give (g_fld (evv rfl)) rfl rfl ?_
    refine o_gyes rfl ?_
    refine o_give (g_load (evv rfl) (by rfl) (by rfl)) rfl rfl ?_
    refine o_gyes rfl ?_
    refine o_give (g_bin (evv rfl) (evv rfl) (by rfl)) rfl rfl ?_
    refine o_give (g_pick (b := false) (evv rfl) (fun h => by cases h) (fun _ => (evv rfl))) rfl rfl ?_
    refine o_nil ?_
    refine c_code ?_
    refine r_cond rfl (fun hc => ?_) (fun hc => ?_)
    · refine r_seq ?_
      refine r_region (id := 2) ?_
      refine o_give (g_assign (evv rfl)) rfl rfl ?_
      refine o_give (g_assign (evv rfl)) rfl rfl ?_
      refine o_nil ?_
      refine c_code ?_
      exact r_ret (rs := [.tmp 2, .tmp 3]) rfl rfl _ (inA_shut (s := ⟨bs, e⟩) hr) ⟨by simp only [nextV, if_neg he]; rfl, by simp only [nextS, if_neg he]⟩
    · simp [he'] at hc
theorem next_l {L : List Atom} {i : Nat} {s : InS} {g : Atom → List Atom} [pk : Pick (inA i) L s g] :
    Fn Try.prog 47 [.pointer (some ⟨i, 0, none⟩)] L fun v L' => v = nextV s ∧ L' = g (inA i (nextS s)) := Fn.lift1 (fun F => next_c F i s) pk

theorem numStep {n k c : Nat} (hn : n < 128 ^ k) (hk : k ≤ 9) (hc : c < 256) (h9 : k = 9 → c ≤ 1) :
    IntKind.u64.wrap ↑(BitVec.ofInt IntKind.u64.bits ↑n ||| BitVec.ofInt IntKind.u64.bits (↑((↑c : Int).toNat &&& Int.toNat 127) % 18446744073709551616 * 2 ^ min (7 * (k : Int)).toNat IntKind.u64.bits % 18446744073709551616)).toNat
      = ((n + c % 128 * 128 ^ k : Nat) : Int) := by
  have e0 : min (7 * (k : Int)).toNat IntKind.u64.bits = 7 * k := by show min _ 64 = _; omega
  have e1 : (2 : Int) ^ (7 * k) = ((128 ^ k : Nat) : Int) := by rw [Int.natCast_pow]; rw [Int.pow_mul]; rfl
  have e2 : ((c : Int).toNat &&& Int.toNat 127) = c % 128 := Nat.and_two_pow_sub_one_eq_mod c 7
  have hp : 128 ^ k = 2 ^ (7 * k) := by rw [Nat.pow_mul]
  have hb : c % 128 * 128 ^ k + 128 ^ k ≤ 18446744073709551616 := by
    have : ∀ k : Nat, k ≤ 9 → 128 ^ k ≤ 9223372036854775808 := by decide
    have h1 := this k hk
    by_cases h : k = 9
    · subst h; have := h9 rfl; omega
    · have : ∀ k : Nat, k ≤ 8 → 128 ^ k ≤ 72057594037927936 := by decide
      have h2 := this k (by omega)
      have : c % 128 * 128 ^ k ≤ 127 * 128 ^ k := Nat.mul_le_mul_right _ (by omega)
      omega
  generalize hP : 128 ^ k = P at *
  rw [e0, e1, e2]
  have em : ((c % 128 : Nat) : Int) % 18446744073709551616 = ((c % 128 : Nat) : Int) := by omega
  rw [em, ← Int.natCast_mul]
  generalize hm : c % 128 * P = m at *
  have e3 : (m : Int) % 18446744073709551616 = (m : Int) := by omega
  rw [e3]
  have o1 : ∀ x : Nat, x < 18446744073709551616 → (BitVec.ofInt IntKind.u64.bits (x : Int)).toNat = x := fun x hx => by
    show (BitVec.ofInt 64 (x : Int)).toNat = x
    rw [BitVec.toNat_ofInt]; omega
  rw [BitVec.toNat_or, o1 _ (by omega), o1 _ (by omega)]
  have e4 : n ||| m = n + m := by
    rw [← hm, hp, Nat.mul_comm, Nat.or_comm, ← Nat.two_pow_add_eq_or_of_lt (by omega), Nat.add_comm]
  rw [e4]
  exact wrap_in (by simp only [inR]; omega)
/-- a number's bytes, read: its value, what is left -/
def numGo : Nat → Nat → List UInt8 → Nat × InS
  | _, _, [] => (0, ⟨[], 20⟩)
  | k, n, c :: r => if k = 9 ∧ 1 < c.toNat ∨ 0 < k ∧ c.toNat = 0 then (0, ⟨[], 21⟩) else if c.toNat < 128 then (n + c.toNat % 128 * 128 ^ k, ⟨r, 0⟩) else numGo (k + 1) (n + c.toNat % 128 * 128 ^ k) r
def numR (s : InS) : Nat × InS := if s.err = 0 then numGo 0 0 s.bs else (0, s)
theorem inNum_c (F : List Atom) (i : Nat) (s : InS) : Fn Try.prog 40 [.pointer (some ⟨i, 0, none⟩)] (inA i s :: F) fun v L' => v = .int .u64 (numR s).1 ∧ L' = inA i (numR s).2 :: F := by
  refine fn_intro Try.func40 rfl Try.ntmps40 rfl (fun W0 => ?_)
  simp only [argE]
  obtain ⟨bs, e⟩ := s
  by_cases he : e = 0
  · subst he
    refine r_seq ?_
    refine r_region (id := 0) ?_
    refine o_give (g_assign (evv rfl)) rfl rfl ?_
    refine o_nil ?_
    refine c_code ?_
    refine r_seq ?_
    refine r_region (id := 1) ?_
    refine o_give (g_assign (evv rfl)) rfl rfl ?_
    refine o_nil ?_
    refine c_code ?_
    refine r_seq ?_
    refine r_region (id := 2) ?_
    refine o_give (g_assign (evv rfl)) rfl rfl ?_
    refine o_nil ?_
    refine c_code ?_
    refine r_block ?_
    refine r_loop (σ := Nat × Nat × List UInt8) (fun s => numGo s.1 s.2.1 s.2.2 = numGo 0 0 bs ∧ s.1 ≤ 9 ∧ s.2.1 < 128 ^ s.1) (fun s => s.2.2.length) (fun s => [(0, .v (.pointer (some ⟨i, 0, none⟩))), (3, .v (.int .u64 s.2.1)), (4, .v (.int .i64 s.1))]) (fun s => inA i ⟨s.2.2, 0⟩ :: F) (0, 0, bs) ⟨rfl, Nat.zero_le _, Nat.one_pos⟩ ⟨rfl, rfl, rfl, trivial⟩ (Ent.refl _) ?_
    rintro ⟨k, n, cs⟩ ⟨h1, h2, h3⟩
    dsimp only at h1 h2 h3 ⊢
    cases cs with
    | nil =>
      refine r_seq ?_
      refine r_block ?_
      refine r_seq ?_
      refine r_region (id := 4) ?_
      refine o_give (g_move (evv rfl)) rfl rfl ?_
      (refine o_call rfl _ (Ent.refl _) next_l rfl ?_; rintro _ _ ⟨rfl, rfl⟩)
      refine o_give (g_move (evv rfl)) rfl rfl ?_
      refine o_give (g_extract (evv rfl) (by rfl)) rfl rfl ?_
      refine o_give (g_extract (evv rfl) (by rfl)) rfl rfl ?_
      refine o_give (g_assign (evv rfl)) rfl rfl ?_
      refine o_give (g_assign (evv rfl)) rfl rfl ?_
      refine o_nil ?_
      refine c_code ?_
      refine r_seq ?_
      refine r_seq ?_
      refine r_region (id := 5) ?_
      refine o_give (g_move (evv rfl)) rfl rfl ?_
      refine o_give (g_not (evv rfl)) rfl rfl ?_
      refine o_nil ?_
      refine c_code ?_
      refine r_cond_true rfl ?_
      refine r_seq ?_
      refine r_region (id := 6) ?_
      refine o_give (g_assign (evv rfl)) rfl rfl ?_
      refine o_nil ?_
      refine c_code ?_
      refine r_ret (rs := [.tmp 2]) rfl rfl _ (Ent.refl _) ?_
      simp only [numR, if_true, ← h1]
      exact ⟨rfl, rfl⟩
    | cons c r =>
      have hc256 : c.toNat < 256 := c.toNat_lt
      refine r_seq ?_
      refine r_block ?_
      refine r_seq ?_
      refine r_region (id := 4) ?_
      refine o_give (g_move (evv rfl)) rfl rfl ?_
      (refine o_call rfl _ (Ent.refl _) next_l rfl ?_; rintro _ _ ⟨rfl, rfl⟩)
      refine o_give (g_move (evv rfl)) rfl rfl ?_
      refine o_give (g_extract (evv rfl) (by rfl)) rfl rfl ?_
      refine o_give (g_extract (evv rfl) (by rfl)) rfl rfl ?_
      refine o_give (g_assign (evv rfl)) rfl rfl ?_
      refine o_give (g_assign (evv rfl)) rfl rfl ?_
      refine o_nil ?_
      refine c_code ?_
      refine r_seq ?_
      refine r_seq ?_
      refine r_region (id := 5) ?_
      refine o_give (g_move (evv rfl)) rfl rfl ?_
      refine o_give (g_not (evv rfl)) rfl rfl ?_
      refine o_nil ?_
      refine c_code ?_
      refine r_cond_false rfl ?_
      refine r_skip ?_
      refine c_code ?_
      refine r_seq ?_
      refine r_seq ?_
      refine r_region (id := 7) ?_
      refine o_give (g_move (evv rfl)) rfl rfl ?_
      refine o_give (g_bin (evv rfl) (evv rfl) (by rfl)) rfl rfl ?_
      refine o_give (g_move (evv rfl)) rfl rfl ?_
      refine o_lazy rfl (fun hg => g_move (by first | exact evv rfl | exact evg rfl (by rw [hp]; rfl) | exact evg rfl hp | exact evg rfl hg | exact evg rfl (by first | (simp_all; done) | (simp [*]; done) | fail) | fail)) rfl rfl ?_
      refine o_lazy rfl (fun hg => g_bin (by first | exact evv rfl | exact evg rfl (by rw [hp]; rfl) | exact evg rfl hp | exact evg rfl hg | exact evg rfl (by first | (simp_all; done) | (simp [*]; done) | fail) | fail) (by first | exact evv rfl | exact evg rfl (by rw [hp]; rfl) | exact evg rfl hp | exact evg rfl hg | exact evg rfl (by first | (simp_all; done) | (simp [*]; done) | fail) | fail) (by rfl)) rfl rfl ?_
      refine o_give (g_pick_and (evv rfl) (evv rfl) (fun hp => (by first | exact evv rfl | exact evg rfl (by rw [hp]; rfl) | exact evg rfl hp | exact evg rfl hg | exact evg rfl (by first | (simp_all; done) | (simp [*]; done) | fail) | fail))) rfl rfl ?_
      refine o_give (g_move (evv rfl)) rfl rfl ?_
      refine o_lazy rfl (fun hg => g_move (by first | exact evv rfl | exact evg rfl (by rw [hp]; rfl) | exact evg rfl hp | exact evg rfl hg | exact evg rfl (by first | (simp_all; done) | (simp [*]; done) | fail) | fail)) rfl rfl ?_
      refine o_lazy rfl (fun hg => g_bin (by first | exact evv rfl | exact evg rfl (by rw [hp]; rfl) | exact evg rfl hp | exact evg rfl hg | exact evg rfl (by first | (simp_all; done) | (simp [*]; done) | fail) | fail) (by first | exact evv rfl | exact evg rfl (by rw [hp]; rfl) | exact evg rfl hp | exact evg rfl hg | exact evg rfl (by first | (simp_all; done) | (simp [*]; done) | fail) | fail) (by rfl)) rfl rfl ?_
      refine o_lazy rfl (fun hg => g_move (by first | exact evv rfl | exact evg rfl (by rw [hp]; rfl) | exact evg rfl hp | exact evg rfl hg | exact evg rfl (by first | (simp_all; done) | (simp [*]; done) | fail) | fail)) rfl rfl ?_
      refine o_lazy rfl (fun hg => g_move (by first | exact evv rfl | exact evg rfl (by rw [hp]; rfl) | exact evg rfl hp | exact evg rfl hg | exact evg rfl (by first | (simp_all; done) | (simp [*]; done) | fail) | fail)) rfl rfl ?_
      refine o_lazy rfl (fun hg => g_bin (by first | exact evv rfl | exact evg rfl (by rw [hp]; rfl) | exact evg rfl hp | exact evg rfl hg | exact evg rfl (by first | (simp_all; done) | (simp [*]; done) | fail) | fail) (by first | exact evv rfl | exact evg rfl (by rw [hp]; rfl) | exact evg rfl hp | exact evg rfl hg | exact evg rfl (by first | (simp_all; done) | (simp [*]; done) | fail) | fail) (by rfl)) rfl rfl ?_
      refine o_lazy rfl (fun hg => g_pick_and (by first | exact evv rfl | exact evg rfl (by rw [hp]; rfl) | exact evg rfl hp | exact evg rfl hg | exact evg rfl (by first | (simp_all; done) | (simp [*]; done) | fail) | fail) (by first | exact evv rfl | exact evg rfl (by rw [hp]; rfl) | exact evg rfl hp | exact evg rfl hg | exact evg rfl (by first | (simp_all; done) | (simp [*]; done) | fail) | fail) (fun hp => (by first | exact evv rfl | exact evg rfl (by rw [hp]; rfl) | exact evg rfl hp | exact evg rfl hg | exact evg rfl (by first | (simp_all; done) | (simp [*]; done) | fail) | fail))) rfl rfl ?_
      refine o_give (g_pick_or (evv rfl) (evv rfl) (fun hp => (by first | exact evv rfl | exact evg rfl (by rw [hp]; rfl) | exact evg rfl hp | exact evg rfl hg | exact evg rfl (by first | (simp_all; done) | (simp [*]; done) | fail) | fail))) rfl rfl ?_
      refine o_nil ?_
      refine c_code ?_
      refine r_cond rfl (fun hc => ?_) (fun hc => ?_)
      · have hb : k = 9 ∧ 1 < c.toNat ∨ 0 < k ∧ c.toNat = 0 := by simp only [Bool.or_eq_true, Bool.and_eq_true, decide_eq_true_eq] at hc; omega
        refine r_seq ?_
        refine r_region (id := 8) ?_
        refine o_give (g_move (evv rfl)) rfl rfl ?_
        (refine o_call rfl _ (Ent.refl _) (fail_l _) rfl ?_; rintro _ _ ⟨rfl, rfl⟩)
        refine o_nil ?_
        refine c_code ?_
        refine r_seq ?_
        refine r_region (id := 9) ?_
        refine o_give (g_assign (evv rfl)) rfl rfl ?_
        refine o_nil ?_
        refine c_code ?_
        refine r_ret (rs := [.tmp 2]) rfl rfl _ (Ent.refl _) ?_
        have e : numR ⟨bs, 0⟩ = (0, ⟨[], 21⟩) := by simp only [numR, if_true, ← h1, numGo, if_pos hb]
        rw [e]
        exact ⟨rfl, rfl⟩
      · have hb : ¬ (k = 9 ∧ 1 < c.toNat ∨ 0 < k ∧ c.toNat = 0) := by simp only [Bool.or_eq_false_iff, Bool.and_eq_false_iff, decide_eq_false_iff_not] at hc; omega
        clear hc
        refine r_skip ?_
        refine c_code ?_
        refine r_seq ?_
        refine r_region (id := 10) ?_
        refine o_give (g_move (evv rfl)) rfl rfl ?_
        refine o_give (g_move (evv rfl)) rfl rfl ?_
        refine o_give (g_bits (evv rfl) (evv rfl) (by rfl) (by omega) (by omega) (by omega) (by omega)) rfl rfl ?_
        refine o_giveU (g_conv TyU.h TyU.h (evv rfl)) (by rfl) rfl ?_
        refine o_give (g_move (evv rfl)) rfl rfl ?_
        refine o_giveN (g_bin (evv rfl) (evv rfl) (by rfl)) (by simp only [inR]; omega) rfl ?_
        refine o_giveU (g_shift (evv rfl) (evv rfl) (by rfl) (by omega)) (by rfl) rfl ?_
        refine o_give (g_bin (evv rfl) (evv rfl) (by rfl)) rfl rfl ?_
        refine o_give (g_assign (evv rfl)) rfl rfl ?_
        refine o_nil ?_
        refine c_code ?_
        refine r_seq ?_
        refine r_region (id := 11) ?_
        refine o_give (g_move (evv rfl)) rfl rfl ?_
        refine o_give (g_bin (evv rfl) (evv rfl) (by rfl)) rfl rfl ?_
        refine o_nil ?_
        refine c_code ?_
        rw [numStep h3 h2 hc256 (by omega)]
        have hN : n + c.toNat % 128 * 128 ^ k < 128 ^ (k + 1) := by rw [Nat.pow_succ]; have : c.toNat % 128 * 128 ^ k ≤ 127 * 128 ^ k := Nat.mul_le_mul_right _ (by omega); omega
        refine r_cond rfl (fun hc => ?_) (fun hc => ?_)
        · have hc := of_decide_eq_true hc
          refine r_seq ?_
          refine r_region (id := 12) ?_
          refine o_give (g_move (evv rfl)) rfl rfl ?_
          refine o_give (g_assign (evv rfl)) rfl rfl ?_
          refine o_nil ?_
          refine c_code ?_
          refine r_ret (rs := [.tmp 2]) rfl rfl _ (Ent.refl _) ?_
          have e : numR ⟨bs, 0⟩ = (n + c.toNat % 128 * 128 ^ k, ⟨r, 0⟩) := by simp only [numR, if_true, ← h1, numGo, if_neg hb]; rw [if_pos (by omega)]
          rw [e]
          exact ⟨rfl, rfl⟩
        · have hc := of_decide_eq_false hc
          refine r_skip ?_
          refine c_blk ?_
          refine c_code ?_
          refine r_region (id := 3) ?_
          refine o_give (g_move (evv rfl)) rfl rfl ?_
          refine o_giveN (g_bin (evv rfl) (evv rfl) (by rfl)) (by simp only [inR]; omega) rfl ?_
          refine o_give (g_assign (evv rfl)) rfl rfl ?_
          refine o_nil ?_
          refine c_loop (k + 1, n + c.toNat % 128 * 128 ^ k, r) ⟨?_, ?_, hN⟩ (by dsimp only [List.length_cons]; omega) ⟨rfl, rfl, rfl, trivial⟩ (Ent.refl _)
          · rw [← h1]; simp only [numGo, if_neg hb]; rw [if_neg (by omega)]
          · dsimp only; by_cases h9 : k = 9
            · exfalso; omega
            · omega
  · have hV : nextV ⟨bs, e⟩ = .tuple #[.int .u8 0, .bool false] := by simp only [nextV, if_neg he]
    have hS : nextS ⟨bs, e⟩ = ⟨bs, e⟩ := by simp only [nextS, if_neg he]
    have hR : numR ⟨bs, e⟩ = (0, ⟨bs, e⟩) := by simp only [numR, if_neg he]
    rw [hR]
    refine r_seq ?_
    refine r_region (id := 0) ?_
    refine o_give (g_assign (evv rfl)) rfl rfl ?_
    refine o_nil ?_
    refine c_code ?_
    refine r_seq ?_
    refine r_region (id := 1) ?_
    refine o_give (g_assign (evv rfl)) rfl rfl ?_
    refine o_nil ?_
    refine c_code ?_
    refine r_seq ?_
    refine r_region (id := 2) ?_
    refine o_give (g_assign (evv rfl)) rfl rfl ?_
    refine o_nil ?_
    refine c_code ?_
    refine r_block ?_
    refine r_loop (σ := Unit) (fun _ => True) (fun _ => 0) (fun s => [(0, .v (.pointer (some ⟨i, 0, none⟩))), (3, .v (.int .u64 0)), (4, .v (.int .i64 0))]) (fun s => inA i ⟨bs, e⟩ :: F) () trivial ⟨rfl, rfl, rfl, trivial⟩ (Ent.refl _) ?_
    rintro ⟨⟩ -
    refine r_seq ?_
    refine r_block ?_
    refine r_seq ?_
    refine r_region (id := 4) ?_
    refine o_give (g_move (evv rfl)) rfl rfl ?_
    (refine o_call rfl _ (Ent.refl _) next_l rfl ?_; rintro _ _ ⟨rfl, rfl⟩)
    refine o_give (g_move (evv rfl)) rfl rfl ?_
    rw [hV, hS]
    refine o_give (g_extract (evv rfl) (by rfl)) rfl rfl ?_
    refine o_give (g_extract (evv rfl) (by rfl)) rfl rfl ?_
    refine o_give (g_assign (evv rfl)) rfl rfl ?_
    refine o_give (g_assign (evv rfl)) rfl rfl ?_
    refine o_nil ?_
    refine c_code ?_
    refine r_seq ?_
    refine r_seq ?_
    refine r_region (id := 5) ?_
    refine o_give (g_move (evv rfl)) rfl rfl ?_
    refine o_give (g_not (evv rfl)) rfl rfl ?_
    refine o_nil ?_
    refine c_code ?_
    refine r_cond_true rfl ?_
    refine r_seq ?_
    refine r_region (id := 6) ?_
    refine o_give (g_assign (evv rfl)) rfl rfl ?_
    refine o_nil ?_
    refine c_code ?_
    exact r_ret (rs := [.tmp 2]) rfl rfl _ (Ent.refl _) ⟨rfl, rfl⟩
theorem inNum_l {L : List Atom} {i : Nat} {s : InS} {g : Atom → List Atom} [pk : Pick (inA i) L s g] :
    Fn Try.prog 40 [.pointer (some ⟨i, 0, none⟩)] L fun v L' => v = .int .u64 (numR s).1 ∧ L' = g (inA i (numR s).2) := Fn.lift1 (fun F => inNum_c F i s) pk
theorem numGo_le : ∀ {bs : List UInt8} {k n : Nat}, n < 128 ^ k → k ≤ 9 → (numGo k n bs).1 ≤ 18446744073709551615
  | [], k, n, _, _ => by simp [numGo]
  | c :: r, k, n, h, hk => by
    simp only [numGo]
    split
    · simp
    · rename_i hb
      have h1 : c.toNat % 128 * 128 ^ k ≤ 127 * 128 ^ k := Nat.mul_le_mul_right _ (by omega)
      split
      · dsimp only
        by_cases h9 : k = 9
        · subst h9
          have : c.toNat ≤ 1 := by omega
          have : c.toNat % 128 * 128 ^ 9 ≤ 1 * 128 ^ 9 := Nat.mul_le_mul_right _ (by omega)
          omega
        · have : ∀ k : Nat, k ≤ 8 → 128 ^ k ≤ 72057594037927936 := by decide
          have := this k (by omega)
          omega
      · rename_i hc
        by_cases h9 : k = 9
        · omega
        · exact numGo_le (by rw [Nat.pow_succ]; omega) (by omega)
theorem numR_le (s : InS) : (numR s).1 ≤ 18446744073709551615 := by
  unfold numR
  split
  · exact numGo_le (by simp) (by omega)
  · simp
end VK
