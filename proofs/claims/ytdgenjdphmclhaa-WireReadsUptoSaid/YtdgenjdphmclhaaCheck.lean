/- The check sum. Conditions: none. -/
import Derived.Test.YtdgenjdphmclhaaIn2
namespace VK
open Go Go.Proofs
set_option linter.unusedSimpArgs false
set_option linter.unusedVariables false
set_option maxRecDepth 100000
set_option maxHeartbeats 40000000

def crcBit (s : Nat) : Nat := if s % 2 = 1 then s / 2 ^^^ 3988292384 else s / 2
def crcBits : Nat → Nat → Nat
  | 0, s => s
  | k + 1, s => crcBits k (crcBit s)
def crcByte (s : Nat) (c : UInt8) : Nat := crcBits 8 (s ^^^ c.toNat)
def crcGo (s : Nat) (l : List UInt8) : Nat := l.foldl crcByte s
def crc (l : List UInt8) : Nat := crcGo 4294967295 l ^^^ 4294967295
theorem crcBit_lt {s : Nat} (h : s < 4294967296) : crcBit s < 4294967296 := by
  unfold crcBit
  split
  · exact Nat.xor_lt_two_pow (n := 32) (by omega) (by omega)
  · omega
theorem crcBits_lt : ∀ {k s : Nat}, s < 4294967296 → crcBits k s < 4294967296
  | 0, _, h => h
  | k + 1, s, h => by simp only [crcBits]; exact crcBits_lt (crcBit_lt h)
theorem crcByte_lt {s : Nat} {c : UInt8} (h : s < 4294967296) : crcByte s c < 4294967296 :=
  crcBits_lt (Nat.xor_lt_two_pow (n := 32) h (Nat.lt_of_lt_of_le c.toNat_lt (by decide)))
theorem crcGo_lt : ∀ {l : List UInt8} {s : Nat}, s < 4294967296 → crcGo s l < 4294967296
  | [], _, h => h
  | c :: l, s, h => by
    show crcGo (crcByte s c) l < _
    exact crcGo_lt (crcByte_lt h)
theorem crcGo_app (s : Nat) (l m : List UInt8) : crcGo s (l ++ m) = crcGo (crcGo s l) m := List.foldl_append
theorem Reads.len {L : List Atom} : ∀ {vs : List Value} {bss : List (List UInt8)}, Reads L 5 vs bss → bss.length = vs.length
  | [], [], _ => rfl
  | _ :: _, _ :: _, h => by simp [h.2.len]
theorem crcBit_bits {s : Nat} (h : s < 4294967296) :
    IntKind.u32.wrap ↑(BitVec.ofInt IntKind.u32.bits ((s : Int) / 2) ^^^ BitVec.ofInt IntKind.u32.bits ↑(Int.toNat 3988292384 &&& ((0 - ((s : Int).toNat &&& Int.toNat 1 : Nat)) % 4294967296 : Int).toNat)).toNat = ((crcBit s : Nat) : Int) := by
  have e2 : ((s : Int).toNat &&& Int.toNat 1) = s % 2 := Nat.and_two_pow_sub_one_eq_mod s 1
  have e1 : (BitVec.ofInt IntKind.u32.bits ((s : Int) / 2)).toNat = s / 2 := by
    show (BitVec.ofInt 32 ((s : Int) / 2)).toNat = s / 2
    rw [BitVec.toNat_ofInt]; omega
  have hb := crcBit_lt h
  have e3 : (BitVec.ofInt IntKind.u32.bits ((s : Int) / 2) ^^^ BitVec.ofInt IntKind.u32.bits ↑(Int.toNat 3988292384 &&& ((0 - ((s : Int).toNat &&& Int.toNat 1 : Nat)) % 4294967296 : Int).toNat)).toNat = crcBit s := by
    rw [BitVec.toNat_xor, e1, e2, crcBit]
    by_cases hs : s % 2 = 1
    · rw [if_pos hs, hs]; rfl
    · rw [if_neg hs, show s % 2 = 0 by omega]; exact Nat.xor_zero _
  rw [e3]
  exact wrap_in (by simp only [inR]; omega)
theorem Reads.at {L : List Atom} : ∀ {vs : List Value} {bss : List (List UInt8)}, Reads L 5 vs bss → ∀ j (h : j < vs.length) (h' : j < bss.length), Rd L vs[j] (mrow by8 5 bss[j])
  | _ :: _, _ :: _, h, 0, _, _ => h.1
  | _ :: _, _ :: _, h, j + 1, h1, h2 => h.2.at j (by simpa using h1) (by simpa using h2)
theorem Check_c (L : List Atom) (v : Value) (vs : List Value) (bss : List (List UInt8)) [rd : Rd L v (mrow id 25 vs)] (hb : Reads L 5 vs bss) :
    Fn Try.prog 21 [v] L fun v L' => v = .int .u32 (crc bss.flatten) ∧ L' = L := by
  refine fn_lenM rd fun hvl => ?_
  have hvl : vs.length ≤ 2 ^ 63 - 1 := hvl
  refine fn_intro Try.func21 rfl Try.ntmps21 rfl (fun W0 => ?_)
  simp only [argE]
  refine r_seq ?_
  refine r_region (id := 0) ?_
  refine o_give (g_assign (evv rfl)) rfl rfl ?_
  refine o_nil ?_
  refine c_code ?_
  refine r_seq ?_
  refine r_region (id := 1) ?_
  refine o_give (g_assign (evv rfl)) rfl rfl ?_
  refine o_nil ?_
  refine c_code ?_
  refine r_seq ?_
  refine r_seq ?_
  refine r_region (id := 2) ?_
  refine o_give (g_move (evv rfl)) rfl rfl ?_
  refine o_give (g_lenM (evv rfl)) rfl rfl ?_
  refine o_give (g_move (evv rfl)) rfl rfl ?_
  refine o_nil ?_
  refine c_code ?_
  refine r_block ?_
  have hl := hb.len
  refine r_loop (σ := Nat × Nat) (fun s => s.1 ≤ vs.length ∧ s.2 = crcGo 4294967295 (bss.take s.1).flatten) (fun s => vs.length - s.1) (fun s => [(3, .v (.int .u32 s.2)), (8, .v v), (9, .v (.int .i64 vs.length)), (10, .v (.int .i64 s.1))]) (fun s => L) (0, 4294967295) ⟨Nat.zero_le _, rfl⟩ ⟨rfl, rfl, rfl, rfl, trivial⟩ (Ent.refl _) ?_
  rintro ⟨j, s⟩ ⟨h1, h2⟩
  dsimp only at h1 h2 ⊢
  refine r_seq ?_
  refine r_region (id := 3) ?_
  refine o_give (g_bin (evv rfl) (evv rfl) (by rfl)) rfl rfl ?_
  refine o_nil ?_
  refine c_code ?_
  refine r_seq ?_
  refine r_cond rfl (fun hc => ?_) (fun hc => ?_)
  · have hc := of_decide_eq_true hc
    refine r_skip ?_
    refine c_code ?_
    refine r_seq ?_
    refine r_block ?_
    refine r_seq ?_
    refine r_region (id := 4) ?_
    refine o_give (g_idxMN (evv rfl) (evv rfl) (by rfl) (by first | omega | (have := of_decide_eq_true hg; omega) | (simp at hg; omega) | (simp only [List.length_set, List.length_append, List.length_cons, List.length_nil, List.length_map, List.length_take, List.length_drop, List.length_replicate]; omega))) rfl rfl ?_
    refine o_give (g_loadM (evv rfl) (by rfl) (by first | omega | (have := of_decide_eq_true hg; omega) | (simp at hg; omega) | (simp only [List.length_set, List.length_append, List.length_cons, List.length_nil, List.length_map, List.length_take, List.length_drop, List.length_replicate]; omega))) rfl rfl ?_
    refine o_give (g_assign (evv rfl)) rfl rfl ?_
    refine o_nil ?_
    refine c_code ?_
    refine r_seq ?_
    have hbj := hb.at j (by omega) (by omega)
    rw [show vs[j] = vs.getD j default by simp [show j < vs.length by omega]] at hbj
    have hstep : crcGo 4294967295 (bss.take (j + 1)).flatten = crcGo s (bss[j]'(by omega)) := by
      rw [List.take_succ_eq_append_getElem (by omega), List.flatten_append, crcGo_app, ← h2]; simp
    generalize bss[j]'(by omega) = bs at hbj hstep
    dsimp only [id_eq]
    generalize vs.getD j default = u at hbj
    have hs32 : s < 4294967296 := by rw [h2]; exact crcGo_lt (by decide)
    refine r_lenM hbj fun hul => ?_
    have hul : bs.length ≤ 2 ^ 63 - 1 := hul
    refine r_region (id := 5) ?_
    refine o_give (g_move (evv rfl)) rfl rfl ?_
    refine o_give (g_lenM (evv rfl)) rfl rfl ?_
    refine o_give (g_move (evv rfl)) rfl rfl ?_
    refine o_nil ?_
    refine c_code ?_
    refine r_block ?_
    refine r_loop (σ := Nat × Nat) (fun s' => s'.1 ≤ bs.length ∧ s'.2 = crcGo s (bs.take s'.1)) (fun s => bs.length - s.1) (fun s => [(3, .v (.int .u32 s.2)), (8, .v v), (9, .v (.int .i64 vs.length)), (10, .v (.int .i64 j)), (14, .v u), (15, .v (.int .i64 bs.length)), (16, .v (.int .i64 s.1))]) (fun s => L) (0, s) ⟨Nat.zero_le _, rfl⟩ ⟨rfl, rfl, rfl, rfl, rfl, rfl, rfl, trivial⟩ (Ent.refl _) ?_
    rintro ⟨i, s1⟩ ⟨g1, g2⟩
    dsimp only at g1 g2 ⊢
    have hs1 : s1 < 4294967296 := by rw [g2]; exact crcGo_lt hs32
    refine r_seq ?_
    refine r_region (id := 6) ?_
    refine o_give (g_bin (evv rfl) (evv rfl) (by rfl)) rfl rfl ?_
    refine o_nil ?_
    refine c_code ?_
    refine r_seq ?_
    refine r_cond rfl (fun hd => ?_) (fun hd => ?_)
    · have hd := of_decide_eq_true hd
      refine r_skip ?_
      refine c_code ?_
      refine r_seq ?_
      refine r_block ?_
      refine r_seq ?_
      refine r_region (id := 7) ?_
      refine o_give (g_idxMN (evv rfl) (evv rfl) (by rfl) (by first | omega | (have := of_decide_eq_true hg; omega) | (simp at hg; omega) | (simp only [List.length_set, List.length_append, List.length_cons, List.length_nil, List.length_map, List.length_take, List.length_drop, List.length_replicate]; omega))) rfl rfl ?_
      refine o_give (g_loadM (evv rfl) (by rfl) (by first | omega | (have := of_decide_eq_true hg; omega) | (simp at hg; omega) | (simp only [List.length_set, List.length_append, List.length_cons, List.length_nil, List.length_map, List.length_take, List.length_drop, List.length_replicate]; omega))) rfl rfl ?_
      refine o_give (g_assign (evv rfl)) rfl rfl ?_
      refine o_nil ?_
      refine c_code ?_
      refine r_seq ?_
      refine r_region (id := 8) ?_
      refine o_give (g_move (evv rfl)) rfl rfl ?_
      refine o_give (g_move (evv rfl)) rfl rfl ?_
      refine o_giveU (g_conv TyU.h TyU.h (evv rfl)) (by rfl) rfl ?_
      refine o_give (g_bits (evv rfl) (evv rfl) (by rfl) (by omega) (by omega) (by omega) (by omega)) rfl rfl ?_
      refine o_give (g_assign (evv rfl)) rfl rfl ?_
      refine o_nil ?_
      refine c_code ?_
      refine r_seq ?_
      refine r_region (id := 9) ?_
      refine o_give (g_move (evv rfl)) rfl rfl ?_
      refine o_nil ?_
      refine c_code ?_
      refine r_block ?_
      have hstep1 : crcGo s (bs.take (i + 1)) = crcByte s1 (bs.getD i default) := by
        have hi : i < bs.length := by omega
        rw [List.take_succ_eq_append_getElem hi, crcGo_app, ← g2]
        simp [hi, crcGo]
      generalize bs.getD i default = c at hstep1
      have hc8 : c.toNat < 256 := c.toNat_lt
      have e0 : ((s1 : Int).toNat ^^^ ((c.toNat : Int) % 4294967296).toNat) = s1 ^^^ c.toNat := by rw [show ((c.toNat : Int) % 4294967296).toNat = c.toNat by omega, show (s1 : Int).toNat = s1 by omega]
      rw [e0]
      have hx : s1 ^^^ c.toNat < 4294967296 := Nat.xor_lt_two_pow (n := 32) hs1 (by omega)
      refine r_loop (σ := Nat × Nat) (fun s' => s'.1 ≤ 8 ∧ crcBits (8 - s'.1) s'.2 = crcByte s1 c ∧ s'.2 < 4294967296) (fun s => 8 - s.1) (fun s => [(3, .v (.int .u32 s.2)), (8, .v v), (9, .v (.int .i64 vs.length)), (10, .v (.int .i64 j)), (14, .v u), (15, .v (.int .i64 bs.length)), (16, .v (.int .i64 i)), (24, .v (.int .i64 s.1))]) (fun s => L) (0, s1 ^^^ c.toNat) ⟨by omega, rfl, hx⟩ ⟨rfl, rfl, rfl, rfl, rfl, rfl, rfl, rfl, trivial⟩ (Ent.refl _) ?_
      rintro ⟨q, s2⟩ ⟨k1, k2, k3⟩
      dsimp only at k1 k2 k3 ⊢
      refine r_seq ?_
      refine r_region (id := 10) ?_
      refine o_give (g_bin (evv rfl) (evv rfl) (by rfl)) rfl rfl ?_
      refine o_nil ?_
      refine c_code ?_
      refine r_seq ?_
      refine r_cond rfl (fun ht => ?_) (fun ht => ?_)
      · have ht := of_decide_eq_true ht
        refine r_skip ?_
        refine c_code ?_
        refine r_seq ?_
        refine r_block ?_
        refine r_region (id := 11) ?_
        refine o_give (g_move (evv rfl)) rfl rfl ?_
        refine o_give (g_shrC 2 (evv rfl) (evv rfl) (by rfl) (by decide)) rfl rfl ?_
        refine o_give (g_move (evv rfl)) rfl rfl ?_
        refine o_give (g_bits (evv rfl) (evv rfl) (by rfl) (by omega) (by omega) (by omega) (by omega)) rfl rfl ?_
        refine o_giveU (g_neg (evv rfl)) (by rfl) rfl ?_
        refine o_give (g_bits (evv rfl) (evv rfl) (by rfl) (by omega) (by omega) (by omega) (by omega)) rfl rfl ?_
        refine o_give (g_bin (evv rfl) (evv rfl) (by rfl)) rfl rfl ?_
        refine o_give (g_assign (evv rfl)) rfl rfl ?_
        refine o_nil ?_
        refine c_blk ?_
        refine c_code ?_
        refine r_region (id := 12) ?_
        refine o_giveN (g_bin (evv rfl) (evv rfl) (by rfl)) (by simp only [inR]; omega) rfl ?_
        refine o_give (g_move (evv rfl)) rfl rfl ?_
        refine o_nil ?_
        rw [crcBit_bits k3]
        refine c_loop (q + 1, crcBit s2) ⟨by dsimp only; omega, ?_, crcBit_lt k3⟩ (by dsimp only; omega) ⟨rfl, rfl, rfl, rfl, rfl, rfl, rfl, rfl, trivial⟩ (Ent.refl _)
        rw [← k2, show 8 - q = (8 - (q + 1)) + 1 by omega]; rfl
      · have ht := of_decide_eq_false ht
        have e8 : q = 8 := by omega
        subst e8
        have k2 : s2 = crcByte s1 c := k2
        subst k2
        refine r_exit rfl ?_
        refine c_blk ?_
        refine c_code ?_
        refine r_region (id := 13) ?_
        refine o_giveN (g_bin (evv rfl) (evv rfl) (by rfl)) (by simp only [inR]; omega) rfl ?_
        refine o_give (g_move (evv rfl)) rfl rfl ?_
        refine o_nil ?_
        exact c_loop (i + 1, crcByte s1 c) ⟨by dsimp only; omega, by dsimp only; rw [hstep1]⟩ (by dsimp only; omega) ⟨rfl, rfl, rfl, rfl, rfl, rfl, rfl, trivial⟩ (Ent.refl _)
    · have hd := of_decide_eq_false hd
      refine r_exit rfl ?_
      refine c_blk ?_
      refine c_code ?_
      refine r_region (id := 14) ?_
      refine o_giveN (g_bin (evv rfl) (evv rfl) (by rfl)) (by simp only [inR]; omega) rfl ?_
      refine o_give (g_move (evv rfl)) rfl rfl ?_
      refine o_nil ?_
      exact c_loop (j + 1, s1) ⟨by dsimp only; omega, by dsimp only; rw [hstep, g2, List.take_of_length_le (by omega)]⟩ (by dsimp only; omega) ⟨rfl, rfl, rfl, rfl, trivial⟩ (Ent.refl _)
  · have hc := of_decide_eq_false hc
    have hs32 : s < 4294967296 := by rw [h2]; exact crcGo_lt (by decide)
    refine r_exit rfl ?_
    refine c_code ?_
    refine r_seq ?_
    refine r_region (id := 15) ?_
    refine o_give (g_move (evv rfl)) rfl rfl ?_
    refine o_give (g_comU (evv rfl) (by rfl) (by omega) (by omega)) rfl rfl ?_
    refine o_give (g_assign (evv rfl)) rfl rfl ?_
    refine o_nil ?_
    refine c_code ?_
    refine r_ret (rs := [.tmp 2]) rfl rfl _ (Ent.refl _) ⟨?_, rfl⟩
    rw [List.take_of_length_le (by omega)] at h2
    have : crc bss.flatten = 4294967295 - s := by
      rw [crc, ← h2]
      have h1 := congrArg BitVec.toNat (BitVec.xor_allOnes (x := BitVec.ofNat 32 s))
      rw [BitVec.toNat_xor, BitVec.toNat_not, BitVec.toNat_allOnes, BitVec.toNat_ofNat, Nat.mod_eq_of_lt hs32] at h1
      exact h1
    rw [this]
    show Value.int _ _ = Value.int _ _
    congr 1
    omega
end VK
