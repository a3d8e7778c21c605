/- Frames. Conditions: none. -/
import Derived.Test.YtdgenjdphmclhaaLaw
namespace VK
open Go Go.Proofs
set_option linter.unusedSimpArgs false
set_option linter.unusedVariables false
set_option maxRecDepth 100000
set_option maxHeartbeats 40000000
theorem top_xor {s : Nat} (h : s < 2147483648) : 2147483648 ≤ s ^^^ 3988292384 := by
  have h1 : s = s % 2 ^ 31 := by omega
  have : (s ^^^ 3988292384) / 2 ^ 31 = 1 := by
    rw [Nat.xor_div_two_pow]
    rw [show s / 2 ^ 31 = 0 by omega]
    decide
  omega
theorem xor_inj {a b c : Nat} (h : a ^^^ c = b ^^^ c) : a = b := by
  have := congrArg (· ^^^ c) h
  simpa [Nat.xor_assoc] using this
theorem crcBit_inj {s t : Nat} (hs : s < 4294967296) (ht : t < 4294967296) (h : crcBit s = crcBit t) : s = t := by
  have h1 := top_xor (s := s / 2) (by omega)
  have h2 := top_xor (s := t / 2) (by omega)
  unfold crcBit at h
  split at h <;> split at h
  · have := xor_inj h; omega
  · omega
  · omega
  · omega
theorem crcBits_inj : ∀ {k s t : Nat}, s < 4294967296 → t < 4294967296 → crcBits k s = crcBits k t → s = t
  | 0, _, _, _, _, h => h
  | k + 1, s, t, hs, ht, h => crcBit_inj hs ht (crcBits_inj (crcBit_lt hs) (crcBit_lt ht) h)
theorem crcByte_inj {s t : Nat} {c : UInt8} (hs : s < 4294967296) (ht : t < 4294967296) (h : crcByte s c = crcByte t c) : s = t :=
  xor_inj (crcBits_inj (Nat.xor_lt_two_pow (n := 32) hs (Nat.lt_of_lt_of_le c.toNat_lt (by decide))) (Nat.xor_lt_two_pow (n := 32) ht (Nat.lt_of_lt_of_le c.toNat_lt (by decide))) h)
theorem crcByte_inj2 {s : Nat} {c d : UInt8} (hs : s < 4294967296) (h : crcByte s c = crcByte s d) : c = d := by
  have h1 := crcBits_inj (Nat.xor_lt_two_pow (n := 32) hs (Nat.lt_of_lt_of_le c.toNat_lt (by decide))) (Nat.xor_lt_two_pow (n := 32) hs (Nat.lt_of_lt_of_le d.toNat_lt (by decide))) h
  rw [Nat.xor_comm s, Nat.xor_comm s] at h1
  exact UInt8.toNat_inj.1 (xor_inj h1)
theorem crcGo_inj : ∀ {l : List UInt8} {s t : Nat}, s < 4294967296 → t < 4294967296 → crcGo s l = crcGo t l → s = t
  | [], _, _, _, _, h => h
  | c :: l, s, t, hs, ht, h => crcByte_inj hs ht (crcGo_inj (l := l) (crcByte_lt hs) (crcByte_lt ht) h)
theorem crc_one {a b : List UInt8} {c d : UInt8} (h : crc (a ++ c :: b) = crc (a ++ d :: b)) : c = d := by
  have h1 := xor_inj h
  rw [crcGo_app, crcGo_app] at h1
  have ha : crcGo 4294967295 a < 4294967296 := crcGo_lt (by decide)
  exact crcByte_inj2 ha (crcGo_inj (l := b) (crcByte_lt ha) (crcByte_lt ha) h1)
def fourB (n : Nat) : List UInt8 := [UInt8.ofNat (n % 256), UInt8.ofNat (n / 256 % 256), UInt8.ofNat (n / 65536 % 256), UInt8.ofNat (n / 16777216 % 256)]
def unfourB (b : List UInt8) : Nat := (b.getD 0 default).toNat + (b.getD 1 default).toNat * 256 + (b.getD 2 default).toNat * 65536 + (b.getD 3 default).toNat * 16777216
def frameB (p : List UInt8) : List UInt8 := (fourB p.length ++ p) ++ fourB (crc (fourB p.length ++ p))
def nextR (b : List UInt8) : List UInt8 × Nat × Int :=
  if b.length < 4 then ([], 0, 20) else if 262144 < unfourB b then ([], 0, 2) else if b.length < unfourB b + 8 then ([], 0, 20) else
  if crc (b.take (unfourB b + 4)) ≠ unfourB (b.drop (unfourB b + 4)) then ([], 0, 22) else ((b.drop 4).take (unfourB b), unfourB b + 8, 0)
theorem unfour_inj {x y : List UInt8} (h : unfourB x = unfourB y) {j : Nat} (hj : j < 4) : x.getD j default = y.getD j default := by
  unfold unfourB at h
  have a0 := (x.getD 0 default).toNat_lt
  have a1 := (x.getD 1 default).toNat_lt
  have a2 := (x.getD 2 default).toNat_lt
  have a3 := (x.getD 3 default).toNat_lt
  have b0 := (y.getD 0 default).toNat_lt
  have b1 := (y.getD 1 default).toNat_lt
  have b2 := (y.getD 2 default).toNat_lt
  have b3 := (y.getD 3 default).toNat_lt
  apply UInt8.toNat_inj.1
  rcases (by omega : j = 0 ∨ j = 1 ∨ j = 2 ∨ j = 3) with rfl | rfl | rfl | rfl <;> omega
theorem unfour_four {n : Nat} (hn : n < 4294967296) (r : List UInt8) : unfourB (fourB n ++ r) = n := by
  simp only [unfourB, fourB, List.cons_append, List.nil_append, List.getD_cons_zero, List.getD_cons_succ, UInt8.toNat_ofNat']
  omega
theorem crc_lt (l : List UInt8) : crc l < 4294967296 := Nat.xor_lt_two_pow (n := 32) (crcGo_lt (by decide)) (by decide)
theorem frame_len (p : List UInt8) : (frameB p).length = p.length + 8 := by simp [frameB, fourB] <;> omega
theorem tells {p : List UInt8} (hp : p.length ≤ 262144) {i : Nat} {c : UInt8} (hi : i < (frameB p).length) (hc : c ≠ (frameB p).getD i default) (h0 : (nextR ((frameB p).set i c)).2.2 = 0) : (nextR ((frameB p).set i c)).2.1 ≠ (frameB p).length := by
  have hl := frame_len p
  intro hm
  have hf : unfourB (frameB p) = p.length := by rw [frameB, List.append_assoc]; exact unfour_four (by omega) _
  have hs : unfourB ((frameB p).drop (p.length + 4)) = crc ((frameB p).take (p.length + 4)) := by
    have e : (fourB p.length ++ p).length = p.length + 4 := by simp [fourB] <;> omega
    rw [frameB, ← e, List.drop_left, List.take_left]
    have := unfour_four (crc_lt (fourB p.length ++ p)) []
    rwa [List.append_nil] at this
  generalize hfr : frameB p = f at *
  unfold nextR at h0 hm
  split at h0
  · exact absurd h0 (by decide)
  · rename_i g1
    rw [if_neg g1] at hm
    split at h0
    · exact absurd h0 (by decide)
    · rename_i g2
      rw [if_neg g2] at hm
      split at h0
      · exact absurd h0 (by decide)
      · rename_i g3
        rw [if_neg g3] at hm
        split at h0
        · exact absurd h0 (by decide)
        · rename_i g4
          rw [if_neg g4] at hm
          have hn : unfourB (f.set i c) = p.length := by
            have : unfourB (f.set i c) + 8 = f.length := hm
            omega
          rw [hn] at g4
          have g4 : crc ((f.set i c).take (p.length + 4)) = unfourB ((f.set i c).drop (p.length + 4)) := Decidable.of_not_not g4
          have hget : (f.set i c).getD i default = c := by simp [List.getD, hi]
          by_cases h4 : i < 4
          · exact hc (by rw [← hget]; exact unfour_inj (hn.trans hf.symm) h4)
          · by_cases hp4 : i < p.length + 4
            · rw [List.drop_set_of_lt (by omega), hs, List.take_set] at g4
              have hi2 : i < (f.take (p.length + 4)).length := by simp; omega
              rw [List.set_eq_take_append_cons_drop, if_pos hi2] at g4
              have e2 : f.take (p.length + 4) = (f.take (p.length + 4)).take i ++ (f.getD i default) :: (f.take (p.length + 4)).drop (i + 1) := by
                have := (List.take_append_drop i (f.take (p.length + 4))).symm
                rw [List.drop_eq_getElem_cons hi2] at this
                rw [show f.getD i default = (f.take (p.length + 4))[i] by simp [List.getD, hi]]
                exact this
              have e3 := congrArg crc e2
              exact hc (crc_one (g4.trans e3))
            · have e1 : (f.set i c).take (p.length + 4) = f.take (p.length + 4) := List.take_set_of_le (by omega)
              rw [e1, ← hs] at g4
              have := unfour_inj g4 (j := i - (p.length + 4)) (by omega)
              simp only [List.getD_eq_getElem?_getD, List.getElem?_drop] at this
              rw [show p.length + 4 + (i - (p.length + 4)) = i by omega] at this
              simp only [← List.getD_eq_getElem?_getD] at this
              rw [hget] at this
              exact hc this.symm
theorem or_shl {a b k : Nat} (h : a < 2 ^ k) : a ||| b * 2 ^ k = a + b * 2 ^ k := by
  have := Nat.shiftLeft_add_eq_or_of_lt h b
  rw [Nat.shiftLeft_eq] at this
  rw [Nat.or_comm, ← this, Nat.add_comm]
theorem u32_or {x y : Int} {m n : Nat} (hx : x = m) (hy : y = n) (hm : m < 4294967296) (hn : n < 4294967296) :
    IntKind.u32.wrap ↑(BitVec.ofInt IntKind.u32.bits x ||| BitVec.ofInt IntKind.u32.bits y).toNat = ((m ||| n : Nat) : Int) := by
  subst hx hy
  have e : ∀ k : Nat, k < 4294967296 → (BitVec.ofInt IntKind.u32.bits (k : Int)).toNat = k := fun k hk => by
    show (BitVec.ofInt 32 (k : Int)).toNat = k
    rw [BitVec.toNat_ofInt]; omega
  rw [BitVec.toNat_or, e m hm, e n hn]
  have := Nat.or_lt_two_pow (n := 32) hm hn
  exact wrap_in (by simp only [inR]; omega)
theorem unfour_bits {a b c d : Nat} (ha : a < 256) (hb : b < 256) (hc : c < 256) (hd : d < 256) :
    (IntKind.u32.wrap
      ↑(BitVec.ofInt IntKind.u32.bits
              (IntKind.u32.wrap
                ↑(BitVec.ofInt IntKind.u32.bits
                        ↑(((a : Int) % 4294967296).toNat ||| ((b : Int) % 4294967296 * 256 % 4294967296).toNat) |||
                      BitVec.ofInt IntKind.u32.bits ((c : Int) % 4294967296 * 65536 % 4294967296)).toNat) |||
            BitVec.ofInt IntKind.u32.bits ((d : Int) % 4294967296 * 16777216 % 4294967296)).toNat) = ((a + b * 256 + c * 65536 + d * 16777216 : Nat) : Int) := by
  have e1 : (((a : Int) % 4294967296).toNat ||| ((b : Int) % 4294967296 * 256 % 4294967296).toNat) = a + b * 256 := by
    rw [show ((a : Int) % 4294967296).toNat = a by omega, show ((b : Int) % 4294967296 * 256 % 4294967296).toNat = b * 2 ^ 8 by omega]
    exact or_shl (by omega)
  rw [e1, u32_or (m := a + b * 256) (n := c * 2 ^ 16) rfl (by omega) (by omega) (by omega), or_shl (by omega), u32_or (m := a + b * 256 + c * 2 ^ 16) (n := d * 2 ^ 24) rfl (by omega) (by omega) (by omega), or_shl (by omega)]
theorem four_bs (n : Nat) (hn : n < 4294967296) : bsOf [Value.int IntKind.u8 ((n : Int) % 256), Value.int IntKind.u8 ((n : Int) / 256 % 256), Value.int IntKind.u8 ((n : Int) / 65536 % 256), Value.int IntKind.u8 ((n : Int) / 16777216)] = fourB n := by
  have a0 : ((n : Int) % 256).toNat = n % 256 := by omega
  have a1 : ((n : Int) / 256 % 256).toNat = n / 256 % 256 := by omega
  have a2 : ((n : Int) / 65536 % 256).toNat = n / 65536 % 256 := by omega
  have a3 : ((n : Int) / 16777216).toNat = n / 16777216 % 256 := by omega
  simp only [bsOf, fourB, List.map_cons, List.map_nil, a0, a1, a2, a3]
theorem four_c (L : List Atom) (n : Nat) (hn : n < 4294967296) :
    Fn Try.prog 42 [.int .u32 (n : Int)] L fun v L' => L' = sl v (mrow by8 5 (fourB n)) :: L := by
  refine fn_intro Try.func42 rfl Try.ntmps42 rfl (fun W0 => ?_)
  simp only [argE]
  refine r_seq ?_
  refine r_region (id := 0) ?_
  refine o_give (g_assign (evv rfl)) rfl rfl ?_
  refine o_nil ?_
  refine c_code ?_
  refine r_seq ?_
  refine r_region (id := 1) ?_
  refine o_give (g_move (evv rfl)) rfl rfl ?_
  refine o_giveU (g_conv TyU.h TyU.h (evv rfl)) (by rfl) rfl ?_
  refine o_give (g_move (evv rfl)) rfl rfl ?_
  refine o_give (g_shrC 256 (evv rfl) (evv rfl) (by rfl) (by decide)) rfl rfl ?_
  refine o_giveU (g_conv TyU.h TyU.h (evv rfl)) (by rfl) rfl ?_
  refine o_give (g_move (evv rfl)) rfl rfl ?_
  refine o_give (g_shrC 65536 (evv rfl) (evv rfl) (by rfl) (by decide)) rfl rfl ?_
  refine o_giveU (g_conv TyU.h TyU.h (evv rfl)) (by rfl) rfl ?_
  refine o_give (g_move (evv rfl)) rfl rfl ?_
  refine o_give (g_shrC 16777216 (evv rfl) (evv rfl) (by rfl) (by decide)) rfl rfl ?_
  refine o_giveN (g_conv TyU.h TyU.h (evv rfl)) (by simp only [inR]; omega) rfl ?_
  refine o_litBs rfl rfl (by simp only [okB, and_true]; omega) rfl (by rfl) rfl rfl (fun _ => ?_)
  refine o_give (g_assign (evv rfl)) rfl rfl ?_
  refine o_nil ?_
  refine c_code ?_
  rw [four_bs n hn]
  first | refine r_ret (rs := [.tmp 2]) rfl rfl _ (Ent.refl _) ?_ | refine c_end (rs := [.tmp 2]) rfl rfl _ (Ent.refl _) ?_
  rfl
theorem unfour_c (L : List Atom) (v : Value) (b : List UInt8) (hb : 4 ≤ b.length) [rd : Rd L v (mrow by8 5 b)] :
    Fn Try.prog 43 [v] L fun v L' => v = .int .u32 (unfourB b : Int) ∧ L' = L := by
  refine fn_intro Try.func43 rfl Try.ntmps43 rfl (fun W0 => ?_)
  simp only [argE]
  refine r_seq ?_
  refine r_region (id := 0) ?_
  refine o_give (g_assign (evv rfl)) rfl rfl ?_
  refine o_nil ?_
  refine c_code ?_
  refine r_seq ?_
  refine r_quiet (id := 1) Mixed.h (by kernel_rfl) ?_
  refine q_give (g_move (evv rfl)) rfl rfl ?_
  refine q_give (g_idxMN (evv rfl) (evv rfl) (by rfl) (by first | omega | (have := of_decide_eq_true hg; omega) | (simp at hg; omega) | (simp only [List.length_set, List.length_append, List.length_cons, List.length_nil, List.length_map, List.length_take, List.length_drop, List.length_replicate]; omega))) rfl rfl ?_
  refine q_give (g_loadM (evv rfl) (by rfl) (by first | omega | (have := of_decide_eq_true hg; omega) | (simp at hg; omega) | (simp only [List.length_set, List.length_append, List.length_cons, List.length_nil, List.length_map, List.length_take, List.length_drop, List.length_replicate]; omega))) rfl rfl ?_
  refine q_giveU (g_conv TyU.h TyU.h (evv rfl)) (by rfl) rfl ?_
  refine q_give (g_move (evv rfl)) rfl rfl ?_
  refine q_give (g_idxMN (evv rfl) (evv rfl) (by rfl) (by first | omega | (have := of_decide_eq_true hg; omega) | (simp at hg; omega) | (simp only [List.length_set, List.length_append, List.length_cons, List.length_nil, List.length_map, List.length_take, List.length_drop, List.length_replicate]; omega))) rfl rfl ?_
  refine q_give (g_loadM (evv rfl) (by rfl) (by first | omega | (have := of_decide_eq_true hg; omega) | (simp at hg; omega) | (simp only [List.length_set, List.length_append, List.length_cons, List.length_nil, List.length_map, List.length_take, List.length_drop, List.length_replicate]; omega))) rfl rfl ?_
  refine q_giveU (g_conv TyU.h TyU.h (evv rfl)) (by rfl) rfl ?_
  refine q_giveU (g_shlC 256 (evv rfl) (evv rfl) (by rfl) (by decide)) (by rfl) rfl ?_
  refine q_give (g_bits (evv rfl) (evv rfl) (by rfl) (by omega) (by omega) (by omega) (by omega)) rfl rfl ?_
  refine q_give (g_move (evv rfl)) rfl rfl ?_
  refine q_give (g_idxMN (evv rfl) (evv rfl) (by rfl) (by first | omega | (have := of_decide_eq_true hg; omega) | (simp at hg; omega) | (simp only [List.length_set, List.length_append, List.length_cons, List.length_nil, List.length_map, List.length_take, List.length_drop, List.length_replicate]; omega))) rfl rfl ?_
  refine q_give (g_loadM (evv rfl) (by rfl) (by first | omega | (have := of_decide_eq_true hg; omega) | (simp at hg; omega) | (simp only [List.length_set, List.length_append, List.length_cons, List.length_nil, List.length_map, List.length_take, List.length_drop, List.length_replicate]; omega))) rfl rfl ?_
  refine q_giveU (g_conv TyU.h TyU.h (evv rfl)) (by rfl) rfl ?_
  refine q_giveU (g_shlC 65536 (evv rfl) (evv rfl) (by rfl) (by decide)) (by rfl) rfl ?_
  refine q_give (g_bin (evv rfl) (evv rfl) (by rfl)) rfl rfl ?_
  refine q_give (g_move (evv rfl)) rfl rfl ?_
  refine q_give (g_idxMN (evv rfl) (evv rfl) (by rfl) (by first | omega | (have := of_decide_eq_true hg; omega) | (simp at hg; omega) | (simp only [List.length_set, List.length_append, List.length_cons, List.length_nil, List.length_map, List.length_take, List.length_drop, List.length_replicate]; omega))) rfl rfl ?_
  refine q_give (g_loadM (evv rfl) (by rfl) (by first | omega | (have := of_decide_eq_true hg; omega) | (simp at hg; omega) | (simp only [List.length_set, List.length_append, List.length_cons, List.length_nil, List.length_map, List.length_take, List.length_drop, List.length_replicate]; omega))) rfl rfl ?_
  refine q_giveU (g_conv TyU.h TyU.h (evv rfl)) (by rfl) rfl ?_
  refine q_giveU (g_shlC 16777216 (evv rfl) (evv rfl) (by rfl) (by decide)) (by rfl) rfl ?_
  refine q_give (g_bin (evv rfl) (evv rfl) (by rfl)) rfl rfl ?_
  refine q_give (g_assign (evv rfl)) rfl rfl ?_
  refine q_nil ?_
  refine c_code ?_
  rw [unfour_bits (b.getD 0 default).toNat_lt (b.getD 1 default).toNat_lt (b.getD 2 default).toNat_lt (b.getD 3 default).toNat_lt]
  first | refine r_ret (rs := [.tmp 2]) rfl rfl _ (Ent.refl _) ?_ | refine c_end (rs := [.tmp 2]) rfl rfl _ (Ent.refl _) ?_
  (refine ⟨?_, ?_⟩ <;> first | rfl | trivial | omega)
/-- a frame, or what is wrong -/
def frR (p : List UInt8) : List UInt8 × Int := if 262144 < p.length then ([], 2) else (frameB p, 0)
theorem Frame_c (L : List Atom) (v : Value) (p : List UInt8) (hp : p.length ≤ 1048576) [rd : Rd L v (mrow by8 5 p)] :
    Fn Try.prog 14 [v] L fun w L' => ∃ f, w = .tuple #[f, .int .i64 (frR p).2] ∧ L' = sl f (mrow by8 5 (frR p).1) :: L := by
  refine fn_intro Try.func14 rfl Try.ntmps14 rfl (fun W0 => ?_)
  simp only [argE]
  refine r_seq ?_
  refine r_region (id := 0) ?_
  refine o_give (g_assign (evv rfl)) rfl rfl ?_
  refine o_give (g_assign (evv rfl)) rfl rfl ?_
  refine o_nil ?_
  refine c_code ?_
  refine r_seq ?_
  refine r_seq ?_
  refine r_region (id := 1) ?_
  refine o_give (g_move (evv rfl)) rfl rfl ?_
  refine o_give (g_lenM (evv rfl)) rfl rfl ?_
  refine o_give (g_bin (evv rfl) (evv rfl) (by rfl)) rfl rfl ?_
  refine o_nil ?_
  refine c_code ?_
  refine r_cond rfl (fun hc => ?_) (fun hc => ?_) <;> (try simp only [decide_eq_true_eq, decide_eq_false_iff_not, Bool.and_eq_true, Bool.or_eq_true, Bool.not_eq_true', Bool.and_eq_false_iff, Bool.or_eq_false_iff, Bool.not_eq_false', Bool.not_eq_true, Bool.not_eq_false, Bool.true_eq_false, Bool.false_eq_true, Int.not_lt, Int.not_le, not_and, not_or, ne_eq] at hc)
  · rw [show frR p = ([], 2) from if_pos (by omega)]
    refine r_seq ?_
    refine r_region (id := 2) ?_
    refine o_give (g_assign (evv rfl)) rfl rfl ?_
    refine o_give (g_assign (evv rfl)) rfl rfl ?_
    refine o_nil ?_
    refine c_code ?_
    first | refine r_ret (rs := [.tmp 2, .tmp 3]) rfl rfl _ ((Ent.nilM by8 5)) ?_ | refine c_end (rs := [.tmp 2, .tmp 3]) rfl rfl _ ((Ent.nilM by8 5)) ?_
    exact ⟨_, rfl, rfl⟩
  · rw [show frR p = (frameB p, 0) from if_neg (by omega)]
    have h4 : (fourB p.length).length = 4 := rfl
    have h5 : ∀ n, (fourB n).length = 4 := fun _ => rfl
    refine r_skip ?_
    refine c_code ?_
    refine r_seq ?_
    refine r_region (id := 3) ?_
    refine o_give (g_move (evv rfl)) rfl rfl ?_
    refine o_give (g_lenM (evv rfl)) rfl rfl ?_
    refine o_giveN (g_conv TyU.h TyU.h (evv rfl)) (by simp only [inR]; omega) rfl ?_
    (refine o_call rfl _ (Ent.refl _) (four_c _ _ (by first | assumption | exact crc_lt _ | omega)) rfl ?_; rintro fv _ rfl)
    refine o_give (g_assign (evv rfl)) rfl rfl ?_
    refine o_nil ?_
    refine c_code ?_
    refine r_seq ?_
    refine r_region (id := 4) ?_
    refine o_give (g_move (evv rfl)) rfl rfl ?_
    refine o_give (g_move (evv rfl)) rfl rfl ?_
    refine o_litV rfl rfl rfl (by rfl) rfl rfl (fun _ => ?_)
    (refine o_call rfl _ (Ent.refl _) (Check_c _ _ _ _ (ReadsI.h (e := 5))) rfl ?_; rintro _ _ ⟨rfl, hLz⟩; obtain rfl := hLz.symm; clear hLz)
    refine o_give (g_assign (evv rfl)) rfl rfl ?_
    refine o_nil ?_
    refine c_code ?_
    refine r_seq ?_
    have h6 := h5 (crc [fourB p.length, p].flatten)
    rw [show [fourB p.length, p].flatten = fourB p.length ++ p by simp] at *
    refine r_region (id := 5) ?_
    refine o_give (g_move (evv rfl)) rfl rfl ?_
    refine o_give (g_move (evv rfl)) rfl rfl ?_
    refine o_appM (evv rfl) (evv rfl) (by rfl) (by rfl) (by rfl) (by (try simp only [bsOf, List.length_append, List.length_cons, List.length_nil]); omega) rfl (fun _ => ?_)
    refine o_give (g_assign (evv rfl)) rfl rfl ?_
    refine o_nil ?_
    refine c_code ?_
    refine r_seq ?_
    refine r_region (id := 6) ?_
    refine o_give (g_move (evv rfl)) rfl rfl ?_
    refine o_give (g_move (evv rfl)) rfl rfl ?_
    (refine o_call rfl _ (Ent.refl _) (four_c _ _ (by first | assumption | exact crc_lt _ | omega)) rfl ?_; rintro fv _ rfl)
    refine o_appM (evv rfl) (evv rfl) (by rfl) (by rfl) (by rfl) (by (try simp only [bsOf, List.length_append, List.length_cons, List.length_nil]); omega) rfl (fun _ => ?_)
    refine o_give (g_assign (evv rfl)) rfl rfl ?_
    refine o_give (g_assign (evv rfl)) rfl rfl ?_
    refine o_nil ?_
    refine c_code ?_
    rename_i f0 lit f1 f2
    rw [show fourB p.length ++ p ++ fourB (crc (fourB p.length ++ p)) = frameB p from rfl]
    first | refine r_ret (rs := [.tmp 2, .tmp 3]) rfl rfl _ ((Lay.ent (L' := sl f2 (mrow by8 5 (frameB p)) :: L))) ?_ | refine c_end (rs := [.tmp 2, .tmp 3]) rfl rfl _ ((Lay.ent (L' := sl f2 (mrow by8 5 (frameB p)) :: L))) ?_
    exact ⟨_, rfl, rfl⟩
theorem Next_c (L : List Atom) (v : Value) (b : List UInt8) (hb : b.length ≤ 140737488355000) [rd : Rd L v (mrow by8 5 b)] :
    Fn Try.prog 15 [v] L fun w L' => ∃ f, w = .tuple #[f, .int .i64 ((nextR b).2.1 : Int), .int .i64 (nextR b).2.2] ∧ L' = sl f (mrow by8 5 (nextR b).1) :: L := by
  refine fn_intro Try.func15 rfl Try.ntmps15 rfl (fun W0 => ?_)
  simp only [argE]
  refine r_seq ?_
  refine r_region (id := 0) ?_
  refine o_give (g_assign (evv rfl)) rfl rfl ?_
  refine o_give (g_assign (evv rfl)) rfl rfl ?_
  refine o_give (g_assign (evv rfl)) rfl rfl ?_
  refine o_nil ?_
  refine c_code ?_
  refine r_seq ?_
  refine r_seq ?_
  refine r_region (id := 1) ?_
  refine o_give (g_move (evv rfl)) rfl rfl ?_
  refine o_give (g_lenM (evv rfl)) rfl rfl ?_
  refine o_give (g_bin (evv rfl) (evv rfl) (by rfl)) rfl rfl ?_
  refine o_nil ?_
  refine c_code ?_
  refine r_cond rfl (fun h1 => ?_) (fun h1 => ?_) <;> (try simp only [decide_eq_true_eq, decide_eq_false_iff_not, Bool.and_eq_true, Bool.or_eq_true, Bool.not_eq_true', Bool.and_eq_false_iff, Bool.or_eq_false_iff, Bool.not_eq_false', Bool.not_eq_true, Bool.not_eq_false, Bool.true_eq_false, Bool.false_eq_true, Int.not_lt, Int.not_le, not_and, not_or, ne_eq] at h1)
  · rw [show nextR b = ([], 0, 20) from if_pos (by omega)]
    refine r_seq ?_
    refine r_region (id := 2) ?_
    refine o_give (g_assign (evv rfl)) rfl rfl ?_
    refine o_give (g_assign (evv rfl)) rfl rfl ?_
    refine o_give (g_assign (evv rfl)) rfl rfl ?_
    refine o_nil ?_
    refine c_code ?_
    first | refine r_ret (rs := [.tmp 2, .tmp 3, .tmp 4]) rfl rfl _ ((Ent.nilM by8 5)) ?_ | refine c_end (rs := [.tmp 2, .tmp 3, .tmp 4]) rfl rfl _ ((Ent.nilM by8 5)) ?_
    exact ⟨_, rfl, rfl⟩
  · have g1 : ¬ b.length < 4 := by omega
    have hb4 : 4 ≤ b.length := by omega
    refine r_skip ?_
    refine c_code ?_
    refine r_seq ?_
    refine r_region (id := 3) ?_
    refine o_give (g_move (evv rfl)) rfl rfl ?_
    (refine o_call rfl _ (Ent.refl _) (unfour_c _ _ _ (by first | assumption | (simp only [List.length_take, List.length_drop]; omega) | omega)) rfl ?_; rintro _ _ ⟨rfl, hLz⟩; obtain rfl := hLz.symm; clear hLz)
    refine o_give (g_assign (evv rfl)) rfl rfl ?_
    refine o_nil ?_
    refine c_code ?_
    refine r_seq ?_
    refine r_seq ?_
    refine r_region (id := 4) ?_
    refine o_give (g_move (evv rfl)) rfl rfl ?_
    refine o_give (g_bin (evv rfl) (evv rfl) (by rfl)) rfl rfl ?_
    refine o_nil ?_
    refine c_code ?_
    refine r_cond rfl (fun h2 => ?_) (fun h2 => ?_) <;> (try simp only [decide_eq_true_eq, decide_eq_false_iff_not, Bool.and_eq_true, Bool.or_eq_true, Bool.not_eq_true', Bool.and_eq_false_iff, Bool.or_eq_false_iff, Bool.not_eq_false', Bool.not_eq_true, Bool.not_eq_false, Bool.true_eq_false, Bool.false_eq_true, Int.not_lt, Int.not_le, not_and, not_or, ne_eq] at h2)
    · rw [show nextR b = ([], 0, 2) from (if_neg g1).trans (if_pos (by omega))]
      refine r_seq ?_
      refine r_region (id := 5) ?_
      refine o_give (g_assign (evv rfl)) rfl rfl ?_
      refine o_give (g_assign (evv rfl)) rfl rfl ?_
      refine o_give (g_assign (evv rfl)) rfl rfl ?_
      refine o_nil ?_
      refine c_code ?_
      first | refine r_ret (rs := [.tmp 2, .tmp 3, .tmp 4]) rfl rfl _ ((Ent.nilM by8 5)) ?_ | refine c_end (rs := [.tmp 2, .tmp 3, .tmp 4]) rfl rfl _ ((Ent.nilM by8 5)) ?_
      exact ⟨_, rfl, rfl⟩
    · have g2 : ¬ 262144 < unfourB b := by omega
      refine r_skip ?_
      refine c_code ?_
      refine r_seq ?_
      refine r_region (id := 6) ?_
      refine o_give (g_move (evv rfl)) rfl rfl ?_
      refine o_giveN (g_conv TyU.h TyU.h (evv rfl)) (by simp only [inR]; omega) rfl ?_
      refine o_giveN (g_bin (evv rfl) (evv rfl) (by rfl)) (by simp only [inR]; omega) rfl ?_
      refine o_give (g_assign (evv rfl)) rfl rfl ?_
      refine o_nil ?_
      refine c_code ?_
      refine r_seq ?_
      refine r_seq ?_
      refine r_region (id := 7) ?_
      refine o_give (g_move (evv rfl)) rfl rfl ?_
      refine o_give (g_lenM (evv rfl)) rfl rfl ?_
      refine o_give (g_move (evv rfl)) rfl rfl ?_
      refine o_giveN (g_bin (evv rfl) (evv rfl) (by rfl)) (by simp only [inR]; omega) rfl ?_
      refine o_give (g_bin (evv rfl) (evv rfl) (by rfl)) rfl rfl ?_
      refine o_nil ?_
      refine c_code ?_
      refine r_cond rfl (fun h3 => ?_) (fun h3 => ?_) <;> (try simp only [decide_eq_true_eq, decide_eq_false_iff_not, Bool.and_eq_true, Bool.or_eq_true, Bool.not_eq_true', Bool.and_eq_false_iff, Bool.or_eq_false_iff, Bool.not_eq_false', Bool.not_eq_true, Bool.not_eq_false, Bool.true_eq_false, Bool.false_eq_true, Int.not_lt, Int.not_le, not_and, not_or, ne_eq] at h3)
      · rw [show nextR b = ([], 0, 20) from (if_neg g1).trans ((if_neg g2).trans (if_pos (by omega)))]
        refine r_seq ?_
        refine r_region (id := 8) ?_
        refine o_give (g_assign (evv rfl)) rfl rfl ?_
        refine o_give (g_assign (evv rfl)) rfl rfl ?_
        refine o_give (g_assign (evv rfl)) rfl rfl ?_
        refine o_nil ?_
        refine c_code ?_
        first | refine r_ret (rs := [.tmp 2, .tmp 3, .tmp 4]) rfl rfl _ ((Ent.nilM by8 5)) ?_ | refine c_end (rs := [.tmp 2, .tmp 3, .tmp 4]) rfl rfl _ ((Ent.nilM by8 5)) ?_
        exact ⟨_, rfl, rfl⟩
      · have g3 : ¬ b.length < unfourB b + 8 := by omega
        have e4 : (4 : Int) + (unfourB b : Int) = ((unfourB b + 4 : Nat) : Int) := by omega
        rw [e4]
        repeat (first | refine r_seq ?_ | refine c_code ?_ | refine c_blk ?_ | refine r_block ?_ | refine r_skip ?_)
        refine r_held (id := 9) (L) Mixed.h ?_
        refine h_give (i := 0) (by kernel_rfl) rfl (g_move (evv rfl)) rfl rfl ?_
        refine h_give (i := 1) (by kernel_rfl) rfl (g_move (evv rfl)) rfl rfl ?_
        refine h_give (i := 2) (by kernel_rfl) rfl (g_subM (evv rfl) _ _ bnd_none (bnd_some (evv rfl) rfl) (by rfl) (by omega) (by omega)) rfl rfl ?_
        refine h_give (i := 5) (by kernel_rfl) rfl (g_move (evv rfl)) rfl rfl ?_
        refine h_give (i := 6) (by kernel_rfl) rfl (g_move (evv rfl)) rfl rfl ?_
        refine h_give (i := 7) (by kernel_rfl) rfl (g_subM (evv rfl) _ _ (bnd_some (evv rfl) rfl) bnd_none (by rfl) (by omega) (by omega)) rfl rfl ?_
        refine h_one (i := 3) (by kernel_rfl) rfl (Lay.ent) ?_
        refine o_litV rfl rfl rfl (by rfl) rfl rfl (fun _ => ?_)
        refine o_nil ?_
        refine h_one (i := 4) (by kernel_rfl) rfl (Lay.ent) ?_
        (refine o_call rfl _ (Ent.refl _) (Check_c _ _ _ _ (ReadsI.h (e := 5))) rfl ?_; rintro _ _ ⟨rfl, hLz⟩; obtain rfl := hLz.symm; clear hLz)
        refine o_nil ?_
        refine h_one (i := 8) (by kernel_rfl) rfl (Lay.ent) ?_
        (refine o_call rfl _ (Ent.refl _) (unfour_c _ _ _ (by first | assumption | (simp only [List.length_take, List.length_drop]; omega) | omega)) rfl ?_; rintro _ _ ⟨rfl, hLz⟩; obtain rfl := hLz.symm; clear hLz)
        refine o_nil ?_
        refine h_give (i := 9) (by kernel_rfl) rfl (g_bin (evv rfl) (evv rfl) (by rfl)) rfl rfl ?_
        refine h_done (by kernel_rfl) (Lay.ent) ?_
        refine c_code ?_
        have ea : [List.take (unfourB b + 4 - 0) (List.drop 0 b)].flatten = b.take (unfourB b + 4) := by simp
        have eb : List.take (b.length - (unfourB b + 4)) (List.drop (unfourB b + 4) b) = b.drop (unfourB b + 4) := List.take_of_length_le (by simp)
        rw [ea, eb]
        refine r_cond rfl (fun h4 => ?_) (fun h4 => ?_) <;> (try simp only [decide_eq_true_eq, decide_eq_false_iff_not, Bool.and_eq_true, Bool.or_eq_true, Bool.not_eq_true', Bool.and_eq_false_iff, Bool.or_eq_false_iff, Bool.not_eq_false', Bool.not_eq_true, Bool.not_eq_false, Bool.true_eq_false, Bool.false_eq_true, Int.not_lt, Int.not_le, not_and, not_or, ne_eq] at h4)
        · rw [show nextR b = ([], 0, 22) from (if_neg g1).trans ((if_neg g2).trans ((if_neg g3).trans (if_pos (by omega))))]
          refine r_seq ?_
          refine r_region (id := 10) ?_
          refine o_give (g_assign (evv rfl)) rfl rfl ?_
          refine o_give (g_assign (evv rfl)) rfl rfl ?_
          refine o_give (g_assign (evv rfl)) rfl rfl ?_
          refine o_nil ?_
          refine c_code ?_
          first | refine r_ret (rs := [.tmp 2, .tmp 3, .tmp 4]) rfl rfl _ ((Ent.drop.trans (Ent.nilM by8 5))) ?_ | refine c_end (rs := [.tmp 2, .tmp 3, .tmp 4]) rfl rfl _ ((Ent.drop.trans (Ent.nilM by8 5))) ?_
          exact ⟨_, rfl, rfl⟩
        · rw [show nextR b = ((b.drop 4).take (unfourB b), unfourB b + 8, 0) from (if_neg g1).trans ((if_neg g2).trans ((if_neg g3).trans (if_neg (by omega))))]
          have h7 := List.length_take_le (unfourB b + 4 - Int.toNat 4) (List.drop (Int.toNat 4) b)
          refine r_skip ?_
          refine c_code ?_
          refine r_seq ?_
          refine r_region (id := 11) ?_
          refine o_give (g_move (evv rfl)) rfl rfl ?_
          refine o_give (g_move (evv rfl)) rfl rfl ?_
          refine o_give (g_subM (evv rfl) _ _ (bnd_to (evv rfl) (by omega)) (bnd_some (evv rfl) rfl) (by rfl) (by omega) (by omega)) rfl rfl ?_
          refine o_nilM by8 5 ?_
          refine o_appM (evv rfl) (evv rfl) (by rfl) (by rfl) (by rfl) (by (try simp only [bsOf, List.length_append, List.length_cons, List.length_nil]); omega) rfl (fun _ => ?_)
          refine o_give (g_move (evv rfl)) rfl rfl ?_
          refine o_giveN (g_bin (evv rfl) (evv rfl) (by rfl)) (by simp only [inR]; omega) rfl ?_
          refine o_give (g_assign (evv rfl)) rfl rfl ?_
          refine o_give (g_assign (evv rfl)) rfl rfl ?_
          refine o_give (g_assign (evv rfl)) rfl rfl ?_
          refine o_nil ?_
          refine c_code ?_
          rename_i lit f
          rw [show ((unfourB b + 4 : Nat) : Int) + 4 = ((unfourB b + 8 : Nat) : Int) by omega]
          first | refine r_ret (rs := [.tmp 2, .tmp 3, .tmp 4]) rfl rfl _ ((Ent.swap.trans Ent.drop)) ?_ | refine c_end (rs := [.tmp 2, .tmp 3, .tmp 4]) rfl rfl _ ((Ent.swap.trans Ent.drop)) ?_
          refine ⟨f, rfl, ?_⟩
          refine congrArg (fun z => sl f (mrow by8 5 z) :: L) ?_
          have e44 : Int.toNat 4 = 4 := rfl
          rw [e44, Nat.add_sub_cancel, List.nil_append]
end VK
