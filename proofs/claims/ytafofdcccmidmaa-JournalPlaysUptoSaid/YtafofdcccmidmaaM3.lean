/- What the proof rests on, part 3 of 6: the walker's lemmas, the walks of the functions and the plain laws. Conditions: none. -/
import Derived.Test.YtafofdcccmidmaaM2
namespace VK
open Go Go.Proofs
set_option linter.unusedSimpArgs false
set_option linter.unusedVariables false
set_option maxRecDepth 100000
set_option maxHeartbeats 40000000
def fourB (n : Nat) : List UInt8 := [UInt8.ofNat (n % 256), UInt8.ofNat (n / 256 % 256), UInt8.ofNat (n / 65536 % 256), UInt8.ofNat (n / 16777216 % 256)]
def unfourB (b : List UInt8) : Nat := (b.getD 0 default).toNat + (b.getD 1 default).toNat * 256 + (b.getD 2 default).toNat * 65536 + (b.getD 3 default).toNat * 16777216
def frameB (p : List UInt8) : List UInt8 := (fourB p.length ++ p) ++ fourB (crc (fourB p.length ++ p))
def nextR (b : List UInt8) : List UInt8 × Nat × Int :=
  if b.length < 4 then ([], 0, 20) else if 262144 < unfourB b then ([], 0, 2) else if b.length < unfourB b + 8 then ([], 0, 20) else
  if crc (b.take (unfourB b + 4)) ≠ unfourB (b.drop (unfourB b + 4)) then ([], 0, 22) else ((b.drop 4).take (unfourB b), unfourB b + 8, 0)
theorem unfour_inj {x y : List UInt8} (h : unfourB x = unfourB y) {j : Nat} (hj : j < 4) : x.getD j default = y.getD j default := by
  unfold unfourB at h
  have a0 := (x.getD 0 default).toNat_lt
  have a1 := (x.getD 1 default).toNat_lt
  have a2 := (x.getD 2 default).toNat_lt
  have a3 := (x.getD 3 default).toNat_lt
  have b0 := (y.getD 0 default).toNat_lt
  have b1 := (y.getD 1 default).toNat_lt
  have b2 := (y.getD 2 default).toNat_lt
  have b3 := (y.getD 3 default).toNat_lt
  apply UInt8.toNat_inj.1
  rcases (by omega : j = 0 ∨ j = 1 ∨ j = 2 ∨ j = 3) with rfl | rfl | rfl | rfl <;> omega
theorem unfour_four {n : Nat} (hn : n < 4294967296) (r : List UInt8) : unfourB (fourB n ++ r) = n := by
  simp only [unfourB, fourB, List.cons_append, List.nil_append, List.getD_cons_zero, List.getD_cons_succ, UInt8.toNat_ofNat']
  omega
theorem crc_lt (l : List UInt8) : crc l < 4294967296 := Nat.xor_lt_two_pow (n := 32) (crcGo_lt (by decide)) (by decide)
theorem frame_len (p : List UInt8) : (frameB p).length = p.length + 8 := by simp [frameB, fourB] <;> omega
theorem or_shl {a b k : Nat} (h : a < 2 ^ k) : a ||| b * 2 ^ k = a + b * 2 ^ k := by
  have := Nat.shiftLeft_add_eq_or_of_lt h b
  rw [Nat.shiftLeft_eq] at this
  rw [Nat.or_comm, ← this, Nat.add_comm]
theorem u32_or {x y : Int} {m n : Nat} (hx : x = m) (hy : y = n) (hm : m < 4294967296) (hn : n < 4294967296) :
    IntKind.u32.wrap ↑(BitVec.ofInt IntKind.u32.bits x ||| BitVec.ofInt IntKind.u32.bits y).toNat = ((m ||| n : Nat) : Int) := by
  subst hx hy
  have e : ∀ k : Nat, k < 4294967296 → (BitVec.ofInt IntKind.u32.bits (k : Int)).toNat = k := fun k hk => by
    show (BitVec.ofInt 32 (k : Int)).toNat = k
    rw [BitVec.toNat_ofInt]; omega
  rw [BitVec.toNat_or, e m hm, e n hn]
  have := Nat.or_lt_two_pow (n := 32) hm hn
  exact wrap_in (by simp only [inR]; omega)
theorem unfour_bits {a b c d : Nat} (ha : a < 256) (hb : b < 256) (hc : c < 256) (hd : d < 256) :
    (IntKind.u32.wrap
      ↑(BitVec.ofInt IntKind.u32.bits
              (IntKind.u32.wrap
                ↑(BitVec.ofInt IntKind.u32.bits
                        ↑(((a : Int) % 4294967296).toNat ||| ((b : Int) % 4294967296 * 256 % 4294967296).toNat) |||
                      BitVec.ofInt IntKind.u32.bits ((c : Int) % 4294967296 * 65536 % 4294967296)).toNat) |||
            BitVec.ofInt IntKind.u32.bits ((d : Int) % 4294967296 * 16777216 % 4294967296)).toNat) = ((a + b * 256 + c * 65536 + d * 16777216 : Nat) : Int) := by
  have e1 : (((a : Int) % 4294967296).toNat ||| ((b : Int) % 4294967296 * 256 % 4294967296).toNat) = a + b * 256 := by
    rw [show ((a : Int) % 4294967296).toNat = a by omega, show ((b : Int) % 4294967296 * 256 % 4294967296).toNat = b * 2 ^ 8 by omega]
    exact or_shl (by omega)
  rw [e1, u32_or (m := a + b * 256) (n := c * 2 ^ 16) rfl (by omega) (by omega) (by omega), or_shl (by omega), u32_or (m := a + b * 256 + c * 2 ^ 16) (n := d * 2 ^ 24) rfl (by omega) (by omega) (by omega), or_shl (by omega)]
theorem four_bs (n : Nat) (hn : n < 4294967296) : bsOf [Value.int IntKind.u8 ((n : Int) % 256), Value.int IntKind.u8 ((n : Int) / 256 % 256), Value.int IntKind.u8 ((n : Int) / 65536 % 256), Value.int IntKind.u8 ((n : Int) / 16777216)] = fourB n := by
  have a0 : ((n : Int) % 256).toNat = n % 256 := by omega
  have a1 : ((n : Int) / 256 % 256).toNat = n / 256 % 256 := by omega
  have a2 : ((n : Int) / 65536 % 256).toNat = n / 65536 % 256 := by omega
  have a3 : ((n : Int) / 16777216).toNat = n / 16777216 % 256 := by omega
  simp only [bsOf, fourB, List.map_cons, List.map_nil, a0, a1, a2, a3]
theorem four_c (L : List Atom) (n : Nat) (hn : n < 4294967296) :
    Fn Try.prog 76 [.int .u32 (n : Int)] L fun v L' => L' = sl v (mrow by8 5 (fourB n)) :: L := by
  refine fn_intro Try.func76 rfl Try.ntmps76 rfl (fun W0 => ?_)
  simp only [argE]
  refine rS ?_
  refine rR (id := 0) ?_
  refine oG (gA (evv rfl)) rfl rfl ?_
  refine oN ?_
  refine cC ?_
  refine rS ?_
  refine rR (id := 1) ?_
  refine oG (gM (evv rfl)) rfl rfl ?_
  refine o_giveU (g_conv TyU.h TyU.h (evv rfl)) (by rfl) rfl ?_
  refine oG (gM (evv rfl)) rfl rfl ?_
  refine oG (g_shrC 256 (evv rfl) (evv rfl) (by rfl) (by decide)) rfl rfl ?_
  refine o_giveU (g_conv TyU.h TyU.h (evv rfl)) (by rfl) rfl ?_
  refine oG (gM (evv rfl)) rfl rfl ?_
  refine oG (g_shrC 65536 (evv rfl) (evv rfl) (by rfl) (by decide)) rfl rfl ?_
  refine o_giveU (g_conv TyU.h TyU.h (evv rfl)) (by rfl) rfl ?_
  refine oG (gM (evv rfl)) rfl rfl ?_
  refine oG (g_shrC 16777216 (evv rfl) (evv rfl) (by rfl) (by decide)) rfl rfl ?_
  refine o_giveN (g_conv TyU.h TyU.h (evv rfl)) (by simp only [inR]; omega) rfl ?_
  refine o_litBs rfl rfl (by simp only [okB, and_true]; omega) rfl (by rfl) rfl rfl (fun _ => ?_)
  refine oG (gA (evv rfl)) rfl rfl ?_
  refine oN ?_
  refine cC ?_
  rw [four_bs n hn]
  first | refine r_ret (rs := [.tmp 2]) rfl rfl _ (Ent.refl _) ?_ | refine c_end (rs := [.tmp 2]) rfl rfl _ (Ent.refl _) ?_
  rfl
theorem unfour_c (L : List Atom) (v : Value) (b : List UInt8) (hb : 4 ≤ b.length) [rd : Rd L v (mrow by8 5 b)] :
    Fn Try.prog 90 [v] L fun v L' => v = .int .u32 (unfourB b : Int) ∧ L' = L := by
  refine fn_intro Try.func90 rfl Try.ntmps90 rfl (fun W0 => ?_)
  simp only [argE]
  refine rS ?_
  refine rR (id := 0) ?_
  refine oG (gA (evv rfl)) rfl rfl ?_
  refine oN ?_
  refine cC ?_
  refine rS ?_
  refine r_quiet (id := 1) Mixed.h (by kernel_rfl) ?_
  refine q_give (gM (evv rfl)) rfl rfl ?_
  refine q_give (g_idxMN (evv rfl) (evv rfl) (by rfl) (by first | omega | (have := of_decide_eq_true hg; omega) | (simp at hg; omega) | (simp only [List.length_set, List.length_append, List.length_cons, List.length_nil, List.length_map, List.length_take, List.length_drop, List.length_replicate]; omega))) rfl rfl ?_
  refine q_give (g_loadM (evv rfl) (by rfl) (by first | omega | (have := of_decide_eq_true hg; omega) | (simp at hg; omega) | (simp only [List.length_set, List.length_append, List.length_cons, List.length_nil, List.length_map, List.length_take, List.length_drop, List.length_replicate]; omega))) rfl rfl ?_
  refine q_giveU (g_conv TyU.h TyU.h (evv rfl)) (by rfl) rfl ?_
  refine q_give (gM (evv rfl)) rfl rfl ?_
  refine q_give (g_idxMN (evv rfl) (evv rfl) (by rfl) (by first | omega | (have := of_decide_eq_true hg; omega) | (simp at hg; omega) | (simp only [List.length_set, List.length_append, List.length_cons, List.length_nil, List.length_map, List.length_take, List.length_drop, List.length_replicate]; omega))) rfl rfl ?_
  refine q_give (g_loadM (evv rfl) (by rfl) (by first | omega | (have := of_decide_eq_true hg; omega) | (simp at hg; omega) | (simp only [List.length_set, List.length_append, List.length_cons, List.length_nil, List.length_map, List.length_take, List.length_drop, List.length_replicate]; omega))) rfl rfl ?_
  refine q_giveU (g_conv TyU.h TyU.h (evv rfl)) (by rfl) rfl ?_
  refine q_giveU (g_shlC 256 (evv rfl) (evv rfl) (by rfl) (by decide)) (by rfl) rfl ?_
  refine q_give (g_bits (evv rfl) (evv rfl) (by rfl) (by omega) (by omega) (by omega) (by omega)) rfl rfl ?_
  refine q_give (gM (evv rfl)) rfl rfl ?_
  refine q_give (g_idxMN (evv rfl) (evv rfl) (by rfl) (by first | omega | (have := of_decide_eq_true hg; omega) | (simp at hg; omega) | (simp only [List.length_set, List.length_append, List.length_cons, List.length_nil, List.length_map, List.length_take, List.length_drop, List.length_replicate]; omega))) rfl rfl ?_
  refine q_give (g_loadM (evv rfl) (by rfl) (by first | omega | (have := of_decide_eq_true hg; omega) | (simp at hg; omega) | (simp only [List.length_set, List.length_append, List.length_cons, List.length_nil, List.length_map, List.length_take, List.length_drop, List.length_replicate]; omega))) rfl rfl ?_
  refine q_giveU (g_conv TyU.h TyU.h (evv rfl)) (by rfl) rfl ?_
  refine q_giveU (g_shlC 65536 (evv rfl) (evv rfl) (by rfl) (by decide)) (by rfl) rfl ?_
  refine q_give (g_bin (evv rfl) (evv rfl) (by rfl)) rfl rfl ?_
  refine q_give (gM (evv rfl)) rfl rfl ?_
  refine q_give (g_idxMN (evv rfl) (evv rfl) (by rfl) (by first | omega | (have := of_decide_eq_true hg; omega) | (simp at hg; omega) | (simp only [List.length_set, List.length_append, List.length_cons, List.length_nil, List.length_map, List.length_take, List.length_drop, List.length_replicate]; omega))) rfl rfl ?_
  refine q_give (g_loadM (evv rfl) (by rfl) (by first | omega | (have := of_decide_eq_true hg; omega) | (simp at hg; omega) | (simp only [List.length_set, List.length_append, List.length_cons, List.length_nil, List.length_map, List.length_take, List.length_drop, List.length_replicate]; omega))) rfl rfl ?_
  refine q_giveU (g_conv TyU.h TyU.h (evv rfl)) (by rfl) rfl ?_
  refine q_giveU (g_shlC 16777216 (evv rfl) (evv rfl) (by rfl) (by decide)) (by rfl) rfl ?_
  refine q_give (g_bin (evv rfl) (evv rfl) (by rfl)) rfl rfl ?_
  refine q_give (gA (evv rfl)) rfl rfl ?_
  refine q_nil ?_
  refine cC ?_
  rw [unfour_bits (b.getD 0 default).toNat_lt (b.getD 1 default).toNat_lt (b.getD 2 default).toNat_lt (b.getD 3 default).toNat_lt]
  first | refine r_ret (rs := [.tmp 2]) rfl rfl _ (Ent.refl _) ?_ | refine c_end (rs := [.tmp 2]) rfl rfl _ (Ent.refl _) ?_
  (refine ⟨?_, ?_⟩ <;> first | rfl | trivial | omega)
def frR (p : List UInt8) : List UInt8 × Int := if 262144 < p.length then ([], 2) else (frameB p, 0)
theorem Frame_c (L : List Atom) (v : Value) (p : List UInt8) (hp : p.length ≤ 1048576) [rd : Rd L v (mrow by8 5 p)] :
    Fn Try.prog 39 [v] L fun w L' => ∃ f, w = .tuple #[f, .int .i64 (frR p).2] ∧ L' = sl f (mrow by8 5 (frR p).1) :: L := by
  refine fn_intro Try.func39 rfl Try.ntmps39 rfl (fun W0 => ?_)
  simp only [argE]
  refine rS ?_
  refine rR (id := 0) ?_
  refine oG (gA (evv rfl)) rfl rfl ?_
  refine oG (gA (evv rfl)) rfl rfl ?_
  refine oN ?_
  refine cC ?_
  refine rS ?_
  refine rS ?_
  refine rR (id := 1) ?_
  refine oG (gM (evv rfl)) rfl rfl ?_
  refine oG (g_lenM (evv rfl)) rfl rfl ?_
  refine oG (g_bin (evv rfl) (evv rfl) (by rfl)) rfl rfl ?_
  refine oN ?_
  refine cC ?_
  refine r_cond rfl (fun hc => ?_) (fun hc => ?_) <;> (try simp only [decide_eq_true_eq, decide_eq_false_iff_not, Bool.and_eq_true, Bool.or_eq_true, Bool.not_eq_true', Bool.and_eq_false_iff, Bool.or_eq_false_iff, Bool.not_eq_false', Bool.not_eq_true, Bool.not_eq_false, Bool.true_eq_false, Bool.false_eq_true, Int.not_lt, Int.not_le, not_and, not_or, ne_eq] at hc)
  · rw [show frR p = ([], 2) from if_pos (by omega)]
    refine rS ?_
    refine rR (id := 2) ?_
    refine oG (gA (evv rfl)) rfl rfl ?_
    refine oG (gA (evv rfl)) rfl rfl ?_
    refine oN ?_
    refine cC ?_
    first | refine r_ret (rs := [.tmp 2, .tmp 3]) rfl rfl _ ((Ent.nilM by8 5)) ?_ | refine c_end (rs := [.tmp 2, .tmp 3]) rfl rfl _ ((Ent.nilM by8 5)) ?_
    exact ⟨_, rfl, rfl⟩
  · rw [show frR p = (frameB p, 0) from if_neg (by omega)]
    have h4 : (fourB p.length).length = 4 := rfl
    have h5 : ∀ n, (fourB n).length = 4 := fun _ => rfl
    refine r_skip ?_
    refine cC ?_
    refine rS ?_
    refine rR (id := 3) ?_
    refine oG (gM (evv rfl)) rfl rfl ?_
    refine oG (g_lenM (evv rfl)) rfl rfl ?_
    refine o_giveN (g_conv TyU.h TyU.h (evv rfl)) (by simp only [inR]; omega) rfl ?_
    (refine o_call rfl _ (Ent.refl _) (four_c _ _ (by first | assumption | exact crc_lt _ | omega)) rfl ?_; rintro fv _ rfl)
    refine oG (gA (evv rfl)) rfl rfl ?_
    refine oN ?_
    refine cC ?_
    refine rS ?_
    refine rR (id := 4) ?_
    refine oG (gM (evv rfl)) rfl rfl ?_
    refine oG (gM (evv rfl)) rfl rfl ?_
    refine o_litV rfl rfl rfl (by rfl) rfl rfl (fun _ => ?_)
    (refine o_call rfl _ (Ent.refl _) (Check_c _ _ _ _ (ReadsI.h (e := 5))) rfl ?_; rintro _ _ ⟨rfl, hLz⟩; obtain rfl := hLz.symm; clear hLz)
    refine oG (gA (evv rfl)) rfl rfl ?_
    refine oN ?_
    refine cC ?_
    refine rS ?_
    have h6 := h5 (crc [fourB p.length, p].flatten)
    rw [show [fourB p.length, p].flatten = fourB p.length ++ p by simp] at *
    refine rR (id := 5) ?_
    refine oG (gM (evv rfl)) rfl rfl ?_
    refine oG (gM (evv rfl)) rfl rfl ?_
    refine o_appM (evv rfl) (evv rfl) (by rfl) (by rfl) (by rfl) (by (try simp only [bsOf, List.length_append, List.length_cons, List.length_nil, List.length_take, List.length_drop, List.length_map, List.length_range]); omega) rfl (fun _ => ?_)
    refine oG (gA (evv rfl)) rfl rfl ?_
    refine oN ?_
    refine cC ?_
    refine rS ?_
    refine rR (id := 6) ?_
    refine oG (gM (evv rfl)) rfl rfl ?_
    refine oG (gM (evv rfl)) rfl rfl ?_
    (refine o_call rfl _ (Ent.refl _) (four_c _ _ (by first | assumption | exact crc_lt _ | omega)) rfl ?_; rintro fv _ rfl)
    refine o_appM (evv rfl) (evv rfl) (by rfl) (by rfl) (by rfl) (by (try simp only [bsOf, List.length_append, List.length_cons, List.length_nil, List.length_take, List.length_drop, List.length_map, List.length_range]); omega) rfl (fun _ => ?_)
    refine oG (gA (evv rfl)) rfl rfl ?_
    refine oG (gA (evv rfl)) rfl rfl ?_
    refine oN ?_
    refine cC ?_
    rename_i f0 lit f1 f2
    rw [show fourB p.length ++ p ++ fourB (crc (fourB p.length ++ p)) = frameB p from rfl]
    first | refine r_ret (rs := [.tmp 2, .tmp 3]) rfl rfl _ ((Lay.ent (L' := sl f2 (mrow by8 5 (frameB p)) :: L))) ?_ | refine c_end (rs := [.tmp 2, .tmp 3]) rfl rfl _ ((Lay.ent (L' := sl f2 (mrow by8 5 (frameB p)) :: L))) ?_
    exact ⟨_, rfl, rfl⟩
theorem Next_c (L : List Atom) (v : Value) (b : List UInt8) (hb : b.length ≤ 140737488355000) [rd : Rd L v (mrow by8 5 b)] :
    Fn Try.prog 65 [v] L fun w L' => ∃ f, w = .tuple #[f, .int .i64 ((nextR b).2.1 : Int), .int .i64 (nextR b).2.2] ∧ L' = sl f (mrow by8 5 (nextR b).1) :: L := by
  refine fn_intro Try.func65 rfl Try.ntmps65 rfl (fun W0 => ?_)
  simp only [argE]
  refine rS ?_
  refine rR (id := 0) ?_
  refine oG (gA (evv rfl)) rfl rfl ?_
  refine oG (gA (evv rfl)) rfl rfl ?_
  refine oG (gA (evv rfl)) rfl rfl ?_
  refine oN ?_
  refine cC ?_
  refine rS ?_
  refine rS ?_
  refine rR (id := 1) ?_
  refine oG (gM (evv rfl)) rfl rfl ?_
  refine oG (g_lenM (evv rfl)) rfl rfl ?_
  refine oG (g_bin (evv rfl) (evv rfl) (by rfl)) rfl rfl ?_
  refine oN ?_
  refine cC ?_
  refine r_cond rfl (fun h1 => ?_) (fun h1 => ?_) <;> (try simp only [decide_eq_true_eq, decide_eq_false_iff_not, Bool.and_eq_true, Bool.or_eq_true, Bool.not_eq_true', Bool.and_eq_false_iff, Bool.or_eq_false_iff, Bool.not_eq_false', Bool.not_eq_true, Bool.not_eq_false, Bool.true_eq_false, Bool.false_eq_true, Int.not_lt, Int.not_le, not_and, not_or, ne_eq] at h1)
  · rw [show nextR b = ([], 0, 20) from if_pos (by omega)]
    refine rS ?_
    refine rR (id := 2) ?_
    refine oG (gA (evv rfl)) rfl rfl ?_
    refine oG (gA (evv rfl)) rfl rfl ?_
    refine oG (gA (evv rfl)) rfl rfl ?_
    refine oN ?_
    refine cC ?_
    first | refine r_ret (rs := [.tmp 2, .tmp 3, .tmp 4]) rfl rfl _ ((Ent.nilM by8 5)) ?_ | refine c_end (rs := [.tmp 2, .tmp 3, .tmp 4]) rfl rfl _ ((Ent.nilM by8 5)) ?_
    exact ⟨_, rfl, rfl⟩
  · have g1 : ¬ b.length < 4 := by omega
    have hb4 : 4 ≤ b.length := by omega
    refine r_skip ?_
    refine cC ?_
    refine rS ?_
    refine rR (id := 3) ?_
    refine oG (gM (evv rfl)) rfl rfl ?_
    (refine o_call rfl _ (Ent.refl _) (unfour_c _ _ _ (by first | assumption | (simp only [List.length_take, List.length_drop]; omega) | omega)) rfl ?_; rintro _ _ ⟨rfl, hLz⟩; obtain rfl := hLz.symm; clear hLz)
    refine oG (gA (evv rfl)) rfl rfl ?_
    refine oN ?_
    refine cC ?_
    refine rS ?_
    refine rS ?_
    refine rR (id := 4) ?_
    refine oG (gM (evv rfl)) rfl rfl ?_
    refine oG (g_bin (evv rfl) (evv rfl) (by rfl)) rfl rfl ?_
    refine oN ?_
    refine cC ?_
    refine r_cond rfl (fun h2 => ?_) (fun h2 => ?_) <;> (try simp only [decide_eq_true_eq, decide_eq_false_iff_not, Bool.and_eq_true, Bool.or_eq_true, Bool.not_eq_true', Bool.and_eq_false_iff, Bool.or_eq_false_iff, Bool.not_eq_false', Bool.not_eq_true, Bool.not_eq_false, Bool.true_eq_false, Bool.false_eq_true, Int.not_lt, Int.not_le, not_and, not_or, ne_eq] at h2)
    · rw [show nextR b = ([], 0, 2) from (if_neg g1).trans (if_pos (by omega))]
      refine rS ?_
      refine rR (id := 5) ?_
      refine oG (gA (evv rfl)) rfl rfl ?_
      refine oG (gA (evv rfl)) rfl rfl ?_
      refine oG (gA (evv rfl)) rfl rfl ?_
      refine oN ?_
      refine cC ?_
      first | refine r_ret (rs := [.tmp 2, .tmp 3, .tmp 4]) rfl rfl _ ((Ent.nilM by8 5)) ?_ | refine c_end (rs := [.tmp 2, .tmp 3, .tmp 4]) rfl rfl _ ((Ent.nilM by8 5)) ?_
      exact ⟨_, rfl, rfl⟩
    · have g2 : ¬ 262144 < unfourB b := by omega
      refine r_skip ?_
      refine cC ?_
      refine rS ?_
      refine rR (id := 6) ?_
      refine oG (gM (evv rfl)) rfl rfl ?_
      refine o_giveN (g_conv TyU.h TyU.h (evv rfl)) (by simp only [inR]; omega) rfl ?_
      refine o_giveN (g_bin (evv rfl) (evv rfl) (by rfl)) (by simp only [inR]; omega) rfl ?_
      refine oG (gA (evv rfl)) rfl rfl ?_
      refine oN ?_
      refine cC ?_
      refine rS ?_
      refine rS ?_
      refine rR (id := 7) ?_
      refine oG (gM (evv rfl)) rfl rfl ?_
      refine oG (g_lenM (evv rfl)) rfl rfl ?_
      refine oG (gM (evv rfl)) rfl rfl ?_
      refine o_giveN (g_bin (evv rfl) (evv rfl) (by rfl)) (by simp only [inR]; omega) rfl ?_
      refine oG (g_bin (evv rfl) (evv rfl) (by rfl)) rfl rfl ?_
      refine oN ?_
      refine cC ?_
      refine r_cond rfl (fun h3 => ?_) (fun h3 => ?_) <;> (try simp only [decide_eq_true_eq, decide_eq_false_iff_not, Bool.and_eq_true, Bool.or_eq_true, Bool.not_eq_true', Bool.and_eq_false_iff, Bool.or_eq_false_iff, Bool.not_eq_false', Bool.not_eq_true, Bool.not_eq_false, Bool.true_eq_false, Bool.false_eq_true, Int.not_lt, Int.not_le, not_and, not_or, ne_eq] at h3)
      · rw [show nextR b = ([], 0, 20) from (if_neg g1).trans ((if_neg g2).trans (if_pos (by omega)))]
        refine rS ?_
        refine rR (id := 8) ?_
        refine oG (gA (evv rfl)) rfl rfl ?_
        refine oG (gA (evv rfl)) rfl rfl ?_
        refine oG (gA (evv rfl)) rfl rfl ?_
        refine oN ?_
        refine cC ?_
        first | refine r_ret (rs := [.tmp 2, .tmp 3, .tmp 4]) rfl rfl _ ((Ent.nilM by8 5)) ?_ | refine c_end (rs := [.tmp 2, .tmp 3, .tmp 4]) rfl rfl _ ((Ent.nilM by8 5)) ?_
        exact ⟨_, rfl, rfl⟩
      · have g3 : ¬ b.length < unfourB b + 8 := by omega
        have e4 : (4 : Int) + (unfourB b : Int) = ((unfourB b + 4 : Nat) : Int) := by omega
        rw [e4]
        repeat (first | refine rS ?_ | refine cC ?_ | refine c_blk ?_ | refine r_block ?_ | refine r_skip ?_)
        refine r_held (id := 9) (L) Mixed.h ?_
        refine h_give (i := 0) (by kernel_rfl) rfl (gM (evv rfl)) rfl rfl ?_
        refine h_give (i := 1) (by kernel_rfl) rfl (gM (evv rfl)) rfl rfl ?_
        refine h_give (i := 2) (by kernel_rfl) rfl (g_subM (evv rfl) _ _ bnd_none (bnd_some (evv rfl) rfl) (by rfl) (by omega) (by first | omega | (simp only [List.length_append, List.length_cons, List.length_nil, List.length_set, List.length_map]; omega))) rfl rfl ?_
        refine h_give (i := 5) (by kernel_rfl) rfl (gM (evv rfl)) rfl rfl ?_
        refine h_give (i := 6) (by kernel_rfl) rfl (gM (evv rfl)) rfl rfl ?_
        refine h_give (i := 7) (by kernel_rfl) rfl (g_subM (evv rfl) _ _ (bnd_some (evv rfl) rfl) bnd_none (by rfl) (by omega) (by first | omega | (simp only [List.length_append, List.length_cons, List.length_nil, List.length_set, List.length_map]; omega))) rfl rfl ?_
        refine h_one (i := 3) (by kernel_rfl) rfl (Lay.ent) ?_
        refine o_litV rfl rfl rfl (by rfl) rfl rfl (fun _ => ?_)
        refine oN ?_
        refine h_one (i := 4) (by kernel_rfl) rfl (Lay.ent) ?_
        (refine o_call rfl _ (Ent.refl _) (Check_c _ _ _ _ (ReadsI.h (e := 5))) rfl ?_; rintro _ _ ⟨rfl, hLz⟩; obtain rfl := hLz.symm; clear hLz)
        refine oN ?_
        refine h_one (i := 8) (by kernel_rfl) rfl (Lay.ent) ?_
        (refine o_call rfl _ (Ent.refl _) (unfour_c _ _ _ (by first | assumption | (simp only [List.length_take, List.length_drop]; omega) | omega)) rfl ?_; rintro _ _ ⟨rfl, hLz⟩; obtain rfl := hLz.symm; clear hLz)
        refine oN ?_
        refine h_give (i := 9) (by kernel_rfl) rfl (g_bin (evv rfl) (evv rfl) (by rfl)) rfl rfl ?_
        refine h_done (by kernel_rfl) (Lay.ent) ?_
        refine cC ?_
        have ea : [List.take (unfourB b + 4 - 0) (List.drop 0 b)].flatten = b.take (unfourB b + 4) := by simp
        have eb : List.take (b.length - (unfourB b + 4)) (List.drop (unfourB b + 4) b) = b.drop (unfourB b + 4) := List.take_of_length_le (by simp)
        rw [ea, eb]
        refine r_cond rfl (fun h4 => ?_) (fun h4 => ?_) <;> (try simp only [decide_eq_true_eq, decide_eq_false_iff_not, Bool.and_eq_true, Bool.or_eq_true, Bool.not_eq_true', Bool.and_eq_false_iff, Bool.or_eq_false_iff, Bool.not_eq_false', Bool.not_eq_true, Bool.not_eq_false, Bool.true_eq_false, Bool.false_eq_true, Int.not_lt, Int.not_le, not_and, not_or, ne_eq] at h4)
        · rw [show nextR b = ([], 0, 22) from (if_neg g1).trans ((if_neg g2).trans ((if_neg g3).trans (if_pos (by omega))))]
          refine rS ?_
          refine rR (id := 10) ?_
          refine oG (gA (evv rfl)) rfl rfl ?_
          refine oG (gA (evv rfl)) rfl rfl ?_
          refine oG (gA (evv rfl)) rfl rfl ?_
          refine oN ?_
          refine cC ?_
          first | refine r_ret (rs := [.tmp 2, .tmp 3, .tmp 4]) rfl rfl _ ((Ent.drop.trans (Ent.nilM by8 5))) ?_ | refine c_end (rs := [.tmp 2, .tmp 3, .tmp 4]) rfl rfl _ ((Ent.drop.trans (Ent.nilM by8 5))) ?_
          exact ⟨_, rfl, rfl⟩
        · rw [show nextR b = ((b.drop 4).take (unfourB b), unfourB b + 8, 0) from (if_neg g1).trans ((if_neg g2).trans ((if_neg g3).trans (if_neg (by omega))))]
          have h7 := List.length_take_le (unfourB b + 4 - Int.toNat 4) (List.drop (Int.toNat 4) b)
          refine r_skip ?_
          refine cC ?_
          refine rS ?_
          refine rR (id := 11) ?_
          refine oG (gM (evv rfl)) rfl rfl ?_
          refine oG (gM (evv rfl)) rfl rfl ?_
          refine oG (g_subM (evv rfl) _ _ (bnd_to (evv rfl) (by omega)) (bnd_some (evv rfl) rfl) (by rfl) (by omega) (by first | omega | (simp only [List.length_append, List.length_cons, List.length_nil, List.length_set, List.length_map]; omega))) rfl rfl ?_
          refine o_nilM by8 5 ?_
          refine o_appM (evv rfl) (evv rfl) (by rfl) (by rfl) (by rfl) (by (try simp only [bsOf, List.length_append, List.length_cons, List.length_nil, List.length_take, List.length_drop, List.length_map, List.length_range]); omega) rfl (fun _ => ?_)
          refine oG (gM (evv rfl)) rfl rfl ?_
          refine o_giveN (g_bin (evv rfl) (evv rfl) (by rfl)) (by simp only [inR]; omega) rfl ?_
          refine oG (gA (evv rfl)) rfl rfl ?_
          refine oG (gA (evv rfl)) rfl rfl ?_
          refine oG (gA (evv rfl)) rfl rfl ?_
          refine oN ?_
          refine cC ?_
          rename_i lit f
          rw [show ((unfourB b + 4 : Nat) : Int) + 4 = ((unfourB b + 8 : Nat) : Int) by omega]
          first | refine r_ret (rs := [.tmp 2, .tmp 3, .tmp 4]) rfl rfl _ ((Ent.swap.trans Ent.drop)) ?_ | refine c_end (rs := [.tmp 2, .tmp 3, .tmp 4]) rfl rfl _ ((Ent.swap.trans Ent.drop)) ?_
          refine ⟨f, rfl, ?_⟩
          refine congrArg (fun z => sl f (mrow by8 5 z) :: L) ?_
          have e44 : Int.toNat 4 = 4 := rfl
          rw [e44, Nat.add_sub_cancel, List.nil_append]
end VK

namespace VK
open Go Go.Proofs
set_option linter.unusedSimpArgs false
set_option linter.unusedVariables false
set_option maxRecDepth 100000
set_option maxHeartbeats 40000000
end VK

namespace VK
open Go Go.Proofs
set_option linter.unusedSimpArgs false
set_option linter.unusedVariables false
set_option maxRecDepth 100000
set_option maxHeartbeats 40000000
theorem rFour_c (L : List Atom) (n : Nat) (hn : n < 4294967296) :
    Fn Try.prog 97 [.int .u32 (n : Int)] L fun v L' => L' = sl v (mrow by8 5 (fourB n)) :: L := by
  refine fn_intro Try.func97 rfl Try.ntmps97 rfl (fun W0 => ?_)
  simp only [argE]
  refine rS ?_
  refine rR (id := 0) ?_
  refine oG (gA (evv rfl)) rfl rfl ?_
  refine oN ?_
  refine cC ?_
  refine rS ?_
  refine rR (id := 1) ?_
  refine oG (gM (evv rfl)) rfl rfl ?_
  refine oG (g_remP (evv rfl) (evv rfl) (by omega) (by omega)) rfl rfl ?_
  refine o_giveN (g_conv TyU.h TyU.h (evv rfl)) (by simp only [inR]; omega) rfl ?_
  refine oG (gM (evv rfl)) rfl rfl ?_
  refine o_giveN (g_quoP (evv rfl) (evv rfl) (by omega) (by omega)) (by simp only [inR]; omega) rfl ?_
  refine oG (g_remP (evv rfl) (evv rfl) (by omega) (by omega)) rfl rfl ?_
  refine o_giveN (g_conv TyU.h TyU.h (evv rfl)) (by simp only [inR]; omega) rfl ?_
  refine oG (gM (evv rfl)) rfl rfl ?_
  refine o_giveN (g_quoP (evv rfl) (evv rfl) (by omega) (by omega)) (by simp only [inR]; omega) rfl ?_
  refine oG (g_remP (evv rfl) (evv rfl) (by omega) (by omega)) rfl rfl ?_
  refine o_giveN (g_conv TyU.h TyU.h (evv rfl)) (by simp only [inR]; omega) rfl ?_
  refine oG (gM (evv rfl)) rfl rfl ?_
  refine o_giveN (g_quoP (evv rfl) (evv rfl) (by omega) (by omega)) (by simp only [inR]; omega) rfl ?_
  refine o_giveN (g_conv TyU.h TyU.h (evv rfl)) (by simp only [inR]; omega) rfl ?_
  refine o_litBs rfl rfl (by simp only [okB, and_true]; omega) rfl (by rfl) rfl rfl (fun _ => ?_)
  refine oG (gA (evv rfl)) rfl rfl ?_
  refine oN ?_
  refine cC ?_
  rw [four_bs n hn]
  first | refine r_ret (rs := [.tmp 2]) rfl rfl _ (Ent.refl _) ?_ | refine c_end (rs := [.tmp 2]) rfl rfl _ (Ent.refl _) ?_
  rfl
theorem rCheck_c (L : List Atom) (v : Value) (b : List UInt8) [rd : Rd L v (mrow by8 5 b)] :
    Fn Try.prog 98 [v] L fun w L' => w = .int .u32 (crc b : Int) ∧ L' = L := by
  refine fn_lenM rd fun hbl => ?_
  have hbl : b.length ≤ 2 ^ 63 - 1 := hbl
  refine fn_intro Try.func98 rfl Try.ntmps98 rfl (fun W0 => ?_)
  simp only [argE]
  refine rS ?_
  refine rR (id := 0) ?_
  refine oG (gA (evv rfl)) rfl rfl ?_
  refine oN ?_
  refine cC ?_
  refine rS ?_
  refine rR (id := 1) ?_
  refine oG (gA (evv rfl)) rfl rfl ?_
  refine oN ?_
  refine cC ?_
  refine rS ?_
  refine rS ?_
  refine rR (id := 2) ?_
  refine oG (gA (evv rfl)) rfl rfl ?_
  refine oN ?_
  refine cC ?_
  refine r_block ?_
  refine r_loopE (σ := Nat × Nat) (fun ⟨i, s⟩ => i ≤ b.length ∧ s = crcGo 4294967295 (b.take i)) (fun ⟨i, s⟩ => b.length - i) (fun ⟨i, s⟩ => [(3, .v (.int .u32 (s : Int))), (4, .v (.int .i64 i))]) [0] (fun ⟨i, s⟩ => L) (0, 4294967295) (by dsimp only [pickE, pick1, lk2, Nat.reduceBEq, Nat.reduceAdd, Nat.zero_add, cond_true, cond_false] <;> exact rfl) ?_ (by repeat (first | exact trivial | refine ⟨rfl, ?_⟩ | refine envsub_v rfl (by first | rfl | (refine int_eq ?_; first | omega | (simp; omega) | (simp; done)) | (refine bool_eq ?_; first | (simp [*]; done) | (simp; done)) | (refine str_eq ?_; simp; done) | (refine ptr_eq ?_; omega) | fail) ?_)) ?_ ?_
  · exact ⟨Nat.zero_le _, rfl⟩
  · exact Ent.refl _
  rintro ⟨i, s⟩ ⟨hi, hs⟩; dsimp only [List.cons_append, List.nil_append]
  have hs32 : s < 4294967296 := by rw [hs]; exact crcGo_lt (by decide)
  refine rS ?_
  refine rS ?_
  refine rR (id := 3) ?_
  refine oG (gM (evv rfl)) rfl rfl ?_
  refine oG (gM (evv rfl)) rfl rfl ?_
  refine oG (g_lenM (evv rfl)) rfl rfl ?_
  refine oG (g_bin (evv rfl) (evv rfl) (by rfl)) rfl rfl ?_
  refine oN ?_
  refine cC ?_
  refine r_cond rfl (fun hc => ?_) (fun hc => ?_) <;> (try simp only [decide_eq_true_eq, decide_eq_false_iff_not, Bool.and_eq_true, Bool.or_eq_true, Bool.not_eq_true', Bool.and_eq_false_iff, Bool.or_eq_false_iff, Bool.not_eq_false', Bool.not_eq_true, Bool.not_eq_false, Bool.true_eq_false, Bool.false_eq_true, Int.not_lt, Int.not_le, not_and, not_or, ne_eq] at hc)
  · have hi1 : i < b.length := by omega
    have hstep : crcGo 4294967295 (b.take (i + 1)) = crcByte s (b.getD i default) := by
      rw [List.take_succ_eq_append_getElem hi1, crcGo_app, ← hs]
      simp [hi1, crcGo]
    have hc8 := (b.getD i default).toNat_lt
    have e0 : ((s : Int).toNat ^^^ (((b.getD i default).toNat : Nat) : Int).toNat) = s ^^^ (b.getD i default).toNat := rfl
    have hx : s ^^^ (b.getD i default).toNat < 4294967296 := Nat.xor_lt_two_pow (n := 32) hs32 (by omega)
    refine r_skip ?_
    refine cC ?_
    refine rS ?_
    refine r_block ?_
    refine rS ?_
    refine rR (id := 5) ?_
    refine oG (gM (evv rfl)) rfl rfl ?_
    refine oG (gM (evv rfl)) rfl rfl ?_
    refine oG (gM (evv rfl)) rfl rfl ?_
    refine oG (g_idxMN (evv rfl) (evv rfl) (by rfl) (by first | omega | (have := of_decide_eq_true hg; omega) | (simp at hg; omega) | (simp only [List.length_set, List.length_append, List.length_cons, List.length_nil, List.length_map, List.length_take, List.length_drop, List.length_replicate]; omega))) rfl rfl ?_
    refine oG (g_loadM (evv rfl) (by rfl) (by first | omega | (have := of_decide_eq_true hg; omega) | (simp at hg; omega) | (simp only [List.length_set, List.length_append, List.length_cons, List.length_nil, List.length_map, List.length_take, List.length_drop, List.length_replicate]; omega))) rfl rfl ?_
    refine o_giveN (g_conv TyU.h TyU.h (evv rfl)) (by simp only [inR]; omega) rfl ?_
    refine oG (g_bits (evv rfl) (evv rfl) (by rfl) (by omega) (by omega) (by omega) (by omega)) rfl rfl ?_
    refine oG (gA (evv rfl)) rfl rfl ?_
    refine oN ?_
    refine cC ?_
    refine rS ?_
    refine rR (id := 6) ?_
    refine oG (gA (evv rfl)) rfl rfl ?_
    refine oN ?_
    refine cC ?_
    refine r_block ?_
    rw [e0]
    refine r_loopE (σ := Nat × Nat) (fun ⟨q, z⟩ => q ≤ 8 ∧ crcBits (8 - q) z = crcByte s (b.getD i default) ∧ z < 4294967296) (fun ⟨q, z⟩ => 8 - q) (fun ⟨q, z⟩ => [(3, .v (.int .u32 (z : Int))), (5, .v (.int .i64 q))]) [0, 4] (fun ⟨q, z⟩ => L) (0, s ^^^ (b.getD i default).toNat) (by dsimp only [pickE, pick1, lk2, Nat.reduceBEq, Nat.reduceAdd, Nat.zero_add, cond_true, cond_false] <;> exact rfl) ?_ (by repeat (first | exact trivial | refine ⟨rfl, ?_⟩ | refine envsub_v rfl (by first | rfl | (refine int_eq ?_; first | omega | (simp; omega) | (simp; done)) | (refine bool_eq ?_; first | (simp [*]; done) | (simp; done)) | (refine str_eq ?_; simp; done) | (refine ptr_eq ?_; omega) | fail) ?_)) ?_ ?_
    · exact ⟨Nat.zero_le _, rfl, hx⟩
    · exact Ent.refl _
    rintro ⟨q, z⟩ ⟨hq, hz, hz32⟩; dsimp only [List.cons_append, List.nil_append]
    refine rS ?_
    refine rS ?_
    refine rR (id := 7) ?_
    refine oG (gM (evv rfl)) rfl rfl ?_
    refine oG (g_bin (evv rfl) (evv rfl) (by rfl)) rfl rfl ?_
    refine oN ?_
    refine cC ?_
    refine r_cond rfl (fun hd => ?_) (fun hd => ?_) <;> (try simp only [decide_eq_true_eq, decide_eq_false_iff_not, Bool.and_eq_true, Bool.or_eq_true, Bool.not_eq_true', Bool.and_eq_false_iff, Bool.or_eq_false_iff, Bool.not_eq_false', Bool.not_eq_true, Bool.not_eq_false, Bool.true_eq_false, Bool.false_eq_true, Int.not_lt, Int.not_le, not_and, not_or, ne_eq] at hd)
    · have hzn := crcBit_lt hz32
      have hstep2 : crcBits (8 - (q + 1)) (crcBit z) = crcByte s (b.getD i default) := by
        rw [← hz, show 8 - q = (8 - (q + 1)) + 1 by omega]; rfl
      refine r_skip ?_
      refine cC ?_
      refine rS ?_
      refine r_block ?_
      refine rS ?_
      refine rR (id := 9) ?_
      refine oG (gM (evv rfl)) rfl rfl ?_
      refine oG (g_remP (evv rfl) (evv rfl) (by omega) (by omega)) rfl rfl ?_
      refine oG (g_bin (evv rfl) (evv rfl) (by rfl)) rfl rfl ?_
      refine oG (gA (evv rfl)) rfl rfl ?_
      refine oN ?_
      refine cC ?_
      refine rS ?_
      refine rR (id := 10) ?_
      refine oG (gM (evv rfl)) rfl rfl ?_
      refine o_giveN (g_quoP (evv rfl) (evv rfl) (by omega) (by omega)) (by simp only [inR]; omega) rfl ?_
      refine oG (gA (evv rfl)) rfl rfl ?_
      refine oN ?_
      refine cC ?_
      refine rS ?_
      refine rR (id := 11) ?_
      refine oG (gM (evv rfl)) rfl rfl ?_
      refine oN ?_
      refine cC ?_
      refine r_cond rfl (fun ho => ?_) (fun ho => ?_) <;> (try simp only [decide_eq_true_eq, decide_eq_false_iff_not, Bool.and_eq_true, Bool.or_eq_true, Bool.not_eq_true', Bool.and_eq_false_iff, Bool.or_eq_false_iff, Bool.not_eq_false', Bool.not_eq_true, Bool.not_eq_false, Bool.true_eq_false, Bool.false_eq_true, Int.not_lt, Int.not_le, not_and, not_or, ne_eq] at ho)
      · have ez : crcBit z = z / 2 ^^^ 3988292384 := by rw [crcBit, if_pos (by omega)]
        have e3 : (((z : Int) / 2).toNat ^^^ Int.toNat 3988292384) = crcBit z := by
          rw [ez, show ((z : Int) / 2).toNat = z / 2 by omega]; rfl
        refine rR (id := 12) ?_
        refine oG (gM (evv rfl)) rfl rfl ?_
        refine oG (g_bits (evv rfl) (evv rfl) (by rfl) (by omega) (by omega) (by omega) (by omega)) rfl rfl ?_
        refine oG (gA (evv rfl)) rfl rfl ?_
        refine oN ?_
        refine c_blk ?_
        refine cC ?_
        rw [e3]
        refine rR (id := 8) ?_
        refine oG (gM (evv rfl)) rfl rfl ?_
        refine o_giveN (g_bin (evv rfl) (evv rfl) (by rfl)) (by simp only [inR]; omega) rfl ?_
        refine oG (gA (evv rfl)) rfl rfl ?_
        refine oN ?_
        refine c_loop (q + 1, crcBit z) ?_ ?_ (by repeat (first | exact trivial | refine ⟨rfl, ?_⟩ | refine envsub_v rfl (by first | rfl | (refine int_eq ?_; first | omega | (simp; omega) | (simp; done)) | (refine bool_eq ?_; first | (simp [*]; done) | (simp; done)) | (refine str_eq ?_; simp; done) | (refine ptr_eq ?_; omega) | fail) ?_)) ?_ <;> (try dsimp only)
        · exact ⟨by omega, hstep2, hzn⟩
        · omega
        · exact Ent.refl _
      · have ez : crcBit z = z / 2 := by rw [crcBit, if_neg (by omega)]
        have e3 : (z : Int) / 2 = ((crcBit z : Nat) : Int) := by rw [ez]; omega
        rw [e3]
        refine r_skip ?_
        refine c_blk ?_
        refine cC ?_
        refine rR (id := 8) ?_
        refine oG (gM (evv rfl)) rfl rfl ?_
        refine o_giveN (g_bin (evv rfl) (evv rfl) (by rfl)) (by simp only [inR]; omega) rfl ?_
        refine oG (gA (evv rfl)) rfl rfl ?_
        refine oN ?_
        refine c_loop (q + 1, crcBit z) ?_ ?_ (by repeat (first | exact trivial | refine ⟨rfl, ?_⟩ | refine envsub_v rfl (by first | rfl | (refine int_eq ?_; first | omega | (simp; omega) | (simp; done)) | (refine bool_eq ?_; first | (simp [*]; done) | (simp; done)) | (refine str_eq ?_; simp; done) | (refine ptr_eq ?_; omega) | fail) ?_)) ?_ <;> (try dsimp only)
        · exact ⟨by omega, hstep2, hzn⟩
        · omega
        · exact Ent.refl _
    · have e8 : q = 8 := by omega
      subst e8
      have hz' : z = crcByte s (b.getD i default) := hz
      refine r_exit rfl ?_
      refine c_blk ?_
      refine cC ?_
      refine rR (id := 4) ?_
      refine oG (gM (evv rfl)) rfl rfl ?_
      refine o_giveN (g_bin (evv rfl) (evv rfl) (by rfl)) (by simp only [inR]; omega) rfl ?_
      refine oG (gA (evv rfl)) rfl rfl ?_
      refine oN ?_
      refine c_loop (i + 1, z) ?_ ?_ (by repeat (first | exact trivial | refine ⟨rfl, ?_⟩ | refine envsub_v rfl (by first | rfl | (refine int_eq ?_; first | omega | (simp; omega) | (simp; done)) | (refine bool_eq ?_; first | (simp [*]; done) | (simp; done)) | (refine str_eq ?_; simp; done) | (refine ptr_eq ?_; omega) | fail) ?_)) ?_ <;> (try dsimp only)
      · exact ⟨by omega, by rw [hz', hstep]⟩
      · omega
      · exact Ent.refl _
  · refine r_exit rfl ?_
    refine cC ?_
    refine rS ?_
    refine rR (id := 13) ?_
    refine oG (gM (evv rfl)) rfl rfl ?_
    refine oG (g_bits (evv rfl) (evv rfl) (by rfl) (by omega) (by omega) (by omega) (by omega)) rfl rfl ?_
    refine oG (gA (evv rfl)) rfl rfl ?_
    refine oN ?_
    refine cC ?_
    first | refine r_ret (rs := [.tmp 2]) rfl rfl _ (Ent.refl _) ?_ | refine c_end (rs := [.tmp 2]) rfl rfl _ (Ent.refl _) ?_
    refine ⟨?_, rfl⟩
    have : s = crcGo 4294967295 b := by rw [hs, List.take_of_length_le (by omega)]
    subst this
    rfl
theorem rFrame_c (L : List Atom) (v : Value) (p : List UInt8) (hp : p.length ≤ 1048576) [rd : Rd L v (mrow by8 5 p)] :
    Fn Try.prog 85 [v] L fun w L' => ∃ f, w = .tuple #[f, .int .i64 (frR p).2] ∧ L' = sl f (mrow by8 5 (frR p).1) :: L := by
  refine fn_intro Try.func85 rfl Try.ntmps85 rfl (fun W0 => ?_)
  simp only [argE]
  refine rS ?_
  refine rR (id := 0) ?_
  refine oG (gA (evv rfl)) rfl rfl ?_
  refine oG (gA (evv rfl)) rfl rfl ?_
  refine oN ?_
  refine cC ?_
  refine rS ?_
  refine rS ?_
  refine rR (id := 1) ?_
  refine oG (gM (evv rfl)) rfl rfl ?_
  refine oG (g_lenM (evv rfl)) rfl rfl ?_
  refine oG (g_bin (evv rfl) (evv rfl) (by rfl)) rfl rfl ?_
  refine oN ?_
  refine cC ?_
  refine r_cond rfl (fun hc => ?_) (fun hc => ?_) <;> (try simp only [decide_eq_true_eq, decide_eq_false_iff_not, Bool.and_eq_true, Bool.or_eq_true, Bool.not_eq_true', Bool.and_eq_false_iff, Bool.or_eq_false_iff, Bool.not_eq_false', Bool.not_eq_true, Bool.not_eq_false, Bool.true_eq_false, Bool.false_eq_true, Int.not_lt, Int.not_le, not_and, not_or, ne_eq] at hc)
  · rw [show frR p = ([], 2) from if_pos (by omega)]
    refine rS ?_
    refine rR (id := 2) ?_
    refine oG (gA (evv rfl)) rfl rfl ?_
    refine oG (gA (evv rfl)) rfl rfl ?_
    refine oN ?_
    refine cC ?_
    first | refine r_ret (rs := [.tmp 2, .tmp 3]) rfl rfl _ ((Ent.nilM by8 5)) ?_ | refine c_end (rs := [.tmp 2, .tmp 3]) rfl rfl _ ((Ent.nilM by8 5)) ?_
    exact ⟨_, rfl, rfl⟩
  · rw [show frR p = (frameB p, 0) from if_neg (by omega)]
    have h4 : (fourB p.length).length = 4 := rfl
    have h5 : ∀ n, (fourB n).length = 4 := fun _ => rfl
    have h6 := h5 (crc (fourB p.length ++ p))
    refine r_skip ?_
    refine cC ?_
    refine rS ?_
    refine rR (id := 3) ?_
    refine oG (gM (evv rfl)) rfl rfl ?_
    refine oG (g_lenM (evv rfl)) rfl rfl ?_
    refine o_giveN (g_conv TyU.h TyU.h (evv rfl)) (by simp only [inR]; omega) rfl ?_
    (refine o_call rfl _ (Ent.refl _) (rFour_c _ _ (by first | assumption | exact crc_lt _ | omega)) rfl ?_; rintro fv _ rfl)
    refine oG (gA (evv rfl)) rfl rfl ?_
    refine oN ?_
    refine cC ?_
    refine rS ?_
    refine rR (id := 4) ?_
    refine oG (gM (evv rfl)) rfl rfl ?_
    refine oG (gM (evv rfl)) rfl rfl ?_
    refine o_appM (evv rfl) (evv rfl) (by rfl) (by rfl) (by rfl) (by (try simp only [bsOf, List.length_append, List.length_cons, List.length_nil, List.length_take, List.length_drop, List.length_map, List.length_range]); omega) rfl (fun _ => ?_)
    refine oG (gA (evv rfl)) rfl rfl ?_
    refine oN ?_
    refine cC ?_
    refine rS ?_
    refine rR (id := 5) ?_
    refine oG (gM (evv rfl)) rfl rfl ?_
    (refine o_call rfl _ (Ent.refl _) (rCheck_c _ _ _) rfl ?_; rintro _ _ ⟨rfl, hLz⟩; obtain rfl := hLz.symm; clear hLz)
    refine oG (gA (evv rfl)) rfl rfl ?_
    refine oN ?_
    refine cC ?_
    refine rS ?_
    refine rR (id := 6) ?_
    refine oG (gM (evv rfl)) rfl rfl ?_
    refine oG (gM (evv rfl)) rfl rfl ?_
    (refine o_call rfl _ (Ent.refl _) (rFour_c _ _ (by first | assumption | exact crc_lt _ | omega)) rfl ?_; rintro fv _ rfl)
    refine o_appM (evv rfl) (evv rfl) (by rfl) (by rfl) (by rfl) (by (try simp only [bsOf, List.length_append, List.length_cons, List.length_nil, List.length_take, List.length_drop, List.length_map, List.length_range]); omega) rfl (fun _ => ?_)
    refine oG (gA (evv rfl)) rfl rfl ?_
    refine oG (gA (evv rfl)) rfl rfl ?_
    refine oN ?_
    refine cC ?_
    rename_i f1 f2
    rw [show fourB p.length ++ p ++ fourB (crc (fourB p.length ++ p)) = frameB p from rfl]
    first | refine r_ret (rs := [.tmp 2, .tmp 3]) rfl rfl _ ((Lay.ent (L' := sl f2 (mrow by8 5 (frameB p)) :: L))) ?_ | refine c_end (rs := [.tmp 2, .tmp 3]) rfl rfl _ ((Lay.ent (L' := sl f2 (mrow by8 5 (frameB p)) :: L))) ?_
    exact ⟨_, rfl, rfl⟩
end VK

namespace VK
open Go Go.Proofs
set_option linter.unusedSimpArgs false
set_option linter.unusedVariables false
set_option maxRecDepth 100000
set_option maxHeartbeats 40000000
def hiB (b : List UInt8) : Nat → Nat
  | 0 => unfourB b
  | 1 => (b.getD 1 default).toNat + (b.getD 2 default).toNat * 256 + (b.getD 3 default).toNat * 65536
  | 2 => (b.getD 2 default).toNat + (b.getD 3 default).toNat * 256
  | 3 => (b.getD 3 default).toNat
  | _ => 0
theorem hiB_step (b : List UInt8) {j : Nat} (h : j < 4) : hiB b j = hiB b (j + 1) * 256 + (b.getD j default).toNat := by
  rcases (by omega : j = 0 ∨ j = 1 ∨ j = 2 ∨ j = 3) with rfl | rfl | rfl | rfl <;> simp only [hiB, unfourB] <;> omega
theorem hiB_le (b : List UInt8) (j : Nat) : hiB b j ≤ 4294967295 := by
  have a0 := (b.getD 0 default).toNat_lt
  have a1 := (b.getD 1 default).toNat_lt
  have a2 := (b.getD 2 default).toNat_lt
  have a3 := (b.getD 3 default).toNat_lt
  match j with
  | 0 => simp only [hiB, unfourB]; omega
  | 1 => simp only [hiB]; omega
  | 2 => simp only [hiB]; omega
  | 3 => simp only [hiB]; omega
  | _ + 4 => simp only [hiB]; omega
theorem gdrop (b : List UInt8) (n i : Nat) : (b.drop n).getD i default = b.getD (n + i) default := by
  simp only [List.getD_eq_getElem?_getD, List.getElem?_drop]
theorem rNext_c (L : List Atom) (v : Value) (b : List UInt8) (hb : b.length ≤ 140737488355000) [rd : Rd L v (mrow by8 5 b)] :
    Fn Try.prog 80 [v] L fun w L' => ∃ f, w = .tuple #[f, .int .i64 ((nextR b).2.1 : Int), .int .i64 (nextR b).2.2] ∧ L' = sl f (mrow by8 5 (nextR b).1) :: L := by
  refine fn_intro Try.func80 rfl Try.ntmps80 rfl (fun W0 => ?_)
  simp only [argE]
  refine rS ?_
  refine rR (id := 0) ?_
  refine oG (gA (evv rfl)) rfl rfl ?_
  refine oG (gA (evv rfl)) rfl rfl ?_
  refine oG (gA (evv rfl)) rfl rfl ?_
  refine oN ?_
  refine cC ?_
  refine rS ?_
  refine rS ?_
  refine rR (id := 1) ?_
  refine oG (gM (evv rfl)) rfl rfl ?_
  refine oG (g_lenM (evv rfl)) rfl rfl ?_
  refine oG (g_bin (evv rfl) (evv rfl) (by rfl)) rfl rfl ?_
  refine oN ?_
  refine cC ?_
  refine r_cond rfl (fun h1 => ?_) (fun h1 => ?_) <;> (try simp only [decide_eq_true_eq, decide_eq_false_iff_not, Bool.and_eq_true, Bool.or_eq_true, Bool.not_eq_true', Bool.and_eq_false_iff, Bool.or_eq_false_iff, Bool.not_eq_false', Bool.not_eq_true, Bool.not_eq_false, Bool.true_eq_false, Bool.false_eq_true, Int.not_lt, Int.not_le, not_and, not_or, ne_eq] at h1)
  · rw [show nextR b = ([], 0, 20) from if_pos (by omega)]
    refine rS ?_
    refine rR (id := 2) ?_
    refine oG (gA (evv rfl)) rfl rfl ?_
    refine oG (gA (evv rfl)) rfl rfl ?_
    refine oG (gA (evv rfl)) rfl rfl ?_
    refine oN ?_
    refine cC ?_
    first | refine r_ret (rs := [.tmp 2, .tmp 3, .tmp 4]) rfl rfl _ ((Ent.nilM by8 5)) ?_ | refine c_end (rs := [.tmp 2, .tmp 3, .tmp 4]) rfl rfl _ ((Ent.nilM by8 5)) ?_
    exact ⟨_, rfl, rfl⟩
  · have g1 : ¬ b.length < 4 := by omega
    have hb4 : 4 ≤ b.length := by omega
    refine r_skip ?_
    refine cC ?_
    refine rS ?_
    refine rR (id := 3) ?_
    refine oG (gA (evv rfl)) rfl rfl ?_
    refine oN ?_
    refine cC ?_
    refine rS ?_
    refine rS ?_
    refine rR (id := 4) ?_
    refine oG (gA (evv rfl)) rfl rfl ?_
    refine oN ?_
    refine cC ?_
    refine r_block ?_
    refine r_loopE (σ := Nat) (fun j => j ≤ 4) (fun j => j) (fun j => [(5, .v (.int .i64 (hiB b j : Int))), (6, .v (.int .i64 ((j : Int) - 1)))]) [0] (fun j => L) 4 (by dsimp only [pickE, pick1, lk2, Nat.reduceBEq, Nat.reduceAdd, Nat.zero_add, cond_true, cond_false] <;> exact rfl) ?_ (by repeat (first | exact trivial | refine ⟨rfl, ?_⟩ | refine envsub_v rfl (by first | rfl | (refine int_eq ?_; first | omega | (simp; omega) | (simp; done)) | (refine bool_eq ?_; first | (simp [*]; done) | (simp; done)) | (refine str_eq ?_; simp; done) | (refine ptr_eq ?_; omega) | fail) ?_)) ?_ ?_
    · exact Nat.le_refl _
    · exact Ent.refl _
    rintro j hj; (try dsimp only at hj); dsimp only [List.cons_append, List.nil_append]
    have hjl := hiB_le b j
    refine rS ?_
    refine rS ?_
    refine rR (id := 5) ?_
    refine oG (gM (evv rfl)) rfl rfl ?_
    refine oG (g_bin (evv rfl) (evv rfl) (by rfl)) rfl rfl ?_
    refine oN ?_
    refine cC ?_
    refine r_cond rfl (fun hc => ?_) (fun hc => ?_) <;> (try simp only [decide_eq_true_eq, decide_eq_false_iff_not, Bool.and_eq_true, Bool.or_eq_true, Bool.not_eq_true', Bool.and_eq_false_iff, Bool.or_eq_false_iff, Bool.not_eq_false', Bool.not_eq_true, Bool.not_eq_false, Bool.true_eq_false, Bool.false_eq_true, Int.not_lt, Int.not_le, not_and, not_or, ne_eq] at hc)
    · have hst := hiB_step b (j := j - 1) (by omega)
      rw [show j - 1 + 1 = j by omega] at hst
      have hj2 : ((j : Int) - 1).toNat = j - 1 := by omega
      have hc8 := (b.getD ((j : Int) - 1).toNat default).toNat_lt
      refine r_skip ?_
      refine cC ?_
      refine rS ?_
      refine r_block ?_
      refine rR (id := 7) ?_
      refine oG (gM (evv rfl)) rfl rfl ?_
      refine o_giveN (g_bin (evv rfl) (evv rfl) (by rfl)) (by simp only [inR]; omega) rfl ?_
      refine oG (gM (evv rfl)) rfl rfl ?_
      refine oG (gM (evv rfl)) rfl rfl ?_
      refine oG (g_idxM (evv rfl) (evv rfl) (by rfl) (by omega) (by first | omega | (have := of_decide_eq_true hg; omega) | (simp at hg; omega) | (simp only [List.length_set, List.length_append, List.length_cons, List.length_nil, List.length_map, List.length_take, List.length_drop, List.length_replicate]; omega))) rfl rfl ?_
      refine oG (g_loadM (evv rfl) (by rfl) (by first | omega | (have := of_decide_eq_true hg; omega) | (simp at hg; omega) | (simp only [List.length_set, List.length_append, List.length_cons, List.length_nil, List.length_map, List.length_take, List.length_drop, List.length_replicate]; omega))) rfl rfl ?_
      refine o_giveN (g_conv TyU.h TyU.h (evv rfl)) (by simp only [inR]; omega) rfl ?_
      refine o_giveN (g_bin (evv rfl) (evv rfl) (by rfl)) (by simp only [inR]; omega) rfl ?_
      refine oG (gA (evv rfl)) rfl rfl ?_
      refine oN ?_
      refine c_blk ?_
      refine cC ?_
      refine rR (id := 6) ?_
      refine oG (gM (evv rfl)) rfl rfl ?_
      refine o_giveN (g_bin (evv rfl) (evv rfl) (by rfl)) (by simp only [inR]; omega) rfl ?_
      refine oG (gA (evv rfl)) rfl rfl ?_
      refine oN ?_
      have e3 : (hiB b j : Int) * 256 + ((b.getD ((j : Int) - 1).toNat default).toNat : Int) = ((hiB b (j - 1) : Nat) : Int) := by
        rw [hj2]; omega
      rw [e3]
      refine c_loop (j - 1) ?_ ?_ (by repeat (first | exact trivial | refine ⟨rfl, ?_⟩ | refine envsub_v rfl (by first | rfl | (refine int_eq ?_; first | omega | (simp; omega) | (simp; done)) | (refine bool_eq ?_; first | (simp [*]; done) | (simp; done)) | (refine str_eq ?_; simp; done) | (refine ptr_eq ?_; omega) | fail) ?_)) ?_ <;> (try dsimp only)
      · omega
      · omega
      · exact Ent.refl _
    · have e0 : j = 0 := by omega
      subst e0
      rw [show hiB b 0 = unfourB b by simp only [hiB]] at *
      refine r_exit rfl ?_
      refine cC ?_
      refine rS ?_
      refine rS ?_
      refine rR (id := 8) ?_
      refine oG (gM (evv rfl)) rfl rfl ?_
      refine oG (g_bin (evv rfl) (evv rfl) (by rfl)) rfl rfl ?_
      refine oN ?_
      refine cC ?_
      refine r_cond rfl (fun h2 => ?_) (fun h2 => ?_) <;> (try simp only [decide_eq_true_eq, decide_eq_false_iff_not, Bool.and_eq_true, Bool.or_eq_true, Bool.not_eq_true', Bool.and_eq_false_iff, Bool.or_eq_false_iff, Bool.not_eq_false', Bool.not_eq_true, Bool.not_eq_false, Bool.true_eq_false, Bool.false_eq_true, Int.not_lt, Int.not_le, not_and, not_or, ne_eq] at h2)
      · rw [show nextR b = ([], 0, 2) from (if_neg g1).trans (if_pos (by omega))]
        refine rS ?_
        refine rR (id := 9) ?_
        refine oG (gA (evv rfl)) rfl rfl ?_
        refine oG (gA (evv rfl)) rfl rfl ?_
        refine oG (gA (evv rfl)) rfl rfl ?_
        refine oN ?_
        refine cC ?_
        first | refine r_ret (rs := [.tmp 2, .tmp 3, .tmp 4]) rfl rfl _ ((Ent.nilM by8 5)) ?_ | refine c_end (rs := [.tmp 2, .tmp 3, .tmp 4]) rfl rfl _ ((Ent.nilM by8 5)) ?_
        exact ⟨_, rfl, rfl⟩
      · have g2 : ¬ 262144 < unfourB b := by omega
        refine r_skip ?_
        refine cC ?_
        refine rS ?_
        refine rS ?_
        refine rR (id := 10) ?_
        refine oG (gM (evv rfl)) rfl rfl ?_
        refine oG (g_lenM (evv rfl)) rfl rfl ?_
        refine oG (gM (evv rfl)) rfl rfl ?_
        refine o_giveN (g_bin (evv rfl) (evv rfl) (by rfl)) (by simp only [inR]; omega) rfl ?_
        refine oG (g_bin (evv rfl) (evv rfl) (by rfl)) rfl rfl ?_
        refine oN ?_
        refine cC ?_
        refine r_cond rfl (fun h3 => ?_) (fun h3 => ?_) <;> (try simp only [decide_eq_true_eq, decide_eq_false_iff_not, Bool.and_eq_true, Bool.or_eq_true, Bool.not_eq_true', Bool.and_eq_false_iff, Bool.or_eq_false_iff, Bool.not_eq_false', Bool.not_eq_true, Bool.not_eq_false, Bool.true_eq_false, Bool.false_eq_true, Int.not_lt, Int.not_le, not_and, not_or, ne_eq] at h3)
        · rw [show nextR b = ([], 0, 20) from (if_neg g1).trans ((if_neg g2).trans (if_pos (by omega)))]
          refine rS ?_
          refine rR (id := 11) ?_
          refine oG (gA (evv rfl)) rfl rfl ?_
          refine oG (gA (evv rfl)) rfl rfl ?_
          refine oG (gA (evv rfl)) rfl rfl ?_
          refine oN ?_
          refine cC ?_
          first | refine r_ret (rs := [.tmp 2, .tmp 3, .tmp 4]) rfl rfl _ ((Ent.nilM by8 5)) ?_ | refine c_end (rs := [.tmp 2, .tmp 3, .tmp 4]) rfl rfl _ ((Ent.nilM by8 5)) ?_
          exact ⟨_, rfl, rfl⟩
        · have g3 : ¬ b.length < unfourB b + 8 := by omega
          have e4 : (unfourB b : Int) + 4 = ((unfourB b + 4 : Nat) : Int) := by omega
          have N1 : crc (b.take (unfourB b + 4)) ≠ unfourB (b.drop (unfourB b + 4)) → nextR b = ([], 0, 22) := fun h => (if_neg g1).trans ((if_neg g2).trans ((if_neg g3).trans (if_pos h)))
          have N2 : crc (b.take (unfourB b + 4)) = unfourB (b.drop (unfourB b + 4)) → nextR b = ((b.drop 4).take (unfourB b), unfourB b + 8, 0) := fun h => (if_neg g1).trans ((if_neg g2).trans ((if_neg g3).trans (if_neg (fun k => k h))))
          have q1 : ((unfourB b : Int) + 4).toNat = unfourB b + 4 := by omega
          generalize unfourB b = ub at *
          refine r_skip ?_
          refine cC ?_
          refine rS ?_
          refine rR (id := 12) ?_
          refine oG (gM (evv rfl)) rfl rfl ?_
          refine oG (gM (evv rfl)) rfl rfl ?_
          refine o_giveN (g_bin (evv rfl) (evv rfl) (by rfl)) (by simp only [inR]; omega) rfl ?_
          refine oG (g_subM (evv rfl) _ _ bnd_none (bnd_some (evv rfl) rfl) (by rfl) (by omega) (by first | omega | (simp only [List.length_append, List.length_cons, List.length_nil, List.length_set, List.length_map]; omega))) rfl rfl ?_
          (refine o_call rfl _ (Ent.refl _) (rCheck_c _ _ _) rfl ?_; rintro _ _ ⟨rfl, hLz⟩; obtain rfl := hLz.symm; clear hLz)
          (refine o_call rfl _ (Ent.refl _) (rFour_c _ _ (by first | assumption | exact crc_lt _ | omega)) rfl ?_; rintro fv _ rfl)
          refine oG (gA (evv rfl)) rfl rfl ?_
          refine oN ?_
          refine cC ?_
          refine rS ?_
          refine rS ?_
          refine rR (id := 13) ?_
          refine oG (gA (evv rfl)) rfl rfl ?_
          refine oN ?_
          refine cC ?_
          refine r_block ?_
          (try rw [q1]); rw [Nat.sub_zero, List.drop_zero]
          have hX := crc_lt (b.take (ub + 4))
          generalize crc (b.take (ub + 4)) = X at *
          have hfX : unfourB (fourB X) = X := by
            have := unfour_four hX []
            rwa [List.append_nil] at this
          have hfl : (fourB X).length = 4 := rfl
          refine r_loopE (σ := Nat) (fun j => j ≤ 4 ∧ ∀ i, i < j → (fourB X).getD i default = b.getD (ub + 4 + i) default) (fun j => 4 - j) (fun j => [(8, .v (.int .i64 j))]) [0, 5, 7] (fun j => sl fv (mrow by8 5 (fourB X)) :: L) 0 (by dsimp only [pickE, pick1, lk2, Nat.reduceBEq, Nat.reduceAdd, Nat.zero_add, cond_true, cond_false] <;> exact rfl) ?_ (by repeat (first | exact trivial | refine ⟨rfl, ?_⟩ | refine envsub_v rfl (by first | rfl | (refine int_eq ?_; first | omega | (simp; omega) | (simp; done)) | (refine bool_eq ?_; first | (simp [*]; done) | (simp; done)) | (refine str_eq ?_; simp; done) | (refine ptr_eq ?_; omega) | fail) ?_)) ?_ ?_
          · exact ⟨Nat.zero_le _, fun i h => absurd h (Nat.not_lt_zero _)⟩
          · exact Ent.refl _
          rintro j ⟨hj, hin⟩; dsimp only [List.cons_append, List.nil_append]
          refine rS ?_
          refine rS ?_
          refine rR (id := 14) ?_
          refine oG (gM (evv rfl)) rfl rfl ?_
          refine oG (g_bin (evv rfl) (evv rfl) (by rfl)) rfl rfl ?_
          refine oN ?_
          refine cC ?_
          refine r_cond rfl (fun hd => ?_) (fun hd => ?_) <;> (try simp only [decide_eq_true_eq, decide_eq_false_iff_not, Bool.and_eq_true, Bool.or_eq_true, Bool.not_eq_true', Bool.and_eq_false_iff, Bool.or_eq_false_iff, Bool.not_eq_false', Bool.not_eq_true, Bool.not_eq_false, Bool.true_eq_false, Bool.false_eq_true, Int.not_lt, Int.not_le, not_and, not_or, ne_eq] at hd)
          · have q2 : ((ub : Int) + 4 + (j : Int)).toNat = ub + 4 + j := by omega
            refine r_skip ?_
            refine cC ?_
            refine rS ?_
            refine r_block ?_
            refine rS ?_
            refine r_quiet (id := 16) Mixed.h (by kernel_rfl) ?_
            refine q_give (gM (evv rfl)) rfl rfl ?_
            refine q_give (gM (evv rfl)) rfl rfl ?_
            refine q_give (g_idxMN (evv rfl) (evv rfl) (by rfl) (by first | omega | (have := of_decide_eq_true hg; omega) | (simp at hg; omega) | (simp only [List.length_set, List.length_append, List.length_cons, List.length_nil, List.length_map, List.length_take, List.length_drop, List.length_replicate]; omega))) rfl rfl ?_
            refine q_give (g_loadM (evv rfl) (by rfl) (by first | omega | (have := of_decide_eq_true hg; omega) | (simp at hg; omega) | (simp only [List.length_set, List.length_append, List.length_cons, List.length_nil, List.length_map, List.length_take, List.length_drop, List.length_replicate]; omega))) rfl rfl ?_
            refine q_give (gM (evv rfl)) rfl rfl ?_
            refine q_give (gM (evv rfl)) rfl rfl ?_
            refine q_giveN (g_bin (evv rfl) (evv rfl) (by rfl)) (by simp only [inR]; omega) rfl ?_
            refine q_give (gM (evv rfl)) rfl rfl ?_
            refine q_giveN (g_bin (evv rfl) (evv rfl) (by rfl)) (by simp only [inR]; omega) rfl ?_
            refine q_give (g_idxMN (evv rfl) (evv rfl) (by rfl) (by first | omega | (have := of_decide_eq_true hg; omega) | (simp at hg; omega) | (simp only [List.length_set, List.length_append, List.length_cons, List.length_nil, List.length_map, List.length_take, List.length_drop, List.length_replicate]; omega))) rfl rfl ?_
            refine q_give (g_loadM (evv rfl) (by rfl) (by first | omega | (have := of_decide_eq_true hg; omega) | (simp at hg; omega) | (simp only [List.length_set, List.length_append, List.length_cons, List.length_nil, List.length_map, List.length_take, List.length_drop, List.length_replicate]; omega))) rfl rfl ?_
            refine q_give (g_bin (evv rfl) (evv rfl) (by rfl)) rfl rfl ?_
            refine q_nil ?_
            refine cC ?_
            refine r_cond rfl (fun hne => ?_) (fun hne => ?_) <;> (try simp only [decide_eq_true_eq, decide_eq_false_iff_not, Bool.and_eq_true, Bool.or_eq_true, Bool.not_eq_true', Bool.and_eq_false_iff, Bool.or_eq_false_iff, Bool.not_eq_false', Bool.not_eq_true, Bool.not_eq_false, Bool.true_eq_false, Bool.false_eq_true, Int.not_lt, Int.not_le, not_and, not_or, ne_eq] at hne)
            · have hx : X ≠ unfourB (b.drop (ub + 4)) := fun e => hne (by
                have := unfour_inj (hfX.trans e) (j := j) (by omega)
                rw [this, gdrop])
              rw [N1 hx]
              refine rS ?_
              refine rR (id := 17) ?_
              refine oG (gA (evv rfl)) rfl rfl ?_
              refine oG (gA (evv rfl)) rfl rfl ?_
              refine oG (gA (evv rfl)) rfl rfl ?_
              refine oN ?_
              refine cC ?_
              first | refine r_ret (rs := [.tmp 2, .tmp 3, .tmp 4]) rfl rfl _ ((Ent.drop.trans (Ent.nilM by8 5))) ?_ | refine c_end (rs := [.tmp 2, .tmp 3, .tmp 4]) rfl rfl _ ((Ent.drop.trans (Ent.nilM by8 5))) ?_
              exact ⟨_, rfl, rfl⟩
            · have hin2 : ∀ i, i < j + 1 → (fourB X).getD i default = b.getD (ub + 4 + i) default := fun i hi => by
                by_cases hij : i < j
                · exact hin i hij
                · obtain rfl : i = j := by omega
                  exact UInt8.toNat_inj.1 (by omega)
              refine r_skip ?_
              refine c_blk ?_
              refine cC ?_
              refine rR (id := 15) ?_
              refine oG (gM (evv rfl)) rfl rfl ?_
              refine o_giveN (g_bin (evv rfl) (evv rfl) (by rfl)) (by simp only [inR]; omega) rfl ?_
              refine oG (gA (evv rfl)) rfl rfl ?_
              refine oN ?_
              refine c_loop (j + 1) ?_ ?_ (by repeat (first | exact trivial | refine ⟨rfl, ?_⟩ | refine envsub_v rfl (by first | rfl | (refine int_eq ?_; first | omega | (simp; omega) | (simp; done)) | (refine bool_eq ?_; first | (simp [*]; done) | (simp; done)) | (refine str_eq ?_; simp; done) | (refine ptr_eq ?_; omega) | fail) ?_)) ?_ <;> (try dsimp only)
              · exact ⟨by omega, hin2⟩
              · omega
              · exact Ent.refl _
          · obtain rfl : j = 4 := by omega
            have hx : X = unfourB (b.drop (ub + 4)) := by
              rw [← hfX]
              unfold unfourB
              rw [hin 0 (by decide), hin 1 (by decide), hin 2 (by decide), hin 3 (by decide), gdrop, gdrop, gdrop, gdrop]
            rw [N2 hx]
            have h7 := List.length_take_le (ub + 4 - 4) (List.drop 4 b)
            refine r_exit rfl ?_
            refine cC ?_
            refine rS ?_
            refine rR (id := 18) ?_
            refine o_lit0 by8 (by rfl) rfl (fun _ => ?_)
            refine oG (gM (evv rfl)) rfl rfl ?_
            refine oG (gM (evv rfl)) rfl rfl ?_
            refine o_giveN (g_bin (evv rfl) (evv rfl) (by rfl)) (by simp only [inR]; omega) rfl ?_
            refine oG (g_subM (evv rfl) _ _ (bnd_some (evv rfl) rfl) (bnd_some (evv rfl) rfl) (by rfl) (by omega) (by first | omega | (simp only [List.length_append, List.length_cons, List.length_nil, List.length_set, List.length_map]; omega))) rfl rfl ?_
            refine o_appM (evv rfl) (evv rfl) (by rfl) (by rfl) (by rfl) (by (try simp only [bsOf, List.length_append, List.length_cons, List.length_nil, List.length_take, List.length_drop, List.length_map, List.length_range]); omega) rfl (fun _ => ?_)
            refine oG (gM (evv rfl)) rfl rfl ?_
            refine o_giveN (g_bin (evv rfl) (evv rfl) (by rfl)) (by simp only [inR]; omega) rfl ?_
            refine oG (gA (evv rfl)) rfl rfl ?_
            refine oG (gA (evv rfl)) rfl rfl ?_
            refine oG (gA (evv rfl)) rfl rfl ?_
            refine oN ?_
            refine cC ?_
            rename_i f
            first | refine r_ret (rs := [.tmp 2, .tmp 3, .tmp 4]) rfl rfl _ ((Lay.ent (L' := sl f (mrow by8 5 ([] ++ List.take (ub + 4 - 4) (List.drop 4 b))) :: L))) ?_ | refine c_end (rs := [.tmp 2, .tmp 3, .tmp 4]) rfl rfl _ ((Lay.ent (L' := sl f (mrow by8 5 ([] ++ List.take (ub + 4 - 4) (List.drop 4 b))) :: L))) ?_
            refine ⟨f, rfl, ?_⟩
            refine congrArg (fun z => sl f (mrow by8 5 z) :: L) ?_
            rw [Nat.add_sub_cancel, List.nil_append]
end VK

namespace VK
open Go Go.Proofs
set_option linter.unusedSimpArgs false
set_option linter.unusedVariables false
set_option maxRecDepth 100000
set_option maxHeartbeats 40000000
end VK

namespace VK
open Go Go.Proofs
set_option linter.unusedSimpArgs false
set_option linter.unusedVariables false
set_option maxRecDepth 100000
set_option maxHeartbeats 40000000
theorem next_frame {p r : List UInt8} (hp : p.length ≤ 262144) : nextR (frameB p ++ r) = (p, p.length + 8, 0) := by
  have hl := frame_len p
  have e4 : (fourB p.length).length = 4 := rfl
  have el : (fourB p.length ++ p).length = p.length + 4 := by rw [List.length_append, e4]; omega
  have hf : unfourB (frameB p ++ r) = p.length := by rw [frameB, List.append_assoc, List.append_assoc]; exact unfour_four (by omega) _
  have ht : (frameB p ++ r).take (p.length + 4) = fourB p.length ++ p := by rw [frameB, List.append_assoc, ← el, List.take_left]
  have hd : (frameB p ++ r).drop (p.length + 4) = fourB (crc (fourB p.length ++ p)) ++ r := by rw [frameB, List.append_assoc, ← el, List.drop_left]
  have h4 : (frameB p ++ r).drop 4 = p ++ (fourB (crc (fourB p.length ++ p)) ++ r) := by rw [frameB, List.append_assoc, List.append_assoc, ← e4, List.drop_left]
  have hlen : (frameB p ++ r).length = p.length + 8 + r.length := by rw [List.length_append, hl]
  unfold nextR
  rw [hf, ht, hd, h4, unfour_four (crc_lt _), List.take_left, if_neg (by omega), if_neg (by omega), if_neg (by omega), if_neg (fun h => h rfl)]
def scanF : Nat → List UInt8 → List (List UInt8) × Nat
  | 0, _ => ([], 0)
  | k + 1, b => if (nextR b).2.2 ≠ 0 then ([], 0) else ((nextR b).1 :: (scanF k (b.drop (nextR b).2.1)).1, (nextR b).2.1 + (scanF k (b.drop (nextR b).2.1)).2)
end VK

namespace VK
open Go Go.Proofs
set_option linter.unusedSimpArgs false
set_option linter.unusedVariables false
set_option maxRecDepth 100000
set_option maxHeartbeats 40000000
theorem next_len {b : List UInt8} (h : (nextR b).2.2 = 0) : 8 ≤ (nextR b).2.1 ∧ (nextR b).2.1 ≤ b.length ∧ (nextR b).1.length + 8 = (nextR b).2.1 := by
  unfold nextR at h ⊢
  split
  · rename_i g; rw [if_pos g] at h; exact absurd h (by decide)
  · rename_i g1
    rw [if_neg g1] at h
    split
    · rename_i g; rw [if_pos g] at h; exact absurd h (by decide)
    · rename_i g2
      rw [if_neg g2] at h
      split
      · rename_i g; rw [if_pos g] at h; exact absurd h (by decide)
      · rename_i g3
        rw [if_neg g3] at h
        split
        · rename_i g; rw [if_pos g] at h; exact absurd h (by decide)
        · dsimp only
          refine ⟨by omega, by omega, ?_⟩
          rw [List.length_take, List.length_drop]
          omega
theorem scanF_fuel : ∀ {k m : Nat} {b : List UInt8}, b.length < k → b.length < m → scanF k b = scanF m b
  | 0, _, b, h, _ => absurd h (Nat.not_lt_zero _)
  | _ + 1, 0, b, _, h => absurd h (Nat.not_lt_zero _)
  | k + 1, m + 1, b, h1, h2 => by
    unfold scanF
    split
    · rfl
    · rename_i g
      have g := Decidable.of_not_not g
      have hl := next_len g
      have : (b.drop (nextR b).2.1).length < b.length := by rw [List.length_drop]; omega
      rw [scanF_fuel (k := k) (m := m) (by omega) (by omega)]
def scanR (b : List UInt8) : List (List UInt8) × Nat := scanF (b.length + 1) b
theorem scan_stop {b : List UInt8} (h : (nextR b).2.2 ≠ 0) : scanR b = ([], 0) := by
  unfold scanR scanF
  rw [if_pos h]
theorem scan_go {b : List UInt8} (h : (nextR b).2.2 = 0) : scanR b = ((nextR b).1 :: (scanR (b.drop (nextR b).2.1)).1, (nextR b).2.1 + (scanR (b.drop (nextR b).2.1)).2) := by
  have hl := next_len h
  have e : scanF b.length (b.drop (nextR b).2.1) = scanR (b.drop (nextR b).2.1) := scanF_fuel (by rw [List.length_drop]; omega) (by omega)
  rw [← e]
  unfold scanR
  rw [scanF, if_neg (fun k => k h)]
def scI (b : List UInt8) (j : Nat) (rows : List (Value × List UInt8)) : Prop :=
  j ≤ b.length ∧ rows.length ≤ j ∧ rows.map (·.2) ++ (scanR (b.drop j)).1 = (scanR b).1 ∧ j + (scanR (b.drop j)).2 = (scanR b).2
theorem scI.step {b : List UInt8} {j : Nat} {rows : List (Value × List UInt8)} (h : scI b j rows) (h0 : (nextR (b.drop j)).2.2 = 0) (v : Value) :
    scI b (j + (nextR (b.drop j)).2.1) (rows ++ [(v, (nextR (b.drop j)).1)]) := by
  obtain ⟨h1, h2, h3, h4⟩ := h
  have hl := next_len h0
  have hg := scan_go h0
  rw [List.length_drop] at hl
  rw [List.drop_drop] at hg
  refine ⟨by omega, by rw [List.length_append, List.length_singleton]; omega, ?_, ?_⟩
  · rw [← h3, hg]; simp
  · rw [← h4, hg]; dsimp only; omega
theorem scI.stop {b : List UInt8} {j : Nat} {rows : List (Value × List UInt8)} (h : scI b j rows) (h0 : (nextR (b.drop j)).2.2 ≠ 0) :
    rows.map (·.2) = (scanR b).1 ∧ j = (scanR b).2 := by
  obtain ⟨h1, h2, h3, h4⟩ := h
  rw [scan_stop h0] at h3 h4
  exact ⟨by simpa using h3, by simpa using h4⟩
def pcR (l : List (Value × List UInt8)) : List (Value × Row) := l.map fun p => (p.1, mrow by8 5 p.2)
theorem romMore {v : Value} {p : List UInt8} {l : List (Value × List UInt8)} {L : List Atom} : Ent (sl v (mrow by8 5 p) :: rom (pcR l) :: L) (rom (pcR (l ++ [(v, p)])) :: L) :=
  Ent.romIn.trans (Ent.romSub (fun h q => by
    unfold rom at *
    intro x hx
    simp only [pcR, List.map_append, List.map_cons, List.map_nil, List.mem_append, List.mem_singleton] at hx
    rcases hx with hx | rfl
    · exact q x (List.mem_cons_of_mem _ hx)
    · exact q _ (List.mem_cons_self ..)))
theorem pcR_in {l : List (Value × List UInt8)} {p : Value × List UInt8} (hp : p ∈ l) : InR (pcR l) p.1 (mrow by8 5 p.2) := ⟨fun h q => by
  unfold rom at q
  exact q (p.1, mrow by8 5 p.2) (List.mem_map.2 ⟨p, hp, rfl⟩)⟩
theorem Scan_c (L : List Atom) (v : Value) (b : List UInt8) (hb : b.length ≤ 1000000000) [rd : Rd L v (mrow by8 5 b)] :
    Fn Try.prog 33 [v] L fun w L' => ∃ o rows, w = .tuple #[o, .int .i64 ((scanR b).2 : Int)] ∧ rows.map (·.2) = (scanR b).1 ∧ L' = sl o (mrow pcV 52 rows) :: rom (pcR rows) :: L := by
  refine fn_intro Try.func33 rfl Try.ntmps33 rfl (fun W0 => ?_)
  simp only [argE]
  refine rS ?_
  refine rR (id := 0) ?_
  refine oG (gA (evv rfl)) rfl rfl ?_
  refine oG (gA (evv rfl)) rfl rfl ?_
  refine oN ?_
  refine cC ?_
  refine rS ?_
  refine rR (id := 1) ?_
  refine oG (gA (evv rfl)) rfl rfl ?_
  refine oN ?_
  refine cC ?_
  refine rS ?_
  refine rR (id := 2) ?_
  refine oG (gA (evv rfl)) rfl rfl ?_
  refine oN ?_
  refine cC ?_
  refine r_block ?_
  refine r_loopE (σ := Nat × Value × List (Value × List UInt8)) (fun ⟨j, o, rows⟩ => scI b j rows) (fun ⟨j, o, rows⟩ => b.length - j) (fun ⟨j, o, rows⟩ => [(4, .v (o)), (5, .v (.int .i64 j))]) [0] (fun ⟨j, o, rows⟩ => sl o (mrow pcV 52 rows) :: rom (pcR rows) :: L) (0, .slice none 0 0, []) (by dsimp only [pickE, pick1, lk2, Nat.reduceBEq, Nat.reduceAdd, Nat.zero_add, cond_true, cond_false] <;> exact rfl) ?_ (by repeat (first | exact trivial | refine ⟨rfl, ?_⟩ | refine envsub_v rfl (by first | rfl | (refine int_eq ?_; first | omega | (simp; omega) | (simp; done)) | (refine bool_eq ?_; first | (simp [*]; done) | (simp; done)) | (refine str_eq ?_; simp; done) | (refine ptr_eq ?_; omega) | fail) ?_)) ?_ ?_
  · exact ⟨Nat.zero_le _, Nat.le_refl _, rfl, Nat.zero_add _⟩
  · exact Ent.romNil.trans (Ent.nilM pcV 52)
  rintro ⟨j, o, rows⟩ hI; (try dsimp only at hI); dsimp only [List.cons_append, List.nil_append]
  have hj : j ≤ b.length := hI.1
  have hrl : rows.length ≤ j := hI.2.1
  have hdl : (List.take (b.length - j) (b.drop j)).length ≤ 140737488355000 := by rw [List.length_take]; omega
  have et : List.take (b.length - j) (b.drop j) = b.drop j := List.take_of_length_le (by rw [List.length_drop]; omega)
  refine r_block ?_
  refine rS ?_
  refine rR (id := 3) ?_
  refine oG (gM (evv rfl)) rfl rfl ?_
  refine oG (gM (evv rfl)) rfl rfl ?_
  refine oG (g_subM (evv rfl) _ _ (bnd_some (evv rfl) rfl) bnd_none (by rfl) (by omega) (by first | omega | (simp only [List.length_append, List.length_cons, List.length_nil, List.length_set, List.length_map]; omega))) rfl rfl ?_
  (refine o_call rfl _ (Ent.refl _) (Next_c _ _ _ (by first | assumption | omega)) rfl ?_; rintro _ _ ⟨nf, rfl, rfl⟩)
  refine oG (gM (evv rfl)) rfl rfl ?_
  refine oG (g_extract (evv rfl) (by rfl)) rfl rfl ?_
  refine oG (g_extract (evv rfl) (by rfl)) rfl rfl ?_
  refine oG (g_extract (evv rfl) (by rfl)) rfl rfl ?_
  refine oG (gA (evv rfl)) rfl rfl ?_
  refine oG (gA (evv rfl)) rfl rfl ?_
  refine oG (gA (evv rfl)) rfl rfl ?_
  refine oN ?_
  refine cC ?_
  refine rS ?_
  refine rS ?_
  rw [et]
  refine rR (id := 4) ?_
  refine oG (gM (evv rfl)) rfl rfl ?_
  refine oG (g_bin (evv rfl) (evv rfl) (by rfl)) rfl rfl ?_
  refine oN ?_
  refine cC ?_
  refine r_cond rfl (fun hz => ?_) (fun hz => ?_) <;> (try simp only [decide_eq_true_eq, decide_eq_false_iff_not, Bool.and_eq_true, Bool.or_eq_true, Bool.not_eq_true', Bool.and_eq_false_iff, Bool.or_eq_false_iff, Bool.not_eq_false', Bool.not_eq_true, Bool.not_eq_false, Bool.true_eq_false, Bool.false_eq_true, Int.not_lt, Int.not_le, not_and, not_or, ne_eq] at hz)
  · have hf := hI.stop hz
    refine rS ?_
    refine rR (id := 5) ?_
    refine oG (gM (evv rfl)) rfl rfl ?_
    refine oG (gM (evv rfl)) rfl rfl ?_
    refine oG (gA (evv rfl)) rfl rfl ?_
    refine oG (gA (evv rfl)) rfl rfl ?_
    refine oN ?_
    refine cC ?_
    rw [hf.2]
    first | refine r_ret (rs := [.tmp 2, .tmp 3]) rfl rfl _ (Ent.drop) ?_ | refine c_end (rs := [.tmp 2, .tmp 3]) rfl rfl _ (Ent.drop) ?_
    exact ⟨_, _, rfl, hf.1, rfl⟩
  · have hl := next_len hz
    rw [List.length_drop] at hl
    refine r_skip ?_
    refine cC ?_
    refine rR (id := 6) ?_
    refine oG (gM (evv rfl)) rfl rfl ?_
    refine oG (gM (evv rfl)) rfl rfl ?_
    refine o_litV rfl rfl rfl (by rfl) rfl rfl (fun _ => ?_)
    rename_i lit
    refine o_appM (f := pcV) (m := [(nf, (nextR (b.drop j)).1)]) (e2 := 52) (evv rfl) (evv rfl) (rd := Rd.as (r := mrow id 52 [nf]) inferInstance rfl) (by rfl) (by rfl) (by rfl) (by simp only [List.length_singleton]; omega) rfl (fun o2 => ?_)
    refine oG (gM (evv rfl)) rfl rfl ?_
    refine oG (gM (evv rfl)) rfl rfl ?_
    refine o_giveN (g_bin (evv rfl) (evv rfl) (by rfl)) (by simp only [inR]; omega) rfl ?_
    refine oG (gA (evv rfl)) rfl rfl ?_
    refine oG (gA (evv rfl)) rfl rfl ?_
    refine oN ?_
    refine c_blk ?_
    skip
    refine c_loop (j + (nextR (b.drop j)).2.1, o2, rows ++ [(nf, (nextR (b.drop j)).1)]) ?_ ?_ (by repeat (first | exact trivial | refine ⟨rfl, ?_⟩ | refine envsub_v rfl (by first | rfl | (refine int_eq ?_; first | omega | (simp; omega) | (simp; done)) | (refine bool_eq ?_; first | (simp [*]; done) | (simp; done)) | (refine str_eq ?_; simp; done) | (refine ptr_eq ?_; omega) | fail) ?_)) ?_ <;> (try dsimp only)
    · exact hI.step hz nf
    · omega
    · exact Ent.drop.trans (Ent.swap.trans (Ent.cons romMore))
theorem rScan_c (L : List Atom) (v : Value) (b : List UInt8) (hb : b.length ≤ 1000000000) [rd : Rd L v (mrow by8 5 b)] :
    Fn Try.prog 58 [v] L fun w L' => ∃ o rows, w = .tuple #[o, .int .i64 ((scanR b).2 : Int)] ∧ rows.map (·.2) = (scanR b).1 ∧ L' = sl o (mrow pcV 52 rows) :: rom (pcR rows) :: L := by
  refine fn_intro Try.func58 rfl Try.ntmps58 rfl (fun W0 => ?_)
  simp only [argE]
  refine rS ?_
  refine rR (id := 0) ?_
  refine oG (gA (evv rfl)) rfl rfl ?_
  refine oG (gA (evv rfl)) rfl rfl ?_
  refine oN ?_
  refine cC ?_
  refine rS ?_
  refine rR (id := 1) ?_
  refine oG (gA (evv rfl)) rfl rfl ?_
  refine oN ?_
  refine cC ?_
  refine rS ?_
  refine rR (id := 2) ?_
  refine oG (gA (evv rfl)) rfl rfl ?_
  refine oN ?_
  refine cC ?_
  refine r_block ?_
  refine r_loopE (σ := Nat × Value × List (Value × List UInt8)) (fun ⟨j, o, rows⟩ => scI b j rows) (fun ⟨j, o, rows⟩ => b.length - j) (fun ⟨j, o, rows⟩ => [(4, .v (o)), (5, .v (.int .i64 j))]) [0] (fun ⟨j, o, rows⟩ => sl o (mrow pcV 52 rows) :: rom (pcR rows) :: L) (0, .slice none 0 0, []) (by dsimp only [pickE, pick1, lk2, Nat.reduceBEq, Nat.reduceAdd, Nat.zero_add, cond_true, cond_false] <;> exact rfl) ?_ (by repeat (first | exact trivial | refine ⟨rfl, ?_⟩ | refine envsub_v rfl (by first | rfl | (refine int_eq ?_; first | omega | (simp; omega) | (simp; done)) | (refine bool_eq ?_; first | (simp [*]; done) | (simp; done)) | (refine str_eq ?_; simp; done) | (refine ptr_eq ?_; omega) | fail) ?_)) ?_ ?_
  · exact ⟨Nat.zero_le _, Nat.le_refl _, rfl, Nat.zero_add _⟩
  · exact Ent.romNil.trans (Ent.nilM pcV 52)
  rintro ⟨j, o, rows⟩ hI; (try dsimp only at hI); dsimp only [List.cons_append, List.nil_append]
  have hj : j ≤ b.length := hI.1
  have hrl : rows.length ≤ j := hI.2.1
  have hdl : (List.take (b.length - j) (b.drop j)).length ≤ 140737488355000 := by rw [List.length_take]; omega
  have et : List.take (b.length - j) (b.drop j) = b.drop j := List.take_of_length_le (by rw [List.length_drop]; omega)
  refine r_block ?_
  refine rS ?_
  refine rR (id := 3) ?_
  refine oG (gM (evv rfl)) rfl rfl ?_
  refine oG (gM (evv rfl)) rfl rfl ?_
  refine oG (g_subM (evv rfl) _ _ (bnd_some (evv rfl) rfl) bnd_none (by rfl) (by omega) (by first | omega | (simp only [List.length_append, List.length_cons, List.length_nil, List.length_set, List.length_map]; omega))) rfl rfl ?_
  (refine o_call rfl _ (Ent.refl _) (rNext_c _ _ _ (by first | assumption | omega)) rfl ?_; rintro _ _ ⟨nf, rfl, rfl⟩)
  refine oG (gM (evv rfl)) rfl rfl ?_
  refine oG (g_extract (evv rfl) (by rfl)) rfl rfl ?_
  refine oG (g_extract (evv rfl) (by rfl)) rfl rfl ?_
  refine oG (g_extract (evv rfl) (by rfl)) rfl rfl ?_
  refine oG (gA (evv rfl)) rfl rfl ?_
  refine oG (gA (evv rfl)) rfl rfl ?_
  refine oG (gA (evv rfl)) rfl rfl ?_
  refine oN ?_
  refine cC ?_
  refine rS ?_
  refine rS ?_
  rw [et]
  refine rR (id := 4) ?_
  refine oG (gM (evv rfl)) rfl rfl ?_
  refine oG (g_bin (evv rfl) (evv rfl) (by rfl)) rfl rfl ?_
  refine oN ?_
  refine cC ?_
  refine r_cond rfl (fun hz => ?_) (fun hz => ?_) <;> (try simp only [decide_eq_true_eq, decide_eq_false_iff_not, Bool.and_eq_true, Bool.or_eq_true, Bool.not_eq_true', Bool.and_eq_false_iff, Bool.or_eq_false_iff, Bool.not_eq_false', Bool.not_eq_true, Bool.not_eq_false, Bool.true_eq_false, Bool.false_eq_true, Int.not_lt, Int.not_le, not_and, not_or, ne_eq] at hz)
  · have hf := hI.stop hz
    refine rS ?_
    refine rR (id := 5) ?_
    refine oG (gM (evv rfl)) rfl rfl ?_
    refine oG (gM (evv rfl)) rfl rfl ?_
    refine oG (gA (evv rfl)) rfl rfl ?_
    refine oG (gA (evv rfl)) rfl rfl ?_
    refine oN ?_
    refine cC ?_
    rw [hf.2]
    first | refine r_ret (rs := [.tmp 2, .tmp 3]) rfl rfl _ (Ent.drop) ?_ | refine c_end (rs := [.tmp 2, .tmp 3]) rfl rfl _ (Ent.drop) ?_
    exact ⟨_, _, rfl, hf.1, rfl⟩
  · have hl := next_len hz
    rw [List.length_drop] at hl
    refine r_skip ?_
    refine cC ?_
    refine rS ?_
    refine rR (id := 6) ?_
    refine oG (gM (evv rfl)) rfl rfl ?_
    refine oG (gM (evv rfl)) rfl rfl ?_
    refine o_litV rfl rfl rfl (by rfl) rfl rfl (fun _ => ?_)
    rename_i lit
    refine o_appM (f := pcV) (m := [(nf, (nextR (b.drop j)).1)]) (e2 := 52) (evv rfl) (evv rfl) (rd := Rd.as (r := mrow id 52 [nf]) inferInstance rfl) (by rfl) (by rfl) (by rfl) (by simp only [List.length_singleton]; omega) rfl (fun o2 => ?_)
    refine oG (gA (evv rfl)) rfl rfl ?_
    refine oN ?_
    refine cC ?_
    refine rR (id := 7) ?_
    refine oG (gM (evv rfl)) rfl rfl ?_
    refine oG (gM (evv rfl)) rfl rfl ?_
    refine o_giveN (g_bin (evv rfl) (evv rfl) (by rfl)) (by simp only [inR]; omega) rfl ?_
    refine oG (gA (evv rfl)) rfl rfl ?_
    refine oN ?_
    refine c_blk ?_
    refine c_loop (j + (nextR (b.drop j)).2.1, o2, rows ++ [(nf, (nextR (b.drop j)).1)]) ?_ ?_ (by repeat (first | exact trivial | refine ⟨rfl, ?_⟩ | refine envsub_v rfl (by first | rfl | (refine int_eq ?_; first | omega | (simp; omega) | (simp; done)) | (refine bool_eq ?_; first | (simp [*]; done) | (simp; done)) | (refine str_eq ?_; simp; done) | (refine ptr_eq ?_; omega) | fail) ?_)) ?_ <;> (try dsimp only)
    · exact hI.step hz nf
    · omega
    · exact Ent.drop.trans (Ent.swap.trans (Ent.cons romMore))
end VK

namespace VK
open Go Go.Proofs
set_option linter.unusedSimpArgs false
set_option linter.unusedVariables false
set_option maxRecDepth 100000
set_option maxHeartbeats 40000000
def fr (ps : List (List UInt8)) : List UInt8 := ps.flatMap frameB
theorem fr_cons (p : List UInt8) (ps : List (List UInt8)) : fr (p :: ps) = frameB p ++ fr ps := rfl
theorem next_cut {p r : List UInt8} {k : Nat} (hp : p.length ≤ 262144) (hk : k < p.length + 8) : (nextR ((frameB p ++ r).take k)).2.2 ≠ 0 := by
  have hl := frame_len p
  have hlen : ((frameB p ++ r).take k).length = k := by rw [List.length_take, List.length_append, hl]; omega
  unfold nextR
  by_cases h4 : k < 4
  · rw [if_pos (by omega)]; exact (by decide)
  · have hf : unfourB ((frameB p ++ r).take k) = p.length := by
      have e4 : (fourB p.length).length = 4 := rfl
      obtain ⟨m, rfl⟩ : ∃ m, k = 4 + m := ⟨k - 4, by omega⟩
      rw [frameB, List.append_assoc, List.append_assoc, ← e4, List.take_length_add_append]
      exact unfour_four (by omega) _
    rw [hf, hlen, if_neg (by omega), if_neg (by omega), if_pos (by omega)]
    exact (by decide)
theorem next_nil : (nextR []).2.2 ≠ 0 := by decide
def torn : List (List UInt8) → Nat → Nat
  | [], _ => 0
  | p :: ps, k => if p.length + 8 ≤ k then torn ps (k - (p.length + 8)) + 1 else 0
theorem torn_le : ∀ (ps : List (List UInt8)) (k : Nat), torn ps k ≤ ps.length
  | [], _ => Nat.le_refl _
  | p :: ps, k => by
    have := torn_le ps (k - (p.length + 8))
    unfold torn
    split <;> simp only [List.length_cons] <;> omega
theorem scan_torn : ∀ {ps : List (List UInt8)} {k : Nat}, (∀ p ∈ ps, p.length ≤ 262144) → scanR ((fr ps).take k) = (ps.take (torn ps k), (fr (ps.take (torn ps k))).length)
  | [], k, _ => by
    rw [show (fr []).take k = [] from List.take_nil, scan_stop next_nil]
    rfl
  | p :: ps, k, h => by
    have hp := h p (List.mem_cons_self ..)
    have hl := frame_len p
    rw [fr_cons]
    unfold torn
    split
    · rename_i hk
      obtain ⟨m, rfl⟩ : ∃ m, k = (frameB p).length + m := ⟨k - (p.length + 8), by omega⟩
      rw [List.take_length_add_append]
      have hn := next_frame (p := p) (r := (fr ps).take m) hp
      have := scan_go (b := frameB p ++ (fr ps).take m) (by rw [hn])
      rw [this, hn]
      dsimp only
      rw [← hl, List.drop_left, scan_torn (fun q hq => h q (List.mem_cons_of_mem _ hq)), Nat.add_sub_cancel_left, List.take_succ_cons, fr_cons, List.length_append]
    · rename_i hk
      rw [scan_stop (next_cut hp (by omega))]
      rfl
theorem torn_iff : ∀ {ps : List (List UInt8)} {k n : Nat}, n < ps.length → ((fr (ps.take (n + 1))).length ≤ k ↔ n < torn ps k)
  | [], _, _, h => absurd h (Nat.not_lt_zero _)
  | p :: ps, k, n, h => by
    have hl := frame_len p
    rw [List.take_succ_cons, fr_cons, List.length_append, hl]
    unfold torn
    match n with
    | 0 =>
      rw [List.take_zero, show (fr []).length = 0 from rfl]
      split <;> omega
    | n + 1 =>
      have ih := torn_iff (ps := ps) (k := k - (p.length + 8)) (n := n) (by simpa using h)
      split
      · rw [Nat.succ_lt_succ_iff, ← ih]; omega
      · omega
theorem fr_snoc (ps : List (List UInt8)) (p : List UInt8) : fr (ps ++ [p]) = fr ps ++ frameB p := by simp [fr]
theorem fr_take_le (ps : List (List UInt8)) (n : Nat) : (fr (ps.take n)).length ≤ (fr ps).length := by
  have := congrArg (fun l => (fr l).length) (List.take_append_drop n ps)
  simp only [fr, List.flatMap_append, List.length_append] at this ⊢
  omega
end VK

namespace VK
open Go Go.Proofs
set_option linter.unusedSimpArgs false
set_option linter.unusedVariables false
set_option maxRecDepth 100000
set_option maxHeartbeats 40000000
def KeptS.last (k : KeptS) : Int := k.base + k.ents.length
def zeroK : KeptS := ⟨0, 0, 0, [], []⟩
theorem zeroK_ok : zeroK.ok := by decide
def entR1 (s : InS) : Option (EntS × InS) :=
  match decOp (textR 262144 (numR (numR s).2).2).1 with
  | none => none
  | some o => some (⟨unzig (numR s).1, unzig (numR (numR s).2).1, o⟩, (textR 262144 (numR (numR s).2).2).2)
def entsR : Nat → InS → Option (List EntS × InS)
  | 0, s => some ([], s)
  | n + 1, s => match entR1 s with
    | none => none
    | some (e, s1) => match entsR n s1 with
      | none => none
      | some (l, s2) => some (e :: l, s2)
def finK (k : KeptS) (s : InS) : Option KeptS := if s.err = 0 ∧ s.bs = [] ∧ k.ok then some k else none
def manyR (s : InS) : Option (List EntS × InS) := if 32 < (numR s).1 then none else entsR (numR s).1 (numR s).2
def foldV (k : KeptS) (s : InS) : Option KeptS := if gr < (numR s).1 ∨ ((numR s).1 : Int) ≤ k.view then none else finK { k with view := (numR s).1 } (numR s).2
def foldE (k : KeptS) (s : InS) : Option KeptS := match entsR 1 s with
  | none => none
  | some (l, s') => finK { k with ents := k.ents ++ l } s'
def foldA (k : KeptS) (s : InS) : Option KeptS :=
  if gr < (numR s).1 ∨ gr < (numR (numR s).2).1 ∨ ((numR s).1 : Int) < k.view ∨ ((numR (numR s).2).1 : Int) < k.base ∨ k.last < (numR (numR s).2).1 then none else
  match manyR (numR (numR s).2).2 with
  | none => none
  | some (l, s') => finK { k with view := (numR s).1, normal := (numR s).1, ents := k.ents.take (((numR (numR s).2).1 : Int) - k.base).toNat ++ l } s'
def foldW (s : InS) : Option KeptS :=
  if gr < (numR s).1 ∨ gr < (numR (numR s).2).1 ∨ gr < (numR (numR (numR s).2).2).1 then none else
  match manyR (textR 65536 (numR (numR (numR s).2).2).2).2 with
  | none => none
  | some (l, s') => finK ⟨(numR s).1, (numR (numR s).2).1, (numR (numR (numR s).2).2).1, (textR 65536 (numR (numR (numR s).2).2).2).1, l⟩ s'
def foldK (k : KeptS) (p : List UInt8) : Option KeptS :=
  if (numR ⟨p, 0⟩).1 = 1 then foldV k (numR ⟨p, 0⟩).2 else if (numR ⟨p, 0⟩).1 = 2 then foldE k (numR ⟨p, 0⟩).2
  else if (numR ⟨p, 0⟩).1 = 3 then foldA k (numR ⟨p, 0⟩).2 else if (numR ⟨p, 0⟩).1 = 4 then foldW (numR ⟨p, 0⟩).2 else none
def foldsK : KeptS → List (List UInt8) → Option KeptS
  | k, [] => some k
  | k, p :: ps => match foldK k p with
    | none => none
    | some k' => foldsK k' ps
def opB (o : OpS) : List UInt8 := if longOp o then [] else encOp o
def entB (e : EntS) : List UInt8 := intB e.client ++ intB e.number ++ textB (opB e.op)
def entsB (l : List EntS) : List UInt8 := l.flatMap entB
def payV (v : Nat) : List UInt8 := num 1 ++ num v
def payE (e : EntS) : List UInt8 := num 2 ++ entB e
def payA (v f : Nat) (es : List EntS) : List UInt8 := num 3 ++ num v ++ num f ++ num es.length ++ entsB es
def payW (k : KeptS) : List UInt8 := num 4 ++ num k.view.toNat ++ num k.normal.toNat ++ num k.base.toNat ++ textB k.state ++ num k.ents.length ++ entsB k.ents
def EntS.ok (e : EntS) : Prop := inR .i64 e.client ∧ inR .i64 e.number ∧ e.op.ok
theorem finK_ok {k k' : KeptS} {s : InS} (h : finK k s = some k') : k' = k ∧ k.ok ∧ s = ⟨[], 0⟩ := by
  unfold finK at h
  split at h
  · rename_i hc
    cases h
    obtain ⟨b, e⟩ := s
    obtain ⟨h1, h2, h3⟩ := hc
    dsimp only at h1 h2
    subst h1 h2
    exact ⟨rfl, h3, rfl⟩
  · cases h
theorem finK_go {k : KeptS} (h : k.ok) : finK k ⟨[], 0⟩ = some k := if_pos ⟨rfl, rfl, h⟩
theorem foldV_ok {k k' : KeptS} {s : InS} (h : foldV k s = some k') : k'.ok := by
  unfold foldV at h
  split at h
  · cases h
  · obtain ⟨rfl, h, _⟩ := finK_ok h; exact h
theorem foldK_ok {k k' : KeptS} {p : List UInt8} (h : foldK k p = some k') : k'.ok := by
  unfold foldK at h
  split at h
  · exact foldV_ok h
  · split at h
    · unfold foldE at h
      split at h
      · cases h
      · obtain ⟨rfl, h, _⟩ := finK_ok h; exact h
    · split at h
      · unfold foldA at h
        split at h
        · cases h
        · split at h
          · cases h
          · obtain ⟨rfl, h, _⟩ := finK_ok h; exact h
      · split at h
        · unfold foldW at h
          split at h
          · cases h
          · split at h
            · cases h
            · obtain ⟨rfl, h, _⟩ := finK_ok h; exact h
        · cases h
theorem foldsK_ok : ∀ {ps : List (List UInt8)} {k k' : KeptS}, k.ok → foldsK k ps = some k' → k'.ok
  | [], k, k', h, e => by cases e; exact h
  | p :: ps, k, k', h, e => by
    simp only [foldsK] at e
    split at e
    · cases e
    · rename_i q hq
      exact foldsK_ok (foldK_ok hq) e
theorem foldsK_app : ∀ {ps qs : List (List UInt8)} {k : KeptS}, foldsK k (ps ++ qs) = (foldsK k ps).bind fun k' => foldsK k' qs
  | [], qs, k => rfl
  | p :: ps, qs, k => by
    simp only [List.cons_append, foldsK]
    split
    · rfl
    · exact foldsK_app
theorem opB_len {o : OpS} (h : o.ok) : (opB o).length ≤ 3400 := by
  unfold opB
  split
  · simp
  · rename_i hl
    simp only [longOp, not_or] at hl
    obtain ⟨l1, l2, l3⟩ := hl
    obtain ⟨h1, h2, h3, h4, h5, h6⟩ := h
    have b1 := intB_len h1
    have b5 := intB_len h5
    have b6 := intB_len h6
    have t2 := textB_len (s := o.path) (by omega)
    have t3 := textB_len (s := o.to_) (by omega)
    have t4 := textB_len (s := o.data) (by omega)
    simp only [encOp, List.length_append]
    omega
theorem entB_len {e : EntS} (h : e.ok) : (entB e).length ≤ 3440 := by
  obtain ⟨h1, h2, h3⟩ := h
  have b1 := intB_len h1
  have b2 := intB_len h2
  have l3 := opB_len h3
  have b3 := textB_len (s := opB e.op) (by omega)
  simp only [entB, List.length_append]
  omega
theorem entsB_len : ∀ {l : List EntS}, (∀ e ∈ l, e.ok) → (entsB l).length ≤ 3440 * l.length
  | [], _ => Nat.zero_le _
  | e :: l, h => by
    have h1 := entB_len (h e (List.mem_cons_self ..))
    have h2 := entsB_len (l := l) fun x hx => h x (List.mem_cons_of_mem _ hx)
    simp only [entsB, List.flatMap_cons, List.length_append, List.length_cons] at h2 ⊢
    omega
theorem entR1_back {e : EntS} (h : e.ok) (hl : ¬ longOp e.op) (r : List UInt8) : entR1 ⟨entB e ++ r, 0⟩ = some (e, ⟨r, 0⟩) := by
  obtain ⟨client, number, op⟩ := e
  obtain ⟨h1, h2, h3⟩ := h
  have hlen : (opB op).length ≤ 3400 := opB_len h3
  simp only [inR] at h1 h2
  have hz1 := zig_le client h1.1 h1.2
  have hz2 := zig_le number h2.1 h2.2
  have e1 := numR_num (m := zig client) (num (zig number) ++ (textB (opB op) ++ r)) hz1
  have e2 := numR_num (m := zig number) (textB (opB op) ++ r) hz2
  have e3 := textR_back (s := opB op) (r := r) (most := 262144) (by omega) (by omega)
  have e0 : entB ⟨client, number, op⟩ ++ r = num (zig client) ++ (num (zig number) ++ (textB (opB op) ++ r)) := by simp [entB, intB]
  have hd : decOp (opB op) = some op := by unfold opB; rw [if_neg hl]; exact dec_enc h3 hl
  rw [e0]
  simp only [entR1, e1, e2, e3, hd, unzig_zig]
theorem entsR_back : ∀ {l : List EntS} (r : List UInt8), (∀ e ∈ l, e.ok ∧ ¬ longOp e.op) → entsR l.length ⟨entsB l ++ r, 0⟩ = some (l, ⟨r, 0⟩)
  | [], r, _ => rfl
  | e :: l, r, h => by
    obtain ⟨h1, h2⟩ := h e (List.mem_cons_self ..)
    have h3 := entsR_back (l := l) r fun x hx => h x (List.mem_cons_of_mem _ hx)
    rw [List.length_cons, show entsB (e :: l) ++ r = entB e ++ (entsB l ++ r) by simp [entsB]]
    simp only [entsR, entR1_back h1 h2, h3]
theorem manyR_back {l : List EntS} (r : List UInt8) (h : ∀ e ∈ l, e.ok ∧ ¬ longOp e.op) (hn : l.length ≤ 32) : manyR ⟨num l.length ++ (entsB l ++ r), 0⟩ = some (l, ⟨r, 0⟩) := by
  have e1 := numR_num (m := l.length) (entsB l ++ r) (by omega)
  unfold manyR
  rw [e1, if_neg (by omega)]
  exact entsR_back r h
theorem num1 (r : List UInt8) (n : Nat) (hn : n ≤ 4) : numR ⟨num n ++ r, 0⟩ = (n, ⟨r, 0⟩) := numR_num r (by omega)
theorem foldK_V {k : KeptS} {v : Nat} (hk : k.ok) (hv : v ≤ 18446744073709551615) : foldK k (payV v) = if gr < v ∨ (v : Int) ≤ k.view then none else some { k with view := v } := by
  have e1 := num1 (num v) 1 (by omega)
  have e2 := numR_num (m := v) [] hv
  rw [List.append_nil] at e2
  unfold foldK payV
  rw [e1, if_pos rfl]
  unfold foldV
  rw [e2]
  split
  · rfl
  · rename_i h
    obtain ⟨a1, a2, a3, a4, a5, a6, a7, a8, a9, a10, a11⟩ := hk
    exact finK_go ⟨by dsimp only; omega, by dsimp only; omega, a3, by dsimp only; omega, a5, a6, a7, a8, a9, a10, a11⟩
theorem foldK_E {k : KeptS} {e : EntS} (he : e.ok) (hl : ¬ longOp e.op) : foldK k (payE e) = if KeptS.ok { k with ents := k.ents ++ [e] } then some { k with ents := k.ents ++ [e] } else none := by
  have e1 := num1 (entB e) 2 (by omega)
  have e2 := entR1_back he hl []
  rw [List.append_nil] at e2
  unfold foldK payE
  rw [e1]; dsimp only; rw [if_neg (by decide), if_pos rfl]
  unfold foldE
  simp only [entsR, e2]
  unfold finK
  simp
theorem foldK_A {k : KeptS} {v f : Nat} {es : List EntS} (hes : ∀ e ∈ es, e.ok ∧ ¬ longOp e.op) (hn : es.length ≤ 32) (hv : v ≤ 18446744073709551615) (hf : f ≤ 18446744073709551615) :
    foldK k (payA v f es) = if (gr < v ∨ gr < f ∨ (v : Int) < k.view ∨ (f : Int) < k.base ∨ k.last < f) ∨ ¬ KeptS.ok { k with view := v, normal := v, ents := k.ents.take ((f : Int) - k.base).toNat ++ es } then none else some { k with view := v, normal := v, ents := k.ents.take ((f : Int) - k.base).toNat ++ es } := by
  have e1 := num1 (num v ++ (num f ++ (num es.length ++ entsB es))) 3 (by omega)
  have e2 := numR_num (m := v) (num f ++ (num es.length ++ entsB es)) hv
  have e3 := numR_num (m := f) (num es.length ++ entsB es) hf
  have e4 := manyR_back (l := es) [] hes hn
  rw [List.append_nil] at e4
  have e0 : payA v f es = num 3 ++ (num v ++ (num f ++ (num es.length ++ entsB es))) := by simp [payA]
  unfold foldK
  rw [e0, e1]; dsimp only; rw [if_neg (by decide), if_neg (by decide), if_pos rfl]
  unfold foldA
  rw [e2]
  dsimp only
  rw [e3]
  dsimp only
  rw [e4]
  by_cases hc : gr < v ∨ gr < f ∨ (v : Int) < k.view ∨ (f : Int) < k.base ∨ k.last < f
  · rw [if_pos hc, if_pos (.inl hc)]
  · rw [if_neg hc]
    unfold finK
    dsimp only
    by_cases hk : KeptS.ok { k with view := v, normal := v, ents := k.ents.take ((f : Int) - k.base).toNat ++ es }
    · rw [if_pos ⟨rfl, rfl, hk⟩, if_neg (fun h => h.elim hc (fun h => h hk))]
    · rw [if_neg (fun h => hk h.2.2), if_pos (.inr hk)]
end VK

namespace VK
open Go Go.Proofs
set_option linter.unusedSimpArgs false
set_option linter.unusedVariables false
set_option maxRecDepth 100000
set_option maxHeartbeats 40000000
theorem r_isnilR {c : Cx} {k : List KI} {E : Env} {L : List Atom} {v : Value} {r : Row} {x : Code} (rd : Rd L v r) (h0 : isNilV v = true) (h : r.xs = [] → Run c x k E L) : Run c x k E L := by
  unfold Run at *
  intro a w he hs
  have h1 := rd.rd _ w hs
  unfold RdW at h1
  obtain ⟨_, _, ad, cap, rfl, _, _, h6⟩ := h1
  refine h ?_ a w he hs
  rcases h6 with h6 | ⟨b, o, rfl, _⟩
  · exact h6
  · exact absurd h0 (by unfold isNilV; simp)
theorem flat_nil {α : Type} {f : α → List Value} {l : List α} (h : l.flatMap f = []) (hf : ∀ a, f a ≠ []) : l = [] := by
  cases l with
  | nil => rfl
  | cons a l => simp at h; exact absurd h.1 (hf a)
theorem CoE_c (L : List Atom) (v : Value) (l : List EntS) [rd : Rd L v (entR l)] (hl : l.length ≤ 1048576) : Fn Try.prog 47 [v] L fun w L' => L' = sl w (entR l) :: L := by
  refine fn_intro Try.func47 rfl Try.ntmps47 rfl (fun W0 => ?_)
  simp only [argE]
  refine rS ?_
  refine rR (id := 0) ?_
  refine oG (gA (evv rfl)) rfl rfl ?_
  refine oN ?_
  refine cC ?_
  refine rS ?_
  refine rS ?_
  refine rR (id := 1) ?_
  refine oG (gM (evv rfl)) rfl rfl ?_
  refine oG (g_snil (evv rfl) (evv rfl) (by rfl)) rfl rfl ?_
  refine oN ?_
  refine cC ?_
  refine r_cond rfl (fun h0 => ?_) (fun h0 => ?_) <;> (try simp only [decide_eq_true_eq, decide_eq_false_iff_not, Bool.and_eq_true, Bool.or_eq_true, Bool.not_eq_true', Bool.and_eq_false_iff, Bool.or_eq_false_iff, Bool.not_eq_false', Bool.not_eq_true, Bool.not_eq_false, Bool.true_eq_false, Bool.false_eq_true, Int.not_lt, Int.not_le, not_and, not_or, ne_eq] at h0)
  · refine r_isnilR rd h0 fun e => ?_
    obtain rfl := flat_nil e (fun a h => by simp [entC] at h)
    refine rS ?_
    refine rR (id := 2) ?_
    refine oG (gA (evv rfl)) rfl rfl ?_
    refine oN ?_
    refine cC ?_
    first | refine r_ret (rs := [.tmp 2]) rfl rfl _ ((Ent.nilsl 50 8)) ?_ | refine c_end (rs := [.tmp 2]) rfl rfl _ ((Ent.nilsl 50 8)) ?_
    rfl
  · refine r_skip ?_
    refine cC ?_
    refine rS ?_
    refine rR (id := 3) ?_
    refine o_lit0S (by rfl) rfl (fun _ => ?_)
    refine oG (gM (evv rfl)) rfl rfl ?_
    refine o_appF (evv rfl) (evv rfl) (by rfl) (by rfl) (by rfl) (by (try simp only [bsOf, List.length_append, List.length_cons, List.length_nil, List.length_take, List.length_drop, List.length_map, List.length_range]); omega) rfl (fun _ => ?_)
    refine oG (gA (evv rfl)) rfl rfl ?_
    refine oN ?_
    refine cC ?_
    first | refine r_ret (rs := [.tmp 2]) rfl rfl _ (Ent.refl _) ?_ | refine c_end (rs := [.tmp 2]) rfl rfl _ (Ent.refl _) ?_
    rfl
theorem ClE_c (L : List Atom) (v : Value) (l : List EntS) [rd : Rd L v (entR l)] : Fn Try.prog 92 [v] L fun w L' => w = clipV v ∧ L' = L := by
  refine fn_intro Try.func92 rfl Try.ntmps92 rfl (fun W0 => ?_)
  simp only [argE]
  refine rS ?_
  refine rR (id := 0) ?_
  refine oG (gA (evv rfl)) rfl rfl ?_
  refine oN ?_
  refine cC ?_
  refine rS ?_
  refine rR (id := 1) ?_
  refine oG (gM (evv rfl)) rfl rfl ?_
  refine oG (gM (evv rfl)) rfl rfl ?_
  refine oG (g_lenF (evv rfl)) rfl rfl ?_
  refine oG (gM (evv rfl)) rfl rfl ?_
  refine oG (g_lenF (evv rfl)) rfl rfl ?_
  refine oG (g_clip (evv rfl) (evv rfl) (evv rfl)) rfl rfl ?_
  refine oG (gA (evv rfl)) rfl rfl ?_
  refine oN ?_
  refine cC ?_
  first | refine r_ret (rs := [.tmp 2]) rfl rfl _ (Ent.refl _) ?_ | refine c_end (rs := [.tmp 2]) rfl rfl _ (Ent.refl _) ?_
  exact ⟨rfl, rfl⟩
end VK

namespace VK
open Go Go.Proofs
set_option linter.unusedSimpArgs false
set_option linter.unusedVariables false
set_option maxRecDepth 100000
set_option maxHeartbeats 40000000
abbrev kC (view normal base : Int) (state : List UInt8) (ve : Value) : List Value := [.int .i64 view, .int .i64 normal, .int .i64 base, str state, ve]
theorem jLast_c (L : List Atom) (view normal base : Int) (state : List UInt8) (ve : Value) (es : List EntS) [rd : Rd L ve (entR es)] (h0 : 0 ≤ base) (h1 : base ≤ gr) (hl : es.length ≤ 1048576) : Fn Try.prog 50 [agg (kC view normal base state ve)] L fun v L' => v = .int .i64 (base + es.length) ∧ L' = L := by
  have hgr : gr = 1099511627776 := rfl
  refine fn_intro Try.func50 rfl Try.ntmps50 rfl (fun W0 => ?_)
  simp only [argE]
  refine rS ?_
  refine rR (id := 0) ?_
  refine o_boxA (evv rfl) rfl (fun _ => ?_)
  refine oG (gA (evv rfl)) rfl rfl ?_
  refine oN ?_
  refine cC ?_
  refine rS ?_
  refine rR (id := 1) ?_
  refine oG (g_fld (evv rfl)) rfl rfl ?_
  refine oG (g_load (evv rfl) (by rfl) (by rfl)) rfl rfl ?_
  refine oG (g_fld (evv rfl)) rfl rfl ?_
  refine oG (g_load (evv rfl) (by rfl) (by rfl)) rfl rfl ?_
  refine oG (g_lenF (evv rfl)) rfl rfl ?_
  refine o_giveN (g_bin (evv rfl) (evv rfl) (by rfl)) (by simp only [inR]; omega) rfl ?_
  refine oG (gA (evv rfl)) rfl rfl ?_
  refine oN ?_
  refine cC ?_
  first | refine r_ret (rs := [.tmp 2]) rfl rfl _ ((Lay.ent (L' := L))) ?_ | refine c_end (rs := [.tmp 2]) rfl rfl _ ((Lay.ent (L' := L))) ?_
  exact ⟨rfl, rfl⟩
def numK (view normal base : Int) (state : List UInt8) (n : Nat) : Prop := 0 ≤ view ∧ view ≤ gr ∧ 0 ≤ normal ∧ normal ≤ view ∧ 0 ≤ base ∧ base ≤ gr ∧ base + n ≤ gr ∧ state.length ≤ 65536 ∧ (base = 0 → state = []) ∧ n ≤ 32
theorem ok_num (view normal base : Int) (state : List UInt8) (es : List EntS) : KeptS.ok ⟨view, normal, base, state, es⟩ ↔ numK view normal base state es.length ∧ ∀ e ∈ es, ¬ longOp e.op := by
  simp only [KeptS.ok, numK, and_assoc]
theorem jCheck_c (L : List Atom) (view normal base : Int) (state : List UInt8) (ve : Value) (es : List EntS) [rd : Rd L ve (entR es)] (hl : es.length ≤ 1048576) (hs : state.length ≤ 140737488355000) (hf : ∀ e ∈ es, e.ok) : Fn Try.prog 17 [agg (kC view normal base state ve)] L fun v L' => v = .int .i64 (if KeptS.ok ⟨view, normal, base, state, es⟩ then 0 else 1) ∧ L' = L := by
  have hgr : gr = 1099511627776 := rfl
  have hn := ok_num view normal base state es
  refine fn_intro Try.func17 rfl Try.ntmps17 rfl (fun W0 => ?_)
  simp only [argE]
  refine rS ?_
  refine rR (id := 0) ?_
  refine o_boxA (evv rfl) rfl (fun _ => ?_)
  refine oG (gA (evv rfl)) rfl rfl ?_
  refine oN ?_
  refine cC ?_
  refine rS ?_
  refine r_block ?_
  refine rS ?_
  refine r_block ?_
  refine r_block ?_
  refine r_block ?_
  refine rS ?_
  refine rS ?_
  refine rS ?_
  refine rR (id := 1) ?_
  refine oG (g_fld (evv rfl)) rfl rfl ?_
  refine oG (g_load (evv rfl) (by rfl) (by rfl)) rfl rfl ?_
  refine oG (g_bin (evv rfl) (evv rfl) (by rfl)) rfl rfl ?_
  refine oG (gM (evv rfl)) rfl rfl ?_
  refine o_lazy rfl (fun hg => g_fld (evv rfl)) rfl rfl ?_
  refine o_lazy rfl (fun hg => g_load (evg rfl hg) (by rfl) (by rfl)) rfl rfl ?_
  refine o_lazy rfl (fun hg => g_bin (by first | exact evv rfl | exact evg rfl (by rw [hp]; rfl) | exact evg rfl hp | exact evg rfl hg | exact evg rfl (by first | (simp_all; done) | (simp [*]; done) | fail) | fail) (by first | exact evv rfl | exact evg rfl (by rw [hp]; rfl) | exact evg rfl hp | exact evg rfl hg | exact evg rfl (by first | (simp_all; done) | (simp [*]; done) | fail) | fail) (by rfl)) rfl rfl ?_
  refine oG (g_pick_or (evv rfl) (evv rfl) (fun hp => (by first | exact evv rfl | exact evg rfl (by rw [hp]; rfl) | exact evg rfl hp | exact evg rfl hg | exact evg rfl (by first | (simp_all; done) | (simp [*]; done) | fail) | fail))) rfl rfl ?_
  refine oG (gM (evv rfl)) rfl rfl ?_
  refine o_lazy rfl (fun hg => g_fld (evv rfl)) rfl rfl ?_
  refine o_lazy rfl (fun hg => g_load (evg rfl hg) (by rfl) (by rfl)) rfl rfl ?_
  refine o_lazy rfl (fun hg => g_bin (by first | exact evv rfl | exact evg rfl (by rw [hp]; rfl) | exact evg rfl hp | exact evg rfl hg | exact evg rfl (by first | (simp_all; done) | (simp [*]; done) | fail) | fail) (by first | exact evv rfl | exact evg rfl (by rw [hp]; rfl) | exact evg rfl hp | exact evg rfl hg | exact evg rfl (by first | (simp_all; done) | (simp [*]; done) | fail) | fail) (by rfl)) rfl rfl ?_
  refine oG (g_pick_or (evv rfl) (evv rfl) (fun hp => (by first | exact evv rfl | exact evg rfl (by rw [hp]; rfl) | exact evg rfl hp | exact evg rfl hg | exact evg rfl (by first | (simp_all; done) | (simp [*]; done) | fail) | fail))) rfl rfl ?_
  refine oG (gM (evv rfl)) rfl rfl ?_
  refine o_lazy rfl (fun hg => g_fld (evv rfl)) rfl rfl ?_
  refine o_lazy rfl (fun hg => g_load (evg rfl hg) (by rfl) (by rfl)) rfl rfl ?_
  refine o_lazy rfl (fun hg => g_fld (evv rfl)) rfl rfl ?_
  refine o_lazy rfl (fun hg => g_load (evg rfl hg) (by rfl) (by rfl)) rfl rfl ?_
  refine o_lazy rfl (fun hg => g_bin (by first | exact evv rfl | exact evg rfl (by rw [hp]; rfl) | exact evg rfl hp | exact evg rfl hg | exact evg rfl (by first | (simp_all; done) | (simp [*]; done) | fail) | fail) (by first | exact evv rfl | exact evg rfl (by rw [hp]; rfl) | exact evg rfl hp | exact evg rfl hg | exact evg rfl (by first | (simp_all; done) | (simp [*]; done) | fail) | fail) (by rfl)) rfl rfl ?_
  refine oG (g_pick_or (evv rfl) (evv rfl) (fun hp => (by first | exact evv rfl | exact evg rfl (by rw [hp]; rfl) | exact evg rfl hp | exact evg rfl hg | exact evg rfl (by first | (simp_all; done) | (simp [*]; done) | fail) | fail))) rfl rfl ?_
  refine oG (gA (evv rfl)) rfl rfl ?_
  refine oN ?_
  refine cC ?_
  refine r_cond rfl (fun h1 => ?_) (fun h1 => ?_) <;> (try simp only [decide_eq_true_eq, decide_eq_false_iff_not, Bool.and_eq_true, Bool.or_eq_true, Bool.not_eq_true', Bool.and_eq_false_iff, Bool.or_eq_false_iff, Bool.not_eq_false', Bool.not_eq_true, Bool.not_eq_false, Bool.true_eq_false, Bool.false_eq_true, Int.not_lt, Int.not_le, not_and, not_or, ne_eq] at h1)
  · rw [if_neg (fun h => by obtain ⟨⟨a1, a2, a3, a4, _⟩, _⟩ := hn.1 h; omega)]
    refine r_exit rfl ?_
    refine c_blk ?_
    refine c_blk ?_
    refine cC ?_
    refine rS ?_
    refine rS ?_
    refine rR (id := 4) ?_
    refine oG (gA (evv rfl)) rfl rfl ?_
    refine oN ?_
    refine cC ?_
    first | refine r_ret (rs := [.tmp 2]) rfl rfl _ ((Lay.ent (L' := L))) ?_ | refine c_end (rs := [.tmp 2]) rfl rfl _ ((Lay.ent (L' := L))) ?_
    exact ⟨rfl, rfl⟩
  · refine r_skip ?_
    refine cC ?_
    refine rS ?_
    refine rS ?_
    refine rR (id := 2) ?_
    refine oG (g_fld (evv rfl)) rfl rfl ?_
    refine oG (g_load (evv rfl) (by rfl) (by rfl)) rfl rfl ?_
    refine oG (g_bin (evv rfl) (evv rfl) (by rfl)) rfl rfl ?_
    refine oG (gM (evv rfl)) rfl rfl ?_
    refine o_lazy rfl (fun hg => g_fld (evv rfl)) rfl rfl ?_
    refine o_lazy rfl (fun hg => g_load (evg rfl hg) (by rfl) (by rfl)) rfl rfl ?_
    refine o_lazy rfl (fun hg => g_bin (by first | exact evv rfl | exact evg rfl (by rw [hp]; rfl) | exact evg rfl hp | exact evg rfl hg | exact evg rfl (by first | (simp_all; done) | (simp [*]; done) | fail) | fail) (by first | exact evv rfl | exact evg rfl (by rw [hp]; rfl) | exact evg rfl hp | exact evg rfl hg | exact evg rfl (by first | (simp_all; done) | (simp [*]; done) | fail) | fail) (by rfl)) rfl rfl ?_
    refine oG (g_pick_or (evv rfl) (evv rfl) (fun hp => (by first | exact evv rfl | exact evg rfl (by rw [hp]; rfl) | exact evg rfl hp | exact evg rfl hg | exact evg rfl (by first | (simp_all; done) | (simp [*]; done) | fail) | fail))) rfl rfl ?_
    refine oG (gM (evv rfl)) rfl rfl ?_
    refine o_lazy rfl (fun hg => g_loadF (evv rfl) (by rfl) (by rfl)) rfl rfl ?_
    by_cases hb : (decide (base < 0) || decide (1099511627776 < base)) = true
    · simp only [hb]
      refine o_lazy (v0 := undef) rfl (fun hg => absurd hg (by first | (simp; done) | fail)) rfl rfl ?_
      refine o_lazy (v0 := undef) rfl (fun hg => absurd hg (by first | (simp; done) | fail)) rfl rfl ?_
      refine oG (g_pick (b := true) (evv rfl) (fun _ => (evv rfl)) (fun h => by cases h)) rfl rfl ?_
      refine oG (gA (evv rfl)) rfl rfl ?_
      refine oN ?_
      refine cC ?_
      refine r_cond_true rfl ?_
      refine r_exit rfl ?_
      refine c_blk ?_
      refine cC ?_
      refine rS ?_
      refine rS ?_
      rw [if_neg (fun h => by obtain ⟨⟨a1, a2, a3, a4, a5, a6, _⟩, _⟩ := hn.1 h; simp only [Bool.or_eq_true, decide_eq_true_eq] at hb; omega)]
      refine rR (id := 4) ?_
      refine oG (gA (evv rfl)) rfl rfl ?_
      refine oN ?_
      refine cC ?_
      first | refine r_ret (rs := [.tmp 2]) rfl rfl _ ((Lay.ent (L' := L))) ?_ | refine c_end (rs := [.tmp 2]) rfl rfl _ ((Lay.ent (L' := L))) ?_
      exact ⟨rfl, rfl⟩
    · have hb1 : 0 ≤ base ∧ base ≤ gr := by simp only [Bool.or_eq_true, decide_eq_true_eq, not_or] at hb; omega
      obtain ⟨hb0, hb2⟩ := hb1
      simp only [Bool.eq_false_iff.2 hb]
      refine o_sure (t := 38) rfl rfl ?_
      refine o_gyes rfl ?_
      (refine o_call rfl _ (Ent.refl _) (jLast_c _ _ _ _ _ _ _ (by first | assumption | omega) (by first | assumption | omega) (by first | assumption | omega)) rfl ?_; rintro _ _ ⟨rfl, hLz⟩; obtain rfl := hLz.symm; clear hLz)
      refine o_gyes rfl ?_
      refine oG (g_bin (evv rfl) (evv rfl) (by rfl)) rfl rfl ?_
      refine oG (g_pick (b := false) (evv rfl) (fun h => by cases h) (fun _ => (evv rfl))) rfl rfl ?_
      refine oG (gA (evv rfl)) rfl rfl ?_
      refine oN ?_
      refine cC ?_
      refine r_cond rfl (fun h2 => ?_) (fun h2 => ?_) <;> (try simp only [decide_eq_true_eq, decide_eq_false_iff_not, Bool.and_eq_true, Bool.or_eq_true, Bool.not_eq_true', Bool.and_eq_false_iff, Bool.or_eq_false_iff, Bool.not_eq_false', Bool.not_eq_true, Bool.not_eq_false, Bool.true_eq_false, Bool.false_eq_true, Int.not_lt, Int.not_le, not_and, not_or, ne_eq] at h2)
      · rw [if_neg (fun h => by obtain ⟨⟨a1, a2, a3, a4, a5, a6, a7, _⟩, _⟩ := hn.1 h; omega)]
        refine r_exit rfl ?_
        refine c_blk ?_
        refine cC ?_
        refine rS ?_
        refine rS ?_
        refine rR (id := 4) ?_
        refine oG (gA (evv rfl)) rfl rfl ?_
        refine oN ?_
        refine cC ?_
        first | refine r_ret (rs := [.tmp 2]) rfl rfl _ ((Lay.ent (L' := L))) ?_ | refine c_end (rs := [.tmp 2]) rfl rfl _ ((Lay.ent (L' := L))) ?_
        exact ⟨rfl, rfl⟩
      · refine r_skip ?_
        refine cC ?_
        refine rS ?_
        refine rR (id := 3) ?_
        refine oG (g_fld (evv rfl)) rfl rfl ?_
        refine oG (g_load (evv rfl) (by rfl) (by rfl)) rfl rfl ?_
        refine oG (g_lenS TyU.h (evv rfl)) rfl rfl ?_
        refine oG (g_bin (evv rfl) (evv rfl) (by rfl)) rfl rfl ?_
        refine oG (gM (evv rfl)) rfl rfl ?_
        refine o_lazy rfl (fun hg => g_fld (evv rfl)) rfl rfl ?_
        refine o_lazy rfl (fun hg => g_load (evg rfl hg) (by rfl) (by rfl)) rfl rfl ?_
        refine o_lazy rfl (fun hg => g_bin (by first | exact evv rfl | exact evg rfl (by rw [hp]; rfl) | exact evg rfl hp | exact evg rfl hg | exact evg rfl (by first | (simp_all; done) | (simp [*]; done) | fail) | fail) (by first | exact evv rfl | exact evg rfl (by rw [hp]; rfl) | exact evg rfl hp | exact evg rfl hg | exact evg rfl (by first | (simp_all; done) | (simp [*]; done) | fail) | fail) (by rfl)) rfl rfl ?_
        refine o_lazy rfl (fun hg => gM (by first | exact evv rfl | exact evg rfl (by rw [hp]; rfl) | exact evg rfl hp | exact evg rfl hg | exact evg rfl (by first | (simp_all; done) | (simp [*]; done) | fail) | fail)) rfl rfl ?_
        refine o_lazy rfl (fun hg => g_fld (evv rfl)) rfl rfl ?_
        refine o_lazy rfl (fun hg => g_load (evg rfl hg) (by rfl) (by rfl)) rfl rfl ?_
        refine o_lazy rfl (fun hg => g_binS (by first | exact evv rfl | exact evg rfl (by rw [hp]; rfl) | exact evg rfl hp | exact evg rfl hg | exact evg rfl (by first | (simp_all; done) | (simp [*]; done) | fail) | fail) (by first | exact evv rfl | exact evg rfl (by rw [hp]; rfl) | exact evg rfl hp | exact evg rfl hg | exact evg rfl (by first | (simp_all; done) | (simp [*]; done) | fail) | fail) (by rfl)) rfl rfl ?_
        refine o_lazy rfl (fun hg => g_pick_and (by first | exact evv rfl | exact evg rfl (by rw [hp]; rfl) | exact evg rfl hp | exact evg rfl hg | exact evg rfl (by first | (simp_all; done) | (simp [*]; done) | fail) | fail) (by first | exact evv rfl | exact evg rfl (by rw [hp]; rfl) | exact evg rfl hp | exact evg rfl hg | exact evg rfl (by first | (simp_all; done) | (simp [*]; done) | fail) | fail) (fun hp => (by first | exact evv rfl | exact evg rfl (by rw [hp]; rfl) | exact evg rfl hp | exact evg rfl hg | exact evg rfl (by first | (simp_all; done) | (simp [*]; done) | fail) | fail))) rfl rfl ?_
        refine oG (g_pick_or (evv rfl) (evv rfl) (fun hp => (by first | exact evv rfl | exact evg rfl (by rw [hp]; rfl) | exact evg rfl hp | exact evg rfl hg | exact evg rfl (by first | (simp_all; done) | (simp [*]; done) | fail) | fail))) rfl rfl ?_
        refine oG (gM (evv rfl)) rfl rfl ?_
        refine o_lazy rfl (fun hg => g_fld (evv rfl)) rfl rfl ?_
        refine o_lazy rfl (fun hg => g_load (evg rfl hg) (by rfl) (by rfl)) rfl rfl ?_
        refine o_lazy rfl (fun hg => g_lenF (by first | exact evv rfl | exact evg rfl (by rw [hp]; rfl) | exact evg rfl hp | exact evg rfl hg | exact evg rfl (by first | (simp_all; done) | (simp [*]; done) | fail) | fail)) rfl rfl ?_
        refine o_lazy rfl (fun hg => g_bin (by first | exact evv rfl | exact evg rfl (by rw [hp]; rfl) | exact evg rfl hp | exact evg rfl hg | exact evg rfl (by first | (simp_all; done) | (simp [*]; done) | fail) | fail) (by first | exact evv rfl | exact evg rfl (by rw [hp]; rfl) | exact evg rfl hp | exact evg rfl hg | exact evg rfl (by first | (simp_all; done) | (simp [*]; done) | fail) | fail) (by rfl)) rfl rfl ?_
        refine oG (g_pick_or (evv rfl) (evv rfl) (fun hp => (by first | exact evv rfl | exact evg rfl (by rw [hp]; rfl) | exact evg rfl hp | exact evg rfl hg | exact evg rfl (by first | (simp_all; done) | (simp [*]; done) | fail) | fail))) rfl rfl ?_
        refine oG (gA (evv rfl)) rfl rfl ?_
        refine oN ?_
        refine cC ?_
        refine r_cond rfl (fun h3 => ?_) (fun h3 => ?_) <;> (try simp only [decide_eq_true_eq, decide_eq_false_iff_not, Bool.and_eq_true, Bool.or_eq_true, Bool.not_eq_true', Bool.and_eq_false_iff, Bool.or_eq_false_iff, Bool.not_eq_false', Bool.not_eq_true, Bool.not_eq_false, Bool.true_eq_false, Bool.false_eq_true, Int.not_lt, Int.not_le, not_and, not_or, ne_eq] at h3)
        · rw [if_neg (fun h => by
            obtain ⟨⟨a1, a2, a3, a4, a5, a6, a7, a8, a9, a10⟩, _⟩ := hn.1 h
            rcases h3 with (h3 | ⟨h3, h4⟩) | h3
            · omega
            · exact h4 (a9 h3)
            · omega)]
          refine r_exit rfl ?_
          refine cC ?_
          refine rS ?_
          refine rS ?_
          refine rR (id := 4) ?_
          refine oG (gA (evv rfl)) rfl rfl ?_
          refine oN ?_
          refine cC ?_
          first | refine r_ret (rs := [.tmp 2]) rfl rfl _ ((Lay.ent (L' := L))) ?_ | refine c_end (rs := [.tmp 2]) rfl rfl _ ((Lay.ent (L' := L))) ?_
          exact ⟨rfl, rfl⟩
        · have hnum : numK view normal base state es.length := by
            obtain ⟨⟨c1, c2⟩, c3⟩ := h3
            refine ⟨by omega, by omega, by omega, by omega, by omega, by omega, by omega, by omega, fun h => ?_, by omega⟩
            rcases c2 with c2 | c2
            · exact absurd h c2
            · first | exact c2 | exact Decidable.of_not_not c2
          refine r_skip ?_
          refine cC ?_
          refine r_exit rfl ?_
          refine cC ?_
          refine rS ?_
          refine rS ?_
          refine rR (id := 5) ?_
          refine oG (g_fld (evv rfl)) rfl rfl ?_
          refine oG (g_load (evv rfl) (by rfl) (by rfl)) rfl rfl ?_
          refine oG (g_lenF (evv rfl)) rfl rfl ?_
          refine oG (gM (evv rfl)) rfl rfl ?_
          refine oN ?_
          refine cC ?_
          refine r_block ?_
          refine r_loopE (σ := Nat) (fun i => i ≤ es.length ∧ ∀ e ∈ es.take i, ¬ longOp e.op) (fun i => es.length - i) (fun i => [(66, .v (.int .i64 i))]) [64, 65] (fun i => L) 0 (by dsimp only [pickE, pick1, lk2, Nat.reduceBEq, Nat.reduceAdd, Nat.zero_add, cond_true, cond_false] <;> exact rfl) ?_ (by repeat (first | exact trivial | refine ⟨rfl, ?_⟩ | refine envsub_v rfl (by first | rfl | (refine int_eq ?_; first | omega | (simp; omega) | (simp; done)) | (refine bool_eq ?_; first | (simp [*]; done) | (simp; done)) | (refine str_eq ?_; simp; done) | (refine ptr_eq ?_; omega) | fail) ?_)) ?_ ?_
          · exact ⟨Nat.zero_le _, fun e he => by simp at he⟩
          · exact Lay.ent
          rintro i ⟨hi, hlong⟩; dsimp only [List.cons_append, List.nil_append]
          refine rS ?_
          refine rR (id := 6) ?_
          refine oG (g_bin (evv rfl) (evv rfl) (by rfl)) rfl rfl ?_
          refine oN ?_
          refine cC ?_
          refine rS ?_
          refine r_cond rfl (fun hc => ?_) (fun hc => ?_) <;> (try simp only [decide_eq_true_eq, decide_eq_false_iff_not, Bool.and_eq_true, Bool.or_eq_true, Bool.not_eq_true', Bool.and_eq_false_iff, Bool.or_eq_false_iff, Bool.not_eq_false', Bool.not_eq_true, Bool.not_eq_false, Bool.true_eq_false, Bool.false_eq_true, Int.not_lt, Int.not_le, not_and, not_or, ne_eq] at hc)
          · have hi2 : i < es.length := by omega
            have hmem : es.getD i default ∈ es := by rw [List.getD_eq_getElem?_getD, List.getElem?_eq_getElem hi2]; exact List.getElem_mem hi2
            have hop : (es.getD i default).op.ok := (hf _ hmem).2.2
            refine r_skip ?_
            refine cC ?_
            refine rS ?_
            refine r_block ?_
            refine rS ?_
            refine rR (id := 7) ?_
            refine oG (g_idxFN (evv rfl) (evv rfl) (by rfl) (by rfl) (by first | omega | (have := of_decide_eq_true hg; omega) | (simp at hg; omega) | (simp only [List.length_set, List.length_append, List.length_cons, List.length_nil, List.length_map, List.length_take, List.length_drop, List.length_replicate]; omega))) rfl rfl ?_
            refine oG (g_loadFr (evv rfl) (by rfl) (by first | (intro; rfl) | exact LenC.h) (by rfl) (by rfl) (by first | omega | (have := of_decide_eq_true hg; omega) | (simp at hg; omega) | (simp only [List.length_set, List.length_append, List.length_cons, List.length_nil, List.length_map, List.length_take, List.length_drop, List.length_replicate]; omega))) rfl rfl ?_
            refine o_alloc rfl rfl (fun _ => ?_)
            refine o_storeW (evv rfl) (evv rfl) (by first | rfl | assumption | exact LenC.h _ | (simp [bys, *]; done) | fail) (by first | (intro _ _ _; exact bys_one _) | exact AllOne.h | (intro _ _ _ u hu; simp at hu; rcases hu with rfl | rfl | rfl | rfl | rfl | rfl | rfl | rfl <;> rfl) | fail) (by first | rfl | exact (LenC.h _).trans rfl | exact (LenC.h _).trans (LenC.h _).symm | (simp [bys, *]; done) | (simp only [bys, List.length_map, *]; rfl) | fail) ?_
            refine oN ?_
            refine cC ?_
            refine rS ?_
            refine rR (id := 8) ?_
            refine oG (g_fld (evv rfl)) rfl rfl ?_
            refine oG (g_loadF (evv rfl) (by rfl) (by rfl)) rfl rfl ?_
            (refine o_call rfl _ (Ent.refl _) (OpEnc_c _ _ (by assumption)) rfl ?_; rintro _ _ ⟨v, rfl, rfl⟩)
            refine oG (gM (evv rfl)) rfl rfl ?_
            refine oG (g_extract (evv rfl) (by rfl)) rfl rfl ?_
            refine oG (g_extract (evv rfl) (by rfl)) rfl rfl ?_
            refine oG (gA (evv rfl)) rfl rfl ?_
            refine oG (gA (evv rfl)) rfl rfl ?_
            refine oN ?_
            refine cC ?_
            refine rS ?_
            refine rR (id := 9) ?_
            refine oG (gM (evv rfl)) rfl rfl ?_
            refine oG (g_bin (evv rfl) (evv rfl) (by rfl)) rfl rfl ?_
            refine oN ?_
            refine cC ?_
            refine r_cond rfl (fun hg => ?_) (fun hg => ?_) <;> (try simp only [decide_eq_true_eq, decide_eq_false_iff_not, Bool.and_eq_true, Bool.or_eq_true, Bool.not_eq_true', Bool.and_eq_false_iff, Bool.or_eq_false_iff, Bool.not_eq_false', Bool.not_eq_true, Bool.not_eq_false, Bool.true_eq_false, Bool.false_eq_true, Int.not_lt, Int.not_le, not_and, not_or, ne_eq] at hg)
            · have hlo : longOp (es.getD i default).op := by
                by_cases h : longOp (es.getD i default).op
                · exact h
                · rw [if_neg h] at hg; exact absurd rfl hg
              rw [if_neg (fun h => (hn.1 h).2 _ hmem hlo)]
              refine rS ?_
              refine rR (id := 10) ?_
              refine oG (gA (evv rfl)) rfl rfl ?_
              refine oN ?_
              refine cC ?_
              first | refine r_ret (rs := [.tmp 2]) rfl rfl _ ((Lay.ent (L' := L))) ?_ | refine c_end (rs := [.tmp 2]) rfl rfl _ ((Lay.ent (L' := L))) ?_
              exact ⟨rfl, rfl⟩
            · have hlo : ¬ longOp (es.getD i default).op := fun h => by rw [if_pos h] at hg; exact absurd hg (by decide)
              refine r_skip ?_
              refine c_blk ?_
              refine cC ?_
              refine rR (id := 11) ?_
              refine o_giveN (g_bin (evv rfl) (evv rfl) (by rfl)) (by simp only [inR]; omega) rfl ?_
              refine oG (gM (evv rfl)) rfl rfl ?_
              refine oN ?_
              refine c_loop (i + 1) ?_ ?_ (by repeat (first | exact trivial | refine ⟨rfl, ?_⟩ | refine envsub_v rfl (by first | rfl | (refine int_eq ?_; first | omega | (simp; omega) | (simp; done)) | (refine bool_eq ?_; first | (simp [*]; done) | (simp; done)) | (refine str_eq ?_; simp; done) | (refine ptr_eq ?_; omega) | fail) ?_)) ?_ <;> (try dsimp only)
              · refine ⟨by omega, fun e he => ?_⟩
                rw [List.take_succ_eq_append_getElem hi2, List.mem_append, List.mem_singleton] at he
                rcases he with he | rfl
                · exact hlong e he
                · simpa [hi2] using hlo
              · omega
              · exact Lay.ent
          · obtain rfl : i = es.length := by omega
            rw [List.take_length] at hlong
            rw [if_pos (hn.2 ⟨hnum, hlong⟩)]
            refine r_exit rfl ?_
            refine cC ?_
            refine rS ?_
            refine rR (id := 12) ?_
            refine oG (gA (evv rfl)) rfl rfl ?_
            refine oN ?_
            refine cC ?_
            first | refine r_ret (rs := [.tmp 2]) rfl rfl _ ((Lay.ent (L' := L))) ?_ | refine c_end (rs := [.tmp 2]) rfl rfl _ ((Lay.ent (L' := L))) ?_
            exact ⟨rfl, rfl⟩
def misCh : List PanicEntry := [{ v := .iface 117 (agg []), recovered := false }]
def MisP (F : List Atom) : List PanicEntry → List Atom → Prop := fun ch L => ch = misCh ∧ Ent L F
theorem must_t (F : List Atom) (RP : List PanicEntry → List Atom → Prop) : FnP Try.prog 73 [.bool true] F (fun v L' => v = .tuple #[] ∧ L' = F) RP := by
  refine Fn.toP ?_
  refine fn_intro Try.func73 rfl Try.ntmps73 rfl (fun W0 => ?_)
  simp only [argE]
  refine rS ?_
  refine rR (id := 0) ?_
  refine oG (gM (evv rfl)) rfl rfl ?_
  refine oG (g_not (evv rfl)) rfl rfl ?_
  refine oN ?_
  refine cC ?_
  refine r_cond_false rfl ?_
  refine r_skip ?_
  first | refine r_ret (rs := []) rfl rfl _ (Ent.refl _) ?_ | refine c_end (rs := []) rfl rfl _ (Ent.refl _) ?_
  exact ⟨rfl, rfl⟩
theorem must_f (F : List Atom) (R : Value → List Atom → Prop) : FnP Try.prog 73 [.bool false] F R (MisP F) := by
  refine fn_introP Try.func73 rfl Try.ntmps73 rfl (fun W0 => ?_)
  simp only [argE]
  refine rS ?_
  refine rR (id := 0) ?_
  refine oG (gM (evv rfl)) rfl rfl ?_
  refine oG (g_not (evv rfl)) rfl rfl ?_
  refine oN ?_
  refine cC ?_
  refine r_cond_true rfl ?_
  refine rR (id := 1) ?_
  refine oG (v := agg []) (g_buildC rfl (by rfl)) rfl rfl ?_
  refine oG (g_iface (evv rfl) (by rfl)) rfl rfl ?_
  refine o_panic (evv rfl) ?_
  exact pan_here (Ent.refl _) ⟨rfl, Ent.refl _⟩
end VK

namespace VK
open Go Go.Proofs
set_option linter.unusedSimpArgs false
set_option linter.unusedVariables false
set_option maxRecDepth 100000
set_option maxHeartbeats 40000000
theorem pan_mis2 {c : Cx} {E : Env} {F F' L : List Atom} {ch : List PanicEntry} {p : Prop} (h : MisP F ch L) (hE : Ent F F') (hp : p) (hR : c.RP = fun ch L' => MisP F' ch L' ∧ p) (hD : c.D = [] := by rfl) (hQ : c.Qo = none := by rfl) : Pan c E ch L := pan_here (Ent.refl _) (by rw [hR]; exact ⟨⟨h.1, h.2.trans hE⟩, hp⟩) hD hQ
theorem number_c (F : List Atom) (i : Nat) (s : InS) : FnP Try.prog 91 [.pointer (some ⟨i, 0, none⟩)] (inA i s :: F) (fun v L' => v = .int .i64 (numR s).1 ∧ L' = inA i (numR s).2 :: F ∧ (numR s).1 ≤ gr) (fun ch L' => MisP F ch L' ∧ gr < (numR s).1) := by
  have hgr : gr = 1099511627776 := rfl
  refine fn_introP Try.func91 rfl Try.ntmps91 rfl (fun W0 => ?_)
  simp only [argE]
  by_cases hn : ((numR s).1 : Int) ≤ 1099511627776
  · refine rS ?_
    refine rR (id := 0) ?_
    refine oG (gA (evv rfl)) rfl rfl ?_
    refine oN ?_
    refine cC ?_
    refine rS ?_
    refine rR (id := 1) ?_
    refine oG (gM (evv rfl)) rfl rfl ?_
    (refine o_call rfl _ (Ent.refl _) inNum_l rfl ?_; rintro _ _ ⟨rfl, rfl⟩)
    refine oG (gA (evv rfl)) rfl rfl ?_
    refine oN ?_
    refine cC ?_
    refine rS ?_
    refine rR (id := 2) ?_
    refine oG (gM (evv rfl)) rfl rfl ?_
    refine oG (g_bin (evv rfl) (evv rfl) (by rfl)) rfl rfl ?_
    simp only [decide_eq_true hn]
    (refine o_callP rfl _ (Ent.refl _) (must_t _ (fun _ _ => False)) rfl (fun _ _ h => h.elim) ?_; rintro _ _ ⟨rfl, rfl⟩)
    refine oN ?_
    refine cC ?_
    refine rS ?_
    refine rR (id := 3) ?_
    refine oG (gM (evv rfl)) rfl rfl ?_
    refine o_giveN (g_conv TyU.h TyU.h (evv rfl)) (by simp only [inR]; omega) rfl ?_
    refine oG (gA (evv rfl)) rfl rfl ?_
    refine oN ?_
    refine cC ?_
    first | refine r_ret (rs := [.tmp 2]) rfl rfl _ (Ent.refl _) ?_ | refine c_end (rs := [.tmp 2]) rfl rfl _ (Ent.refl _) ?_
    exact ⟨rfl, rfl, hn⟩
  · refine rS ?_
    refine rR (id := 0) ?_
    refine oG (gA (evv rfl)) rfl rfl ?_
    refine oN ?_
    refine cC ?_
    refine rS ?_
    refine rR (id := 1) ?_
    refine oG (gM (evv rfl)) rfl rfl ?_
    (refine o_call rfl _ (Ent.refl _) inNum_l rfl ?_; rintro _ _ ⟨rfl, rfl⟩)
    refine oG (gA (evv rfl)) rfl rfl ?_
    refine oN ?_
    refine cC ?_
    refine rS ?_
    refine rR (id := 2) ?_
    refine oG (gM (evv rfl)) rfl rfl ?_
    refine oG (g_bin (evv rfl) (evv rfl) (by rfl)) rfl rfl ?_
    simp only [decide_eq_false hn]
    refine o_callP rfl _ (Ent.refl _) (must_f _ (fun _ _ => False)) rfl (fun ch L' h => pan_mis2 h Ent.drop (by omega) rfl) (fun _ _ h => h.elim)
def preE (l : List EntS) : Option (List EntS × InS) → Option (List EntS × InS) := Option.map fun x => (l ++ x.1, x.2)
theorem preE_snoc {n : Nat} {l : List EntS} {s s1 : InS} {e : EntS} (h : entR1 s = some (e, s1)) : preE l (entsR (n + 1) s) = preE (l ++ [e]) (entsR n s1) := by
  simp only [entsR, h]
  cases entsR n s1 with
  | none => rfl
  | some x => simp [preE]
theorem preE_none {n : Nat} {l : List EntS} {s : InS} (h : entR1 s = none) : preE l (entsR (n + 1) s) = none := by
  simp only [entsR, h]; rfl
theorem text_len {m : Int} {s : InS} (h0 : 0 ≤ m) : ((textR m s).1.length : Int) ≤ m := by
  unfold textR
  split
  · split
    · simpa using h0
    · rename_i h
      have : (takeR (numR s).1 (numR s).2).1.length ≤ (numR s).1 := by
        unfold takeR
        by_cases h1 : (numR s).2.err = 0
        · rw [if_pos h1]
          by_cases h2 : (numR s).2.bs.length < (numR s).1
          · rw [if_pos h2]; exact Nat.zero_le _
          · rw [if_neg h2]; dsimp only; rw [List.length_take]; omega
        · rw [if_neg h1]; exact Nat.zero_le _
      omega
  · simpa using h0
theorem getEntries_c (F : List Atom) (i : Nat) (s : InS) (n : Nat) (hn : n ≤ 18446744073709551615) : FnP Try.prog 93 [.pointer (some ⟨i, 0, none⟩), .int .u64 (n : Int)] (inA i s :: F)
    (fun v L' => ∃ l s', L' = sl v (entR l) :: inA i s' :: F ∧ n ≤ 32 ∧ entsR n s = some (l, s')) (fun ch L' => MisP F ch L' ∧ (32 < n ∨ entsR n s = none)) := by
  refine fn_introP Try.func93 rfl Try.ntmps93 rfl (fun W0 => ?_)
  simp only [argE]
  by_cases h32 : (n : Int) ≤ 32
  · refine rS ?_
    refine rR (id := 0) ?_
    refine oG (gA (evv rfl)) rfl rfl ?_
    refine oN ?_
    refine cC ?_
    refine rS ?_
    refine rR (id := 1) ?_
    refine oG (gM (evv rfl)) rfl rfl ?_
    refine oG (g_bin (evv rfl) (evv rfl) (by rfl)) rfl rfl ?_
    simp only [decide_eq_true h32]
    (refine o_callP rfl _ (Ent.refl _) (must_t _ (fun _ _ => False)) rfl (fun _ _ h => h.elim) ?_; rintro _ _ ⟨rfl, rfl⟩)
    refine oN ?_
    refine cC ?_
    refine rS ?_
    refine rR (id := 2) ?_
    refine oG (gA (evv rfl)) rfl rfl ?_
    refine oN ?_
    refine cC ?_
    refine rS ?_
    refine rS ?_
    refine rR (id := 3) ?_
    refine oG (gM (evv rfl)) rfl rfl ?_
    refine oG (gM (evv rfl)) rfl rfl ?_
    refine oN ?_
    refine cC ?_
    refine r_block ?_
    refine r_ent (sl (.slice none 0 0) (entR []) :: inA i s :: F) (Ent.nilsl 50 8) ?_
    refine r_loopE (σ := Nat × Value × List EntS × InS) (fun ⟨j, v, l, s1⟩ => j ≤ n ∧ l.length = j ∧ entsR n s = preE l (entsR (n - j) s1)) (fun ⟨j, v, l, s1⟩ => n - j) (fun ⟨j, v, l, s1⟩ => [(5, .v (v)), (13, .v (.int .u64 (j : Int)))]) [0, 12] (fun ⟨j, v, l, s1⟩ => sl v (entR l) :: inA i s1 :: F) (0, .slice none 0 0, [], s) (by dsimp only [pickE, pick1, lk2, Nat.reduceBEq, Nat.reduceAdd, Nat.zero_add, cond_true, cond_false] <;> exact rfl) ?_ (by repeat (first | exact trivial | refine ⟨rfl, ?_⟩ | refine envsub_v rfl (by first | rfl | (refine int_eq ?_; first | omega | (simp; omega) | (simp; done)) | (refine bool_eq ?_; first | (simp [*]; done) | (simp; done)) | (refine str_eq ?_; simp; done) | (refine ptr_eq ?_; omega) | fail) ?_)) ?_ ?_
    · refine ⟨Nat.zero_le _, rfl, ?_⟩
      rw [Nat.sub_zero]
      cases entsR n s with
      | none => rfl
      | some x => rfl
    · exact Ent.refl _
    rintro ⟨j, v, l, s1⟩ ⟨hj, hl, hI⟩; dsimp only [List.cons_append, List.nil_append]
    refine rS ?_
    refine rR (id := 4) ?_
    refine oG (g_bin (evv rfl) (evv rfl) (by rfl)) rfl rfl ?_
    refine oN ?_
    refine cC ?_
    refine rS ?_
    refine r_cond rfl (fun hc => ?_) (fun hc => ?_) <;> (try simp only [decide_eq_true_eq, decide_eq_false_iff_not, Bool.and_eq_true, Bool.or_eq_true, Bool.not_eq_true', Bool.and_eq_false_iff, Bool.or_eq_false_iff, Bool.not_eq_false', Bool.not_eq_true, Bool.not_eq_false, Bool.true_eq_false, Bool.false_eq_true, Int.not_lt, Int.not_le, not_and, not_or, ne_eq] at hc)
    · have hj2 : n - j = (n - (j + 1)) + 1 := by omega
      have htl := text_len (m := 262144) (s := (numR (numR s1).2).2) (by omega)
      cases hd : decOp (textR 262144 (numR (numR s1).2).2).1 with
      | none =>
        have h1 : entR1 s1 = none := by unfold entR1; rw [hd]
        have h2 : entsR n s = none := by rw [hI, hj2]; exact preE_none h1
        refine r_skip ?_
        refine cC ?_
        refine rS ?_
        refine r_block ?_
        refine rS ?_
        refine rR (id := 5) ?_
        refine oG (gM (evv rfl)) rfl rfl ?_
        (refine o_call rfl _ (Ent.refl _) inInt_l rfl ?_; rintro _ _ ⟨rfl, rfl⟩)
        refine oG (gM (evv rfl)) rfl rfl ?_
        (refine o_call rfl _ (Ent.refl _) inInt_l rfl ?_; rintro _ _ ⟨rfl, rfl⟩)
        refine oG (g_buildC rfl (by rfl)) rfl rfl ?_
        refine o_alloc rfl rfl (fun _ => ?_)
        refine o_storeW (evv rfl) (evv rfl) (by first | rfl | assumption | exact LenC.h _ | (simp [bys, *]; done) | fail) (by first | (intro _ _ _; exact bys_one _) | exact AllOne.h | (intro _ _ _ u hu; simp at hu; rcases hu with rfl | rfl | rfl | rfl | rfl | rfl | rfl | rfl <;> rfl) | fail) (by first | rfl | exact (LenC.h _).trans rfl | exact (LenC.h _).trans (LenC.h _).symm | (simp [bys, *]; done) | (simp only [bys, List.length_map, *]; rfl) | fail) ?_
        refine oN ?_
        refine cC ?_
        refine rS ?_
        refine rR (id := 6) ?_
        refine oG (gM (evv rfl)) rfl rfl ?_
        (refine o_call rfl _ (Ent.refl _) (inText_l _ (by omega)) rfl ?_; rintro _ _ ⟨rfl, rfl⟩)
        refine o_s2bM (evv rfl) (by (try simp only [bsOf, List.length_append, List.length_cons, List.length_nil]); omega) rfl (fun _ => ?_)
        (refine o_call rfl _ (Ent.refl _) (OpDec_c _ _ _ (by first | assumption | omega)) rfl ?_; rintro _ _ ⟨rfl, hLz⟩; obtain rfl := hLz.symm; clear hLz)
        refine oG (gM (evv rfl)) rfl rfl ?_
        refine oG (g_extract (evv rfl) (by rfl)) rfl rfl ?_
        refine oG (g_extract (evv rfl) (by rfl)) rfl rfl ?_
        refine o_alloc rfl rfl (fun _ => ?_)
        refine o_storeW (evv rfl) (evv rfl) (by first | rfl | assumption | exact LenC.h _ | (simp [bys, *]; done) | fail) (by first | (intro _ _ _; exact bys_one _) | exact AllOne.h | (intro _ _ _ u hu; simp at hu; rcases hu with rfl | rfl | rfl | rfl | rfl | rfl | rfl | rfl <;> rfl) | fail) (by first | rfl | exact (LenC.h _).trans rfl | exact (LenC.h _).trans (LenC.h _).symm | (simp [bys, *]; done) | (simp only [bys, List.length_map, *]; rfl) | fail) ?_
        refine oG (gA (evv rfl)) rfl rfl ?_
        refine oN ?_
        refine cC ?_
        refine rS ?_
        simp only [hd, if_true]
        refine rR (id := 7) ?_
        refine oG (gM (evv rfl)) rfl rfl ?_
        refine oG (g_bin (evv rfl) (evv rfl) (by rfl)) rfl rfl ?_
        refine o_callP rfl _ (Ent.refl _) (must_f _ (fun _ _ => False)) rfl (fun ch L' h => pan_mis2 h Lay.ent (.inr h2) rfl) (fun _ _ h => h.elim)
      | some o =>
        have h1 : entR1 s1 = some (⟨unzig (numR s1).1, unzig (numR (numR s1).2).1, o⟩, (textR 262144 (numR (numR s1).2).2).2) := by unfold entR1; rw [hd]
        have h2 : entsR n s = preE (l ++ [⟨unzig (numR s1).1, unzig (numR (numR s1).2).1, o⟩]) (entsR (n - (j + 1)) (textR 262144 (numR (numR s1).2).2).2) := by rw [hI, hj2]; exact preE_snoc h1
        have hl32 : l.length + 1 ≤ 32 := by omega
        refine r_skip ?_
        refine cC ?_
        refine rS ?_
        refine r_block ?_
        refine rS ?_
        refine rR (id := 5) ?_
        refine oG (gM (evv rfl)) rfl rfl ?_
        (refine o_call rfl _ (Ent.refl _) inInt_l rfl ?_; rintro _ _ ⟨rfl, rfl⟩)
        refine oG (gM (evv rfl)) rfl rfl ?_
        (refine o_call rfl _ (Ent.refl _) inInt_l rfl ?_; rintro _ _ ⟨rfl, rfl⟩)
        refine oG (g_buildC rfl (by rfl)) rfl rfl ?_
        refine o_alloc rfl rfl (fun _ => ?_)
        refine o_storeW (evv rfl) (evv rfl) (by first | rfl | assumption | exact LenC.h _ | (simp [bys, *]; done) | fail) (by first | (intro _ _ _; exact bys_one _) | exact AllOne.h | (intro _ _ _ u hu; simp at hu; rcases hu with rfl | rfl | rfl | rfl | rfl | rfl | rfl | rfl <;> rfl) | fail) (by first | rfl | exact (LenC.h _).trans rfl | exact (LenC.h _).trans (LenC.h _).symm | (simp [bys, *]; done) | (simp only [bys, List.length_map, *]; rfl) | fail) ?_
        refine oN ?_
        refine cC ?_
        refine rS ?_
        refine rR (id := 6) ?_
        refine oG (gM (evv rfl)) rfl rfl ?_
        (refine o_call rfl _ (Ent.refl _) (inText_l _ (by omega)) rfl ?_; rintro _ _ ⟨rfl, rfl⟩)
        refine o_s2bM (evv rfl) (by (try simp only [bsOf, List.length_append, List.length_cons, List.length_nil]); omega) rfl (fun _ => ?_)
        (refine o_call rfl _ (Ent.refl _) (OpDec_c _ _ _ (by first | assumption | omega)) rfl ?_; rintro _ _ ⟨rfl, hLz⟩; obtain rfl := hLz.symm; clear hLz)
        refine oG (gM (evv rfl)) rfl rfl ?_
        refine oG (g_extract (evv rfl) (by rfl)) rfl rfl ?_
        refine oG (g_extract (evv rfl) (by rfl)) rfl rfl ?_
        refine o_alloc rfl rfl (fun _ => ?_)
        refine o_storeW (evv rfl) (evv rfl) (by first | rfl | assumption | exact LenC.h _ | (simp [bys, *]; done) | fail) (by first | (intro _ _ _; exact bys_one _) | exact AllOne.h | (intro _ _ _ u hu; simp at hu; rcases hu with rfl | rfl | rfl | rfl | rfl | rfl | rfl | rfl <;> rfl) | fail) (by first | rfl | exact (LenC.h _).trans rfl | exact (LenC.h _).trans (LenC.h _).symm | (simp [bys, *]; done) | (simp only [bys, List.length_map, *]; rfl) | fail) ?_
        refine oG (gA (evv rfl)) rfl rfl ?_
        refine oN ?_
        refine cC ?_
        refine rS ?_
        simp only [hd, Option.getD_some, reduceCtorEq, if_false]
        refine rR (id := 7) ?_
        refine oG (gM (evv rfl)) rfl rfl ?_
        refine oG (g_bin (evv rfl) (evv rfl) (by rfl)) rfl rfl ?_
        (refine o_callP rfl _ (Ent.refl _) (must_t _ (fun _ _ => False)) rfl (fun _ _ h => h.elim) ?_; rintro _ _ ⟨rfl, rfl⟩)
        refine oN ?_
        refine cC ?_
        refine rS ?_
        refine rR (id := 8) ?_
        refine oG (g_loadF (evv rfl) (by rfl) (by rfl)) rfl rfl ?_
        refine oG (g_fld (evv rfl)) rfl rfl ?_
        refine o_storeA (evv rfl) (evv rfl) (by first | rfl | assumption | exact LenC.h _ | (simp [bys, *]; done) | fail) (by first | (intro _ _ _; exact bys_one _) | exact AllOne.h | (intro _ _ _ u hu; simp at hu; rcases hu with rfl | rfl | rfl | rfl | rfl | rfl | rfl | rfl <;> rfl) | fail) (by rfl) (by rfl) ?_
        refine oN ?_
        refine cC ?_
        refine rR (id := 9) ?_
        refine oG (gM (evv rfl)) rfl rfl ?_
        refine oG (g_loadF (evv rfl) (by rfl) (by rfl)) rfl rfl ?_
        refine o_litS rfl (by rfl) inferInstance (by rfl) rfl (fun _ => ?_)
        refine o_appF (evv rfl) (evv rfl) (by rfl) (by rfl) (by rfl) (by (try simp only [bsOf, List.length_append, List.length_cons, List.length_nil, List.length_take, List.length_drop, List.length_map, List.length_range]); omega) rfl (fun _ => ?_)
        refine oG (gA (evv rfl)) rfl rfl ?_
        refine oN ?_
        refine c_blk ?_
        refine cC ?_
        rename_i v' 
        refine rR (id := 10) ?_
        refine o_giveN (g_bin (evv rfl) (evv rfl) (by rfl)) (by simp only [inR]; omega) rfl ?_
        refine oG (gM (evv rfl)) rfl rfl ?_
        refine oN ?_
        refine c_loop (j + 1, v', l ++ [⟨unzig (numR s1).1, unzig (numR (numR s1).2).1, o⟩], (textR 262144 (numR (numR s1).2).2).2) ?_ ?_ (by repeat (first | exact trivial | refine ⟨rfl, ?_⟩ | refine envsub_v rfl (by first | rfl | (refine int_eq ?_; first | omega | (simp; omega) | (simp; done)) | (refine bool_eq ?_; first | (simp [*]; done) | (simp; done)) | (refine str_eq ?_; simp; done) | (refine ptr_eq ?_; omega) | fail) ?_)) ?_ <;> (try dsimp only)
        · exact ⟨by omega, by simp [hl], h2⟩
        · omega
        · exact Lay.ent
    · obtain rfl : j = n := by omega
      rw [Nat.sub_self] at hI
      refine r_exit rfl ?_
      refine cC ?_
      refine rS ?_
      refine rR (id := 11) ?_
      refine oG (gM (evv rfl)) rfl rfl ?_
      refine oG (gA (evv rfl)) rfl rfl ?_
      refine oN ?_
      refine cC ?_
      first | refine r_ret (rs := [.tmp 4]) rfl rfl _ (Ent.refl _) ?_ | refine c_end (rs := [.tmp 4]) rfl rfl _ (Ent.refl _) ?_
      exact ⟨l, s1, rfl, by omega, by rw [hI]; simp [entsR, preE]⟩
  · refine rS ?_
    refine rR (id := 0) ?_
    refine oG (gA (evv rfl)) rfl rfl ?_
    refine oN ?_
    refine cC ?_
    refine rS ?_
    refine rR (id := 1) ?_
    refine oG (gM (evv rfl)) rfl rfl ?_
    refine oG (g_bin (evv rfl) (evv rfl) (by rfl)) rfl rfl ?_
    simp only [decide_eq_false h32]
    refine o_callP rfl _ (Ent.refl _) (must_f _ (fun _ _ => False)) rfl (fun ch L' h => pan_mis2 h Ent.drop (.inl (by omega)) rfl) (fun _ _ h => h.elim)
end VK

namespace VK
open Go Go.Proofs
set_option linter.unusedSimpArgs false
set_option linter.unusedVariables false
set_option maxRecDepth 100000
set_option maxHeartbeats 40000000
structure Pt where
  b0 : List UInt8
  s0 : Nat
  b1 : List UInt8
  s1 : Nat
  live : Nat
  armed : Nat
  down : Bool
abbrev bR (b : List UInt8) : Row := mrow by8 5 b
abbrev ptB (x : Pt) (v0 v1 : Value) : Blk := ⟨[v0, .int .i64 (x.s0 : Int), v1, .int .i64 (x.s1 : Int), .int .i64 (x.live : Int), .int .i64 (x.armed : Int), .bool x.down], 85⟩
abbrev ptX (p : Nat) (x : Pt) (vs : Value × Value) : List Atom := [blk p (ptB x vs.1 vs.2), rom [(vs.1, bR x.b0), (vs.2, bR x.b1)]]
def pt (p : Nat) (x : Pt) : Atom := exA (ptX p x)
theorem pt_shut {p : Nat} {b0 b1 : List UInt8} {s0 s1 lv am : Nat} {dn : Bool} {v0 v1 : Value} {F : List Atom} : Ent (blk p ⟨[v0, .int .i64 (s0 : Int), v1, .int .i64 (s1 : Int), .int .i64 (lv : Int), .int .i64 (am : Int), .bool dn], 85⟩ :: rom [(v0, bR b0), (v1, bR b1)] :: F) (pt p ⟨b0, s0, b1, s1, lv, am, dn⟩ :: F) := Ent.shut (X := ptX p ⟨b0, s0, b1, s1, lv, am, dn⟩) (v0, v1)
structure Pt.ok (x : Pt) : Prop where
  l : x.live = 0 ∨ x.live = 1
  a : x.s0 ≤ x.b0.length
  b : x.s1 ≤ x.b1.length
  n0 : x.b0.length ≤ 1000000000
  n1 : x.b1.length ≤ 1000000000
  ar : x.armed ≤ 9223372036854775807
def Pt.b (x : Pt) (i : Nat) : List UInt8 := if i = 0 then x.b0 else x.b1
def Pt.s (x : Pt) (i : Nat) : Nat := if i = 0 then x.s0 else x.s1
def zeroPt : Pt := ⟨[], 0, [], 0, 0, 0, false⟩
def tick (x : Pt) : Pt := { x with armed := x.armed - 1, down := decide (x.armed = 1) }
def chg (x : Pt) (call at_ : Int) : Int × Bool × Pt :=
  if call ≠ 3 ∧ at_ ≠ 0 ∧ at_ ≠ 1 then (1, false, x) else if x.down = true then (170, false, x) else
  if call = 2 ∧ at_ = x.live then (6, false, x) else if call = 3 ∧ x.s (1 - x.live) < (x.b (1 - x.live)).length then (6, false, x) else
  (if x.armed = 1 then 170 else 0, true, tick x)
theorem change_c (F : List Atom) (p : Nat) (x : Pt) (h : x.ok) (call at_ : Int) :
    Fn Try.prog 52 [.pointer (some ⟨p, 0, none⟩), .int .i64 call, .int .i64 at_] (pt p x :: F) fun v L' => v = .tuple #[.int .i64 (chg x call at_).1, .bool (chg x call at_).2.1] ∧ L' = pt p (chg x call at_).2.2 :: F := by
  refine Fn.exA fun vs => ?_
  obtain ⟨v0, v1⟩ := vs
  have ha := h.ar
  have hn0 := h.n0
  have hn1 := h.n1
  have hl := h.l
  obtain ⟨b0, s0, b1, s1, lv, am, dn⟩ := x
  dsimp only at ha hn0 hn1 hl
  dsimp only [ptX, ptB, List.cons_append, List.nil_append]
  refine fn_intro Try.func52 rfl Try.ntmps52 rfl (fun W0 => ?_)
  simp only [argE]
  refine rS ?_
  refine rR (id := 0) ?_
  refine oG (gA (evv rfl)) rfl rfl ?_
  refine oG (gA (evv rfl)) rfl rfl ?_
  refine oN ?_
  refine cC ?_
  refine rS ?_
  refine r_block ?_
  refine rS ?_
  refine rR (id := 1) ?_
  refine oG (gM (evv rfl)) rfl rfl ?_
  refine oG (g_pnil TyU.h (evv rfl) (evv rfl) (by simp) (by rfl)) rfl rfl ?_
  refine oG (gA (evv rfl)) rfl rfl ?_
  refine oN ?_
  refine cC ?_
  refine r_cond_false rfl ?_
  refine rS ?_
  refine rR (id := 3) ?_
  refine oG (gM (evv rfl)) rfl rfl ?_
  refine oG (g_bin (evv rfl) (evv rfl) (by rfl)) rfl rfl ?_
  refine oG (gM (evv rfl)) rfl rfl ?_
  refine o_lazy rfl (fun hg => gM (by first | exact evv rfl | exact evg rfl (by rw [hp]; rfl) | exact evg rfl hp | exact evg rfl hg | exact evg rfl (by first | (simp_all; done) | (simp [*]; done) | fail) | fail)) rfl rfl ?_
  refine o_lazy rfl (fun hg => g_bin (by first | exact evv rfl | exact evg rfl (by rw [hp]; rfl) | exact evg rfl hp | exact evg rfl hg | exact evg rfl (by first | (simp_all; done) | (simp [*]; done) | fail) | fail) (by first | exact evv rfl | exact evg rfl (by rw [hp]; rfl) | exact evg rfl hp | exact evg rfl hg | exact evg rfl (by first | (simp_all; done) | (simp [*]; done) | fail) | fail) (by rfl)) rfl rfl ?_
  refine oG (g_pick_and (evv rfl) (evv rfl) (fun hp => (by first | exact evv rfl | exact evg rfl (by rw [hp]; rfl) | exact evg rfl hp | exact evg rfl hg | exact evg rfl (by first | (simp_all; done) | (simp [*]; done) | fail) | fail))) rfl rfl ?_
  refine oG (gM (evv rfl)) rfl rfl ?_
  refine o_lazy rfl (fun hg => gM (by first | exact evv rfl | exact evg rfl (by rw [hp]; rfl) | exact evg rfl hp | exact evg rfl hg | exact evg rfl (by first | (simp_all; done) | (simp [*]; done) | fail) | fail)) rfl rfl ?_
  refine o_lazy rfl (fun hg => g_bin (by first | exact evv rfl | exact evg rfl (by rw [hp]; rfl) | exact evg rfl hp | exact evg rfl hg | exact evg rfl (by first | (simp_all; done) | (simp [*]; done) | fail) | fail) (by first | exact evv rfl | exact evg rfl (by rw [hp]; rfl) | exact evg rfl hp | exact evg rfl hg | exact evg rfl (by first | (simp_all; done) | (simp [*]; done) | fail) | fail) (by rfl)) rfl rfl ?_
  refine oG (g_pick_and (evv rfl) (evv rfl) (fun hp => (by first | exact evv rfl | exact evg rfl (by rw [hp]; rfl) | exact evg rfl hp | exact evg rfl hg | exact evg rfl (by first | (simp_all; done) | (simp [*]; done) | fail) | fail))) rfl rfl ?_
  refine oG (gA (evv rfl)) rfl rfl ?_
  refine oN ?_
  refine cC ?_
  refine r_cond rfl (fun c1 => ?_) (fun c1 => ?_) <;> (try simp only [decide_eq_true_eq, decide_eq_false_iff_not, Bool.and_eq_true, Bool.or_eq_true, Bool.not_eq_true', Bool.and_eq_false_iff, Bool.or_eq_false_iff, Bool.not_eq_false', Bool.not_eq_true, Bool.not_eq_false, Bool.true_eq_false, Bool.false_eq_true, Int.not_lt, Int.not_le, not_and, not_or, ne_eq] at c1)
  · simp only [chg, if_pos (show call ≠ 3 ∧ at_ ≠ 0 ∧ at_ ≠ 1 by omega)]
    refine rS ?_
    refine rR (id := 4) ?_
    refine oG (gA (evv rfl)) rfl rfl ?_
    refine oG (gA (evv rfl)) rfl rfl ?_
    refine oN ?_
    refine cC ?_
    first | refine r_ret (rs := [.tmp 6, .tmp 7]) rfl rfl _ (pt_shut) ?_ | refine c_end (rs := [.tmp 6, .tmp 7]) rfl rfl _ (pt_shut) ?_
    (refine ⟨?_, ?_⟩ <;> first | rfl | trivial | omega)
  · simp only [chg, if_neg (show ¬ (call ≠ 3 ∧ at_ ≠ 0 ∧ at_ ≠ 1) by omega)]
    refine rS ?_
    refine rR (id := 5) ?_
    refine oG (gM (evv rfl)) rfl rfl ?_
    refine oG (g_nil (evv rfl)) rfl rfl ?_
    refine oG (g_fld (evv rfl)) rfl rfl ?_
    refine oG (g_load (evv rfl) (by rfl) (by rfl)) rfl rfl ?_
    refine oG (gA (evv rfl)) rfl rfl ?_
    refine oN ?_
    refine cC ?_
    refine r_cond rfl (fun c2 => ?_) (fun c2 => ?_) <;> (try simp only [decide_eq_true_eq, decide_eq_false_iff_not, Bool.and_eq_true, Bool.or_eq_true, Bool.not_eq_true', Bool.and_eq_false_iff, Bool.or_eq_false_iff, Bool.not_eq_false', Bool.not_eq_true, Bool.not_eq_false, Bool.true_eq_false, Bool.false_eq_true, Int.not_lt, Int.not_le, not_and, not_or, ne_eq] at c2)
    · simp only [if_pos c2]
      refine rS ?_
      refine rR (id := 6) ?_
      refine oG (gA (evv rfl)) rfl rfl ?_
      refine oG (gA (evv rfl)) rfl rfl ?_
      refine oN ?_
      refine cC ?_
      first | refine r_ret (rs := [.tmp 6, .tmp 7]) rfl rfl _ (pt_shut) ?_ | refine c_end (rs := [.tmp 6, .tmp 7]) rfl rfl _ (pt_shut) ?_
      (refine ⟨?_, ?_⟩ <;> first | rfl | trivial | omega)
    · simp only [c2, Bool.false_eq_true, if_false]
      refine r_skip ?_
      refine c_blk ?_
      refine cC ?_
      refine rS ?_
      refine rS ?_
      refine rR (id := 7) ?_
      refine oG (gM (evv rfl)) rfl rfl ?_
      refine oN ?_
      refine cC ?_
      by_cases c3 : call = 2 ∧ at_ = lv
      · simp only [if_pos c3]
        obtain ⟨rfl, rfl⟩ := c3
        refine r_block ?_
        refine rS ?_
        refine r_block ?_
        refine rS ?_
        refine r_block ?_
        refine rS ?_
        refine r_block ?_
        refine rS ?_
        refine rS ?_
        refine rS ?_
        refine rR (id := 8) ?_
        refine oG (g_bin (evv rfl) (evv rfl) (by rfl)) rfl rfl ?_
        refine oG (gA (evv rfl)) rfl rfl ?_
        refine oN ?_
        refine cC ?_
        refine r_cond_true rfl ?_
        refine r_exit rfl ?_
        refine cC ?_
        refine rS ?_
        refine rS ?_
        refine rS ?_
        refine rR (id := 10) ?_
        refine oG (gM (evv rfl)) rfl rfl ?_
        refine oG (gM (evv rfl)) rfl rfl ?_
        refine oG (g_nil (evv rfl)) rfl rfl ?_
        refine oG (g_fld (evv rfl)) rfl rfl ?_
        refine oG (g_load (evv rfl) (by rfl) (by rfl)) rfl rfl ?_
        refine oG (g_bin (evv rfl) (evv rfl) (by rfl)) rfl rfl ?_
        refine oN ?_
        refine cC ?_
        refine r_cond rfl (fun c5 => ?_) (fun c5 => ?_) <;> (try simp only [decide_eq_true_eq, decide_eq_false_iff_not, Bool.and_eq_true, Bool.or_eq_true, Bool.not_eq_true', Bool.and_eq_false_iff, Bool.or_eq_false_iff, Bool.not_eq_false', Bool.not_eq_true, Bool.not_eq_false, Bool.true_eq_false, Bool.false_eq_true, Int.not_lt, Int.not_le, not_and, not_or, ne_eq] at c5)
        · exact absurd trivial c5
        · refine r_skip ?_
          refine cC ?_
          refine rS ?_
          refine rR (id := 11) ?_
          refine oG (gA (evv rfl)) rfl rfl ?_
          refine oG (gA (evv rfl)) rfl rfl ?_
          refine oN ?_
          refine cC ?_
          first | refine r_ret (rs := [.tmp 6, .tmp 7]) rfl rfl _ (pt_shut) ?_ | refine c_end (rs := [.tmp 6, .tmp 7]) rfl rfl _ (pt_shut) ?_
          (refine ⟨?_, ?_⟩ <;> first | rfl | trivial | omega)
      · simp only [if_neg c3]
        by_cases c4 : call = 3 ∧ (⟨b0, s0, b1, s1, lv, am, false⟩ : Pt).s (1 - lv) < ((⟨b0, s0, b1, s1, lv, am, false⟩ : Pt).b (1 - lv)).length
        · simp only [if_pos c4]
          obtain ⟨rfl, c4⟩ := c4
          rcases hl with rfl | rfl <;> simp [Pt.s, Pt.b] at c4
          · refine r_block ?_
            refine rS ?_
            refine r_block ?_
            refine rS ?_
            refine r_block ?_
            refine rS ?_
            refine r_block ?_
            refine rS ?_
            refine rS ?_
            refine rS ?_
            refine rR (id := 8) ?_
            refine oG (g_bin (evv rfl) (evv rfl) (by rfl)) rfl rfl ?_
            refine oG (gA (evv rfl)) rfl rfl ?_
            refine oN ?_
            refine cC ?_
            refine r_cond_false rfl ?_
            refine r_skip ?_
            refine cC ?_
            refine rS ?_
            refine rR (id := 9) ?_
            refine oG (g_bin (evv rfl) (evv rfl) (by rfl)) rfl rfl ?_
            refine oG (gA (evv rfl)) rfl rfl ?_
            refine oN ?_
            refine cC ?_
            refine r_cond_true rfl ?_
            refine r_exit rfl ?_
            refine cC ?_
            refine rS ?_
            repeat (first | refine rS ?_ | refine cC ?_ | refine c_blk ?_ | refine r_block ?_ | refine r_skip ?_)
            refine r_held (id := 12) [blk p ⟨[v0, .int .i64 (s0 : Int), v1, .int .i64 (s1 : Int), .int .i64 ((0 : Nat) : Int), .int .i64 (am : Int), .bool false], 85⟩] Mixed.h ?_
            refine h_give (i := 0) (by kernel_rfl) rfl (gM (evv rfl)) rfl rfl ?_
            refine h_give (i := 1) (by kernel_rfl) rfl (gM (evv rfl)) rfl rfl ?_
            refine h_give (i := 2) (by kernel_rfl) rfl (g_nil (evv rfl)) rfl rfl ?_
            refine h_give (i := 3) (by kernel_rfl) rfl (g_fld (evv rfl)) rfl rfl ?_
            refine h_give (i := 4) (by kernel_rfl) rfl (g_load (evv rfl) (by rfl) (by rfl)) rfl rfl ?_
            refine h_giveN (i := 5) (by kernel_rfl) rfl (g_bin (evv rfl) (evv rfl) (by rfl)) (by simp only [inR]; omega) rfl ?_
            refine h_give (i := 6) (by kernel_rfl) rfl (g_nil (evv rfl)) rfl rfl ?_
            refine h_give (i := 7) (by kernel_rfl) rfl (g_fld (evv rfl)) rfl rfl ?_
            refine h_give (i := 8) (by kernel_rfl) rfl (g_idxA (evv rfl) (evv rfl) (by omega) (by omega)) rfl rfl ?_
            refine h_give (i := 9) (by kernel_rfl) rfl (g_loadF (evv rfl) (by rfl) (by rfl)) rfl rfl ?_
            refine h_one (i := 10) (by kernel_rfl) rfl (Lay.ent) ?_
            refine o_alloc rfl rfl (fun _ => ?_)
            refine oN ?_
            refine h_one (i := 11) (by kernel_rfl) rfl (Lay.ent) ?_
            refine o_storeW (evv rfl) (evv rfl) (by first | rfl | assumption | exact LenC.h _ | (simp [bys, *]; done) | fail) (by first | (intro _ _ _; exact bys_one _) | exact AllOne.h | (intro _ _ _ u hu; simp at hu; rcases hu with rfl | rfl | rfl | rfl | rfl | rfl | rfl | rfl <;> rfl) | fail) (by first | rfl | exact (LenC.h _).trans rfl | exact (LenC.h _).trans (LenC.h _).symm | (simp [bys, *]; done) | (simp only [bys, List.length_map, *]; rfl) | fail) ?_
            refine oN ?_
            refine h_done (by kernel_rfl) (Lay.ent) ?_
            refine cC ?_
            refine rS ?_
            refine rR (id := 13) ?_
            refine oG (g_fld (evv rfl)) rfl rfl ?_
            refine oG (g_load (evv rfl) (by rfl) (by rfl)) rfl rfl ?_
            refine oG (g_fld (evv rfl)) rfl rfl ?_
            refine oG (g_load (evv rfl) (by rfl) (by rfl)) rfl rfl ?_
            refine oG (g_lenM (evv rfl)) rfl rfl ?_
            refine oG (g_bin (evv rfl) (evv rfl) (by rfl)) rfl rfl ?_
            refine oN ?_
            refine cC ?_
            refine r_cond rfl (fun c5 => ?_) (fun c5 => ?_) <;> (try simp only [decide_eq_true_eq, decide_eq_false_iff_not, Bool.and_eq_true, Bool.or_eq_true, Bool.not_eq_true', Bool.and_eq_false_iff, Bool.or_eq_false_iff, Bool.not_eq_false', Bool.not_eq_true, Bool.not_eq_false, Bool.true_eq_false, Bool.false_eq_true, Int.not_lt, Int.not_le, not_and, not_or, ne_eq] at c5)
            · refine rS ?_
              refine rR (id := 14) ?_
              refine oG (gA (evv rfl)) rfl rfl ?_
              refine oG (gA (evv rfl)) rfl rfl ?_
              refine oN ?_
              refine cC ?_
              first | refine r_ret (rs := [.tmp 6, .tmp 7]) rfl rfl _ (Ent.drop.trans pt_shut) ?_ | refine c_end (rs := [.tmp 6, .tmp 7]) rfl rfl _ (Ent.drop.trans pt_shut) ?_
              (refine ⟨?_, ?_⟩ <;> first | rfl | trivial | omega)
            · exfalso; omega
          · refine r_block ?_
            refine rS ?_
            refine r_block ?_
            refine rS ?_
            refine r_block ?_
            refine rS ?_
            refine r_block ?_
            refine rS ?_
            refine rS ?_
            refine rS ?_
            refine rR (id := 8) ?_
            refine oG (g_bin (evv rfl) (evv rfl) (by rfl)) rfl rfl ?_
            refine oG (gA (evv rfl)) rfl rfl ?_
            refine oN ?_
            refine cC ?_
            refine r_cond_false rfl ?_
            refine r_skip ?_
            refine cC ?_
            refine rS ?_
            refine rR (id := 9) ?_
            refine oG (g_bin (evv rfl) (evv rfl) (by rfl)) rfl rfl ?_
            refine oG (gA (evv rfl)) rfl rfl ?_
            refine oN ?_
            refine cC ?_
            refine r_cond_true rfl ?_
            refine r_exit rfl ?_
            refine cC ?_
            refine rS ?_
            repeat (first | refine rS ?_ | refine cC ?_ | refine c_blk ?_ | refine r_block ?_ | refine r_skip ?_)
            refine r_held (id := 12) [blk p ⟨[v0, .int .i64 (s0 : Int), v1, .int .i64 (s1 : Int), .int .i64 ((1 : Nat) : Int), .int .i64 (am : Int), .bool false], 85⟩] Mixed.h ?_
            refine h_give (i := 0) (by kernel_rfl) rfl (gM (evv rfl)) rfl rfl ?_
            refine h_give (i := 1) (by kernel_rfl) rfl (gM (evv rfl)) rfl rfl ?_
            refine h_give (i := 2) (by kernel_rfl) rfl (g_nil (evv rfl)) rfl rfl ?_
            refine h_give (i := 3) (by kernel_rfl) rfl (g_fld (evv rfl)) rfl rfl ?_
            refine h_give (i := 4) (by kernel_rfl) rfl (g_load (evv rfl) (by rfl) (by rfl)) rfl rfl ?_
            refine h_giveN (i := 5) (by kernel_rfl) rfl (g_bin (evv rfl) (evv rfl) (by rfl)) (by simp only [inR]; omega) rfl ?_
            refine h_give (i := 6) (by kernel_rfl) rfl (g_nil (evv rfl)) rfl rfl ?_
            refine h_give (i := 7) (by kernel_rfl) rfl (g_fld (evv rfl)) rfl rfl ?_
            refine h_give (i := 8) (by kernel_rfl) rfl (g_idxA (evv rfl) (evv rfl) (by omega) (by omega)) rfl rfl ?_
            refine h_give (i := 9) (by kernel_rfl) rfl (g_loadF (evv rfl) (by rfl) (by rfl)) rfl rfl ?_
            refine h_one (i := 10) (by kernel_rfl) rfl (Lay.ent) ?_
            refine o_alloc rfl rfl (fun _ => ?_)
            refine oN ?_
            refine h_one (i := 11) (by kernel_rfl) rfl (Lay.ent) ?_
            refine o_storeW (evv rfl) (evv rfl) (by first | rfl | assumption | exact LenC.h _ | (simp [bys, *]; done) | fail) (by first | (intro _ _ _; exact bys_one _) | exact AllOne.h | (intro _ _ _ u hu; simp at hu; rcases hu with rfl | rfl | rfl | rfl | rfl | rfl | rfl | rfl <;> rfl) | fail) (by first | rfl | exact (LenC.h _).trans rfl | exact (LenC.h _).trans (LenC.h _).symm | (simp [bys, *]; done) | (simp only [bys, List.length_map, *]; rfl) | fail) ?_
            refine oN ?_
            refine h_done (by kernel_rfl) (Lay.ent) ?_
            refine cC ?_
            refine rS ?_
            refine rR (id := 13) ?_
            refine oG (g_fld (evv rfl)) rfl rfl ?_
            refine oG (g_load (evv rfl) (by rfl) (by rfl)) rfl rfl ?_
            refine oG (g_fld (evv rfl)) rfl rfl ?_
            refine oG (g_load (evv rfl) (by rfl) (by rfl)) rfl rfl ?_
            refine oG (g_lenM (evv rfl)) rfl rfl ?_
            refine oG (g_bin (evv rfl) (evv rfl) (by rfl)) rfl rfl ?_
            refine oN ?_
            refine cC ?_
            refine r_cond rfl (fun c5 => ?_) (fun c5 => ?_) <;> (try simp only [decide_eq_true_eq, decide_eq_false_iff_not, Bool.and_eq_true, Bool.or_eq_true, Bool.not_eq_true', Bool.and_eq_false_iff, Bool.or_eq_false_iff, Bool.not_eq_false', Bool.not_eq_true, Bool.not_eq_false, Bool.true_eq_false, Bool.false_eq_true, Int.not_lt, Int.not_le, not_and, not_or, ne_eq] at c5)
            · refine rS ?_
              refine rR (id := 14) ?_
              refine oG (gA (evv rfl)) rfl rfl ?_
              refine oG (gA (evv rfl)) rfl rfl ?_
              refine oN ?_
              refine cC ?_
              first | refine r_ret (rs := [.tmp 6, .tmp 7]) rfl rfl _ (Ent.drop.trans pt_shut) ?_ | refine c_end (rs := [.tmp 6, .tmp 7]) rfl rfl _ (Ent.drop.trans pt_shut) ?_
              (refine ⟨?_, ?_⟩ <;> first | rfl | trivial | omega)
            · exfalso; omega
        · simp only [if_neg c4]
          repeat (first | refine rS ?_ | refine cC ?_ | refine c_blk ?_ | refine r_skip ?_)
          refine r_cutE (σ := Unit) (fun u => []) [0] (fun u => blk p ⟨[v0, .int .i64 (s0 : Int), v1, .int .i64 (s1 : Int), .int .i64 (lv : Int), .int .i64 (am : Int), .bool false], 85⟩ :: rom [(v0, bR b0), (v1, bR b1)] :: F) (by dsimp only [pickE, pick1, lk2, Nat.reduceBEq, Nat.reduceAdd, Nat.zero_add, cond_true, cond_false] <;> exact rfl) ?_ ?_
          · by_cases c6 : call = 3
            · subst c6
              rcases hl with rfl | rfl <;> simp [Pt.s, Pt.b] at c4
              · refine r_block ?_
                refine rS ?_
                refine r_block ?_
                refine rS ?_
                refine r_block ?_
                refine rS ?_
                refine r_block ?_
                refine rS ?_
                refine rS ?_
                refine rS ?_
                refine rR (id := 8) ?_
                refine oG (g_bin (evv rfl) (evv rfl) (by rfl)) rfl rfl ?_
                refine oG (gA (evv rfl)) rfl rfl ?_
                refine oN ?_
                refine cC ?_
                refine r_cond_false rfl ?_
                refine r_skip ?_
                refine cC ?_
                refine rS ?_
                refine rR (id := 9) ?_
                refine oG (g_bin (evv rfl) (evv rfl) (by rfl)) rfl rfl ?_
                refine oG (gA (evv rfl)) rfl rfl ?_
                refine oN ?_
                refine cC ?_
                refine r_cond_true rfl ?_
                refine r_exit rfl ?_
                refine cC ?_
                refine rS ?_
                repeat (first | refine rS ?_ | refine cC ?_ | refine c_blk ?_ | refine r_block ?_ | refine r_skip ?_)
                refine r_held (id := 12) [blk p ⟨[v0, .int .i64 (s0 : Int), v1, .int .i64 (s1 : Int), .int .i64 ((0 : Nat) : Int), .int .i64 (am : Int), .bool false], 85⟩] Mixed.h ?_
                refine h_give (i := 0) (by kernel_rfl) rfl (gM (evv rfl)) rfl rfl ?_
                refine h_give (i := 1) (by kernel_rfl) rfl (gM (evv rfl)) rfl rfl ?_
                refine h_give (i := 2) (by kernel_rfl) rfl (g_nil (evv rfl)) rfl rfl ?_
                refine h_give (i := 3) (by kernel_rfl) rfl (g_fld (evv rfl)) rfl rfl ?_
                refine h_give (i := 4) (by kernel_rfl) rfl (g_load (evv rfl) (by rfl) (by rfl)) rfl rfl ?_
                refine h_giveN (i := 5) (by kernel_rfl) rfl (g_bin (evv rfl) (evv rfl) (by rfl)) (by simp only [inR]; omega) rfl ?_
                refine h_give (i := 6) (by kernel_rfl) rfl (g_nil (evv rfl)) rfl rfl ?_
                refine h_give (i := 7) (by kernel_rfl) rfl (g_fld (evv rfl)) rfl rfl ?_
                refine h_give (i := 8) (by kernel_rfl) rfl (g_idxA (evv rfl) (evv rfl) (by omega) (by omega)) rfl rfl ?_
                refine h_give (i := 9) (by kernel_rfl) rfl (g_loadF (evv rfl) (by rfl) (by rfl)) rfl rfl ?_
                refine h_one (i := 10) (by kernel_rfl) rfl (Lay.ent) ?_
                refine o_alloc rfl rfl (fun _ => ?_)
                refine oN ?_
                refine h_one (i := 11) (by kernel_rfl) rfl (Lay.ent) ?_
                refine o_storeW (evv rfl) (evv rfl) (by first | rfl | assumption | exact LenC.h _ | (simp [bys, *]; done) | fail) (by first | (intro _ _ _; exact bys_one _) | exact AllOne.h | (intro _ _ _ u hu; simp at hu; rcases hu with rfl | rfl | rfl | rfl | rfl | rfl | rfl | rfl <;> rfl) | fail) (by first | rfl | exact (LenC.h _).trans rfl | exact (LenC.h _).trans (LenC.h _).symm | (simp [bys, *]; done) | (simp only [bys, List.length_map, *]; rfl) | fail) ?_
                refine oN ?_
                refine h_done (by kernel_rfl) (Lay.ent) ?_
                refine cC ?_
                refine rS ?_
                refine rR (id := 13) ?_
                refine oG (g_fld (evv rfl)) rfl rfl ?_
                refine oG (g_load (evv rfl) (by rfl) (by rfl)) rfl rfl ?_
                refine oG (g_fld (evv rfl)) rfl rfl ?_
                refine oG (g_load (evv rfl) (by rfl) (by rfl)) rfl rfl ?_
                refine oG (g_lenM (evv rfl)) rfl rfl ?_
                refine oG (g_bin (evv rfl) (evv rfl) (by rfl)) rfl rfl ?_
                refine oN ?_
                refine cC ?_
                refine r_cond rfl (fun c5 => ?_) (fun c5 => ?_) <;> (try simp only [decide_eq_true_eq, decide_eq_false_iff_not, Bool.and_eq_true, Bool.or_eq_true, Bool.not_eq_true', Bool.and_eq_false_iff, Bool.or_eq_false_iff, Bool.not_eq_false', Bool.not_eq_true, Bool.not_eq_false, Bool.true_eq_false, Bool.false_eq_true, Int.not_lt, Int.not_le, not_and, not_or, ne_eq] at c5)
                · exfalso; omega
                · refine r_skip ?_
                  refine c_blk ?_
                  refine cC ?_
                  refine r_exit rfl ?_
                  exact c_cut () (by repeat (first | exact trivial | refine ⟨rfl, ?_⟩ | refine envsub_v rfl (by first | rfl | (refine int_eq ?_; first | omega | (simp; omega) | (simp; done)) | (refine bool_eq ?_; first | (simp [*]; done) | (simp; done)) | (refine str_eq ?_; simp; done) | (refine ptr_eq ?_; omega) | fail) ?_)) (Lay.ent)
              · refine r_block ?_
                refine rS ?_
                refine r_block ?_
                refine rS ?_
                refine r_block ?_
                refine rS ?_
                refine r_block ?_
                refine rS ?_
                refine rS ?_
                refine rS ?_
                refine rR (id := 8) ?_
                refine oG (g_bin (evv rfl) (evv rfl) (by rfl)) rfl rfl ?_
                refine oG (gA (evv rfl)) rfl rfl ?_
                refine oN ?_
                refine cC ?_
                refine r_cond_false rfl ?_
                refine r_skip ?_
                refine cC ?_
                refine rS ?_
                refine rR (id := 9) ?_
                refine oG (g_bin (evv rfl) (evv rfl) (by rfl)) rfl rfl ?_
                refine oG (gA (evv rfl)) rfl rfl ?_
                refine oN ?_
                refine cC ?_
                refine r_cond_true rfl ?_
                refine r_exit rfl ?_
                refine cC ?_
                refine rS ?_
                repeat (first | refine rS ?_ | refine cC ?_ | refine c_blk ?_ | refine r_block ?_ | refine r_skip ?_)
                refine r_held (id := 12) [blk p ⟨[v0, .int .i64 (s0 : Int), v1, .int .i64 (s1 : Int), .int .i64 ((1 : Nat) : Int), .int .i64 (am : Int), .bool false], 85⟩] Mixed.h ?_
                refine h_give (i := 0) (by kernel_rfl) rfl (gM (evv rfl)) rfl rfl ?_
                refine h_give (i := 1) (by kernel_rfl) rfl (gM (evv rfl)) rfl rfl ?_
                refine h_give (i := 2) (by kernel_rfl) rfl (g_nil (evv rfl)) rfl rfl ?_
                refine h_give (i := 3) (by kernel_rfl) rfl (g_fld (evv rfl)) rfl rfl ?_
                refine h_give (i := 4) (by kernel_rfl) rfl (g_load (evv rfl) (by rfl) (by rfl)) rfl rfl ?_
                refine h_giveN (i := 5) (by kernel_rfl) rfl (g_bin (evv rfl) (evv rfl) (by rfl)) (by simp only [inR]; omega) rfl ?_
                refine h_give (i := 6) (by kernel_rfl) rfl (g_nil (evv rfl)) rfl rfl ?_
                refine h_give (i := 7) (by kernel_rfl) rfl (g_fld (evv rfl)) rfl rfl ?_
                refine h_give (i := 8) (by kernel_rfl) rfl (g_idxA (evv rfl) (evv rfl) (by omega) (by omega)) rfl rfl ?_
                refine h_give (i := 9) (by kernel_rfl) rfl (g_loadF (evv rfl) (by rfl) (by rfl)) rfl rfl ?_
                refine h_one (i := 10) (by kernel_rfl) rfl (Lay.ent) ?_
                refine o_alloc rfl rfl (fun _ => ?_)
                refine oN ?_
                refine h_one (i := 11) (by kernel_rfl) rfl (Lay.ent) ?_
                refine o_storeW (evv rfl) (evv rfl) (by first | rfl | assumption | exact LenC.h _ | (simp [bys, *]; done) | fail) (by first | (intro _ _ _; exact bys_one _) | exact AllOne.h | (intro _ _ _ u hu; simp at hu; rcases hu with rfl | rfl | rfl | rfl | rfl | rfl | rfl | rfl <;> rfl) | fail) (by first | rfl | exact (LenC.h _).trans rfl | exact (LenC.h _).trans (LenC.h _).symm | (simp [bys, *]; done) | (simp only [bys, List.length_map, *]; rfl) | fail) ?_
                refine oN ?_
                refine h_done (by kernel_rfl) (Lay.ent) ?_
                refine cC ?_
                refine rS ?_
                refine rR (id := 13) ?_
                refine oG (g_fld (evv rfl)) rfl rfl ?_
                refine oG (g_load (evv rfl) (by rfl) (by rfl)) rfl rfl ?_
                refine oG (g_fld (evv rfl)) rfl rfl ?_
                refine oG (g_load (evv rfl) (by rfl) (by rfl)) rfl rfl ?_
                refine oG (g_lenM (evv rfl)) rfl rfl ?_
                refine oG (g_bin (evv rfl) (evv rfl) (by rfl)) rfl rfl ?_
                refine oN ?_
                refine cC ?_
                refine r_cond rfl (fun c5 => ?_) (fun c5 => ?_) <;> (try simp only [decide_eq_true_eq, decide_eq_false_iff_not, Bool.and_eq_true, Bool.or_eq_true, Bool.not_eq_true', Bool.and_eq_false_iff, Bool.or_eq_false_iff, Bool.not_eq_false', Bool.not_eq_true, Bool.not_eq_false, Bool.true_eq_false, Bool.false_eq_true, Int.not_lt, Int.not_le, not_and, not_or, ne_eq] at c5)
                · exfalso; omega
                · refine r_skip ?_
                  refine c_blk ?_
                  refine cC ?_
                  refine r_exit rfl ?_
                  exact c_cut () (by repeat (first | exact trivial | refine ⟨rfl, ?_⟩ | refine envsub_v rfl (by first | rfl | (refine int_eq ?_; first | omega | (simp; omega) | (simp; done)) | (refine bool_eq ?_; first | (simp [*]; done) | (simp; done)) | (refine str_eq ?_; simp; done) | (refine ptr_eq ?_; omega) | fail) ?_)) (Lay.ent)
            · refine r_block ?_
              refine rS ?_
              refine r_block ?_
              refine rS ?_
              refine r_block ?_
              refine rS ?_
              refine r_block ?_
              refine rS ?_
              refine rS ?_
              refine rS ?_
              refine rR (id := 8) ?_
              refine oG (g_bin (evv rfl) (evv rfl) (by rfl)) rfl rfl ?_
              refine oG (gA (evv rfl)) rfl rfl ?_
              refine oN ?_
              refine cC ?_
              refine r_cond rfl (fun c7 => ?_) (fun c7 => ?_) <;> (try simp only [decide_eq_true_eq, decide_eq_false_iff_not, Bool.and_eq_true, Bool.or_eq_true, Bool.not_eq_true', Bool.and_eq_false_iff, Bool.or_eq_false_iff, Bool.not_eq_false', Bool.not_eq_true, Bool.not_eq_false, Bool.true_eq_false, Bool.false_eq_true, Int.not_lt, Int.not_le, not_and, not_or, ne_eq] at c7)
              · refine r_exit rfl ?_
                refine cC ?_
                refine rS ?_
                refine rS ?_
                refine rS ?_
                refine rR (id := 10) ?_
                refine oG (gM (evv rfl)) rfl rfl ?_
                refine oG (gM (evv rfl)) rfl rfl ?_
                refine oG (g_nil (evv rfl)) rfl rfl ?_
                refine oG (g_fld (evv rfl)) rfl rfl ?_
                refine oG (g_load (evv rfl) (by rfl) (by rfl)) rfl rfl ?_
                refine oG (g_bin (evv rfl) (evv rfl) (by rfl)) rfl rfl ?_
                refine oN ?_
                refine cC ?_
                refine r_cond rfl (fun c8 => ?_) (fun c8 => ?_) <;> (try simp only [decide_eq_true_eq, decide_eq_false_iff_not, Bool.and_eq_true, Bool.or_eq_true, Bool.not_eq_true', Bool.and_eq_false_iff, Bool.or_eq_false_iff, Bool.not_eq_false', Bool.not_eq_true, Bool.not_eq_false, Bool.true_eq_false, Bool.false_eq_true, Int.not_lt, Int.not_le, not_and, not_or, ne_eq] at c8)
                · refine r_exit rfl ?_
                  exact c_cut () (by repeat (first | exact trivial | refine ⟨rfl, ?_⟩ | refine envsub_v rfl (by first | rfl | (refine int_eq ?_; first | omega | (simp; omega) | (simp; done)) | (refine bool_eq ?_; first | (simp [*]; done) | (simp; done)) | (refine str_eq ?_; simp; done) | (refine ptr_eq ?_; omega) | fail) ?_)) (Lay.ent)
                · exfalso; omega
              · refine r_skip ?_
                refine cC ?_
                refine rS ?_
                refine rR (id := 9) ?_
                refine oG (g_bin (evv rfl) (evv rfl) (by rfl)) rfl rfl ?_
                refine oG (gA (evv rfl)) rfl rfl ?_
                refine oN ?_
                refine cC ?_
                refine r_cond rfl (fun c8 => ?_) (fun c8 => ?_) <;> (try simp only [decide_eq_true_eq, decide_eq_false_iff_not, Bool.and_eq_true, Bool.or_eq_true, Bool.not_eq_true', Bool.and_eq_false_iff, Bool.or_eq_false_iff, Bool.not_eq_false', Bool.not_eq_true, Bool.not_eq_false, Bool.true_eq_false, Bool.false_eq_true, Int.not_lt, Int.not_le, not_and, not_or, ne_eq] at c8)
                · exact absurd c8 c6
                · refine r_skip ?_
                  refine cC ?_
                  refine r_exit rfl ?_
                  refine cC ?_
                  refine r_exit rfl ?_
                  exact c_cut () (by repeat (first | exact trivial | refine ⟨rfl, ?_⟩ | refine envsub_v rfl (by first | rfl | (refine int_eq ?_; first | omega | (simp; omega) | (simp; done)) | (refine bool_eq ?_; first | (simp [*]; done) | (simp; done)) | (refine str_eq ?_; simp; done) | (refine ptr_eq ?_; omega) | fail) ?_)) (Lay.ent)
          intro u
          dsimp only [List.cons_append, List.nil_append]
          have e1 : max ((am : Int) - 1) 0 = ((am - 1 : Nat) : Int) := by omega
          have e2 : decide ((am : Int) - 1 = 0) = decide (am = 1) := by rw [decide_eq_decide]; omega
          refine cC ?_
          refine rS ?_
          refine rR (id := 15) ?_
          refine oG (gM (evv rfl)) rfl rfl ?_
          refine oG (g_nil (evv rfl)) rfl rfl ?_
          refine oG (g_fld (evv rfl)) rfl rfl ?_
          refine oG (g_load (evv rfl) (by rfl) (by rfl)) rfl rfl ?_
          refine o_giveN (g_bin (evv rfl) (evv rfl) (by rfl)) (by simp only [inR]; omega) rfl ?_
          refine oG (g_nil (evv rfl)) rfl rfl ?_
          refine oG (g_fld (evv rfl)) rfl rfl ?_
          refine o_store1 (evv rfl) (evv rfl) (by rfl) (by rfl) (by rfl) ?_
          refine oN ?_
          refine cC ?_
          refine rS ?_
          refine rR (id := 16) ?_
          refine oG (gM (evv rfl)) rfl rfl ?_
          refine oG (gM (evv rfl)) rfl rfl ?_
          refine oG (g_nil (evv rfl)) rfl rfl ?_
          refine oG (g_fld (evv rfl)) rfl rfl ?_
          refine oG (g_load (evv rfl) (by rfl) (by rfl)) rfl rfl ?_
          refine oG (g_bin (evv rfl) (evv rfl) (by rfl)) rfl rfl ?_
          refine oG (g_nil (evv rfl)) rfl rfl ?_
          refine oG (g_fld (evv rfl)) rfl rfl ?_
          refine o_store1 (evv rfl) (evv rfl) (by rfl) (by rfl) (by rfl) ?_
          refine oN ?_
          refine cC ?_
          refine rS ?_
          refine rR (id := 17) ?_
          refine oG (gM (evv rfl)) rfl rfl ?_
          refine oG (gM (evv rfl)) rfl rfl ?_
          refine oG (g_nil (evv rfl)) rfl rfl ?_
          refine oG (g_fld (evv rfl)) rfl rfl ?_
          refine oG (g_load (evv rfl) (by rfl) (by rfl)) rfl rfl ?_
          refine oG (g_max2 (evv rfl) (evv rfl)) rfl rfl ?_
          refine oG (g_nil (evv rfl)) rfl rfl ?_
          refine oG (g_fld (evv rfl)) rfl rfl ?_
          refine o_store1 (evv rfl) (evv rfl) (by rfl) (by rfl) (by rfl) ?_
          refine oN ?_
          refine cC ?_
          refine rS ?_
          refine rS ?_
          refine rR (id := 18) ?_
          refine oG (gM (evv rfl)) rfl rfl ?_
          refine oG (g_nil (evv rfl)) rfl rfl ?_
          refine oG (g_fld (evv rfl)) rfl rfl ?_
          refine oG (g_load (evv rfl) (by rfl) (by rfl)) rfl rfl ?_
          refine oN ?_
          refine cC ?_
          rw [e1, e2]
          refine r_cond rfl (fun c9 => ?_) (fun c9 => ?_) <;> (try simp only [decide_eq_true_eq, decide_eq_false_iff_not, Bool.and_eq_true, Bool.or_eq_true, Bool.not_eq_true', Bool.and_eq_false_iff, Bool.or_eq_false_iff, Bool.not_eq_false', Bool.not_eq_true, Bool.not_eq_false, Bool.true_eq_false, Bool.false_eq_true, Int.not_lt, Int.not_le, not_and, not_or, ne_eq] at c9)
          · have e3 : (if am = 1 then (170 : Int) else 0) = 170 := if_pos c9
            simp only [tick, e3]
            refine rS ?_
            refine rR (id := 19) ?_
            refine oG (gA (evv rfl)) rfl rfl ?_
            refine oG (gA (evv rfl)) rfl rfl ?_
            refine oN ?_
            refine cC ?_
            first | refine r_ret (rs := [.tmp 6, .tmp 7]) rfl rfl _ (pt_shut) ?_ | refine c_end (rs := [.tmp 6, .tmp 7]) rfl rfl _ (pt_shut) ?_
            (refine ⟨?_, ?_⟩ <;> first | rfl | trivial | omega)
          · have e3 : (if am = 1 then (170 : Int) else 0) = 0 := if_neg c9
            simp only [tick, e3]
            refine r_skip ?_
            refine cC ?_
            refine rS ?_
            refine rR (id := 20) ?_
            refine oG (gA (evv rfl)) rfl rfl ?_
            refine oG (gA (evv rfl)) rfl rfl ?_
            refine oN ?_
            refine cC ?_
            first | refine r_ret (rs := [.tmp 6, .tmp 7]) rfl rfl _ (pt_shut) ?_ | refine c_end (rs := [.tmp 6, .tmp 7]) rfl rfl _ (pt_shut) ?_
            (refine ⟨?_, ?_⟩ <;> first | rfl | trivial | omega)
theorem chg_ok {x : Pt} (h : x.ok) (call at_ : Int) : (chg x call at_).2.2.ok := by
  obtain ⟨h1, h2, h3, h4, h5, h6⟩ := h
  have hx : x.ok := ⟨h1, h2, h3, h4, h5, h6⟩
  unfold chg
  split
  · exact hx
  · split
    · exact hx
    · split
      · exact hx
      · split
        · exact hx
        · exact ⟨h1, h2, h3, h4, h5, by simp only [tick]; omega⟩
theorem romSubM {l l' : List (Value × Row)} {L : List Atom} (k : ∀ x, x ∈ l' → x ∈ l) : Ent (rom l :: L) (rom l' :: L) := Ent.romSub fun h q => by
  unfold rom at *
  exact fun x hx => q x (k x hx)
theorem Ent.romNilIn {l : List (Value × Row)} {L : List Atom} : Ent (rom l :: L) (rom ((.slice none 0 0, bR []) :: l) :: L) := (Ent.nilsl 5 1).trans Ent.romIn
theorem Clip_c (L : List Atom) (v : Value) (l : List UInt8) [rd : Rd L v (bR l)] :
    Fn Try.prog 55 [v] L fun w L' => w = clipV v ∧ L' = L := by
  refine fn_intro Try.func55 rfl Try.ntmps55 rfl (fun W0 => ?_)
  simp only [argE]
  refine rS ?_
  refine rR (id := 0) ?_
  refine oG (gA (evv rfl)) rfl rfl ?_
  refine oN ?_
  refine cC ?_
  refine rS ?_
  refine rR (id := 1) ?_
  refine oG (gM (evv rfl)) rfl rfl ?_
  refine oG (gM (evv rfl)) rfl rfl ?_
  refine oG (g_lenM (evv rfl)) rfl rfl ?_
  refine oG (gM (evv rfl)) rfl rfl ?_
  refine oG (g_lenM (evv rfl)) rfl rfl ?_
  refine oG (g_clip (evv rfl) (evv rfl) (evv rfl)) rfl rfl ?_
  refine oG (gA (evv rfl)) rfl rfl ?_
  refine oN ?_
  refine cC ?_
  first | refine r_ret (rs := [.tmp 2]) rfl rfl _ (Ent.refl _) ?_ | refine c_end (rs := [.tmp 2]) rfl rfl _ (Ent.refl _) ?_
  (refine ⟨?_, ?_⟩ <;> first | rfl | trivial | omega)
theorem Clone_c (L : List Atom) (v : Value) (l : List UInt8) [rd : Rd L v (bR l)] (hl : l.length ≤ 1000000000) :
    Fn Try.prog 64 [v] L fun w L' => True ∧ L' = sl w (bR l) :: L := by
  refine fn_intro Try.func64 rfl Try.ntmps64 rfl (fun W0 => ?_)
  simp only [argE]
  refine rS ?_
  refine rR (id := 0) ?_
  refine oG (gA (evv rfl)) rfl rfl ?_
  refine oN ?_
  refine cC ?_
  refine rS ?_
  refine rS ?_
  refine rR (id := 1) ?_
  refine oG (gM (evv rfl)) rfl rfl ?_
  refine oG (g_snil (evv rfl) (evv rfl) (by rfl)) rfl rfl ?_
  refine oN ?_
  refine cC ?_
  refine r_cond rfl (fun h => ?_) (fun h => ?_) <;> (try simp only [decide_eq_true_eq, decide_eq_false_iff_not, Bool.and_eq_true, Bool.or_eq_true, Bool.not_eq_true', Bool.and_eq_false_iff, Bool.or_eq_false_iff, Bool.not_eq_false', Bool.not_eq_true, Bool.not_eq_false, Bool.true_eq_false, Bool.false_eq_true, Int.not_lt, Int.not_le, not_and, not_or, ne_eq] at h)
  · refine r_isnil rd h fun hl0 => ?_
    subst hl0
    refine rS ?_
    refine rR (id := 2) ?_
    refine oG (gA (evv rfl)) rfl rfl ?_
    refine oN ?_
    refine cC ?_
    first | refine r_ret (rs := [.tmp 2]) rfl rfl _ (Ent.nilsl 5 1) ?_ | refine c_end (rs := [.tmp 2]) rfl rfl _ (Ent.nilsl 5 1) ?_
    (refine ⟨?_, ?_⟩ <;> first | rfl | trivial | omega)
  · refine r_skip ?_
    refine cC ?_
    refine rS ?_
    refine rR (id := 3) ?_
    refine o_lit0 by8 (by rfl) rfl (fun _ => ?_)
    refine oG (gM (evv rfl)) rfl rfl ?_
    refine o_appM (evv rfl) (evv rfl) (by rfl) (by rfl) (by rfl) (by (try simp only [bsOf, List.length_append, List.length_cons, List.length_nil, List.length_take, List.length_drop, List.length_map, List.length_range]); omega) rfl (fun _ => ?_)
    refine oG (gA (evv rfl)) rfl rfl ?_
    refine oN ?_
    refine cC ?_
    first | refine r_ret (rs := [.tmp 2]) rfl rfl _ (Ent.refl _) ?_ | refine c_end (rs := [.tmp 2]) rfl rfl _ (Ent.refl _) ?_
    (refine ⟨?_, ?_⟩ <;> first | rfl | trivial | omega)
def Pt.setB (x : Pt) (i : Int) (b : List UInt8) : Pt := if i = 0 then { x with b0 := b } else { x with b1 := b }
def Pt.setS (x : Pt) (i : Int) (s : Nat) : Pt := if i = 0 then { x with s0 := s } else { x with s1 := s }
def appT (x : Pt) (i : Int) (m : List UInt8) : Int × Pt := ((chg x 0 i).1, if (chg x 0 i).2.1 = true then (chg x 0 i).2.2.setB i (((chg x 0 i).2.2.b i.toNat) ++ m) else (chg x 0 i).2.2)
theorem chg_at {x : Pt} {call at_ : Int} (hc : call ≠ 3) (h : (chg x call at_).2.1 = true) : at_ = 0 ∨ at_ = 1 := by
  unfold chg at h
  split at h
  · cases h
  · omega
theorem Append_c (F : List Atom) (p : Nat) (x : Pt) (h : x.ok) (at_ : Int) (vb : Value) (m : List UInt8) [rd : Rd F vb (bR m)] (hm : m.length ≤ 1000000000) :
    Fn Try.prog 23 [.pointer (some ⟨p, 0, none⟩), .int .i64 at_, vb] (pt p x :: F) fun v L' => v = .int .i64 (appT x at_ m).1 ∧ L' = pt p (appT x at_ m).2 :: F := by
  have hok := chg_ok h 0 at_
  have hat := chg_at (x := x) (at_ := at_) (call := 0) (by decide)
  refine fn_intro Try.func23 rfl Try.ntmps23 rfl (fun W0 => ?_)
  simp only [argE]
  refine rS ?_
  refine rR (id := 0) ?_
  refine oG (gA (evv rfl)) rfl rfl ?_
  refine oN ?_
  refine cC ?_
  refine rS ?_
  refine rR (id := 1) ?_
  refine oG (gM (evv rfl)) rfl rfl ?_
  refine oG (gM (evv rfl)) rfl rfl ?_
  (refine o_call rfl _ (PickR.ent (K := pt _)) (change_c _ _ _ (by assumption) _ _) rfl ?_; rintro _ _ ⟨rfl, rfl⟩)
  refine oG (gM (evv rfl)) rfl rfl ?_
  refine oG (g_extract (evv rfl) (by rfl)) rfl rfl ?_
  refine oG (g_extract (evv rfl) (by rfl)) rfl rfl ?_
  refine oG (gA (evv rfl)) rfl rfl ?_
  refine oG (gA (evv rfl)) rfl rfl ?_
  refine oN ?_
  refine cC ?_
  refine rS ?_
  refine rS ?_
  refine rR (id := 2) ?_
  refine oG (gM (evv rfl)) rfl rfl ?_
  refine oN ?_
  refine cC ?_
  simp only [appT]
  generalize chg x 0 at_ = r at *
  obtain ⟨e, dn, y⟩ := r
  dsimp only at hok hat ⊢
  refine r_cond rfl (fun c1 => ?_) (fun c1 => ?_) <;> (try simp only [decide_eq_true_eq, decide_eq_false_iff_not, Bool.and_eq_true, Bool.or_eq_true, Bool.not_eq_true', Bool.and_eq_false_iff, Bool.or_eq_false_iff, Bool.not_eq_false', Bool.not_eq_true, Bool.not_eq_false, Bool.true_eq_false, Bool.false_eq_true, Int.not_lt, Int.not_le, not_and, not_or, ne_eq] at c1)
  · have ha := hat c1
    subst c1
    refine r_exA fun vs => ?_
    obtain ⟨v0, v1⟩ := vs
    have hn0 := hok.n0
    have hn1 := hok.n1
    obtain ⟨b0, s0, b1, s1, lv, am, dn⟩ := y
    dsimp only at hn0 hn1
    dsimp only [ptX, ptB, List.cons_append, List.nil_append]
    rcases ha with rfl | rfl
    · refine r_draw (id := 3) Mixed.h ?_
      refine d_take (i := 0) (by kernel_rfl) rfl (fun W0 => gM (evv rfl)) rfl ?_
      refine d_take (i := 1) (by kernel_rfl) rfl (fun W0 => gM (evv rfl)) rfl ?_
      refine d_take (i := 2) (by kernel_rfl) rfl (fun W0 => gM (evv rfl)) rfl ?_
      refine d_take (i := 3) (by kernel_rfl) rfl (fun W0 => gM (evv rfl)) rfl ?_
      refine d_take (i := 4) (by kernel_rfl) rfl (fun W0 => g_nil (evv rfl)) rfl ?_
      refine d_take (i := 5) (by kernel_rfl) rfl (fun W0 => g_fld (evv rfl)) rfl ?_
      refine d_take (i := 6) (by kernel_rfl) rfl (fun W0 => g_idxA (evv rfl) (evv rfl) (by omega) (by omega)) rfl ?_
      refine d_take (i := 7) (by kernel_rfl) rfl (fun W0 => g_fld (evv rfl)) rfl ?_
      refine d_take (i := 10) (by kernel_rfl) rfl (fun W0 => gM (evv rfl)) rfl ?_
      refine d_take (i := 12) (by kernel_rfl) rfl (fun W0 => g_nil (evv rfl)) rfl ?_
      refine d_take (i := 13) (by kernel_rfl) rfl (fun W0 => g_fld (evv rfl)) rfl ?_
      refine d_one (i := 8) (by kernel_rfl) rfl ?_
      refine oG (g_load (evv rfl) (by rfl) (by rfl)) rfl rfl ?_
      refine oN ?_
      refine d_one (i := 9) (by kernel_rfl) rfl ?_
      (refine o_call rfl _ (Ent.refl _) (Clip_c _ _ _) rfl ?_; rintro _ _ ⟨rfl, rfl⟩)
      refine oN ?_
      refine d_one (i := 11) (by kernel_rfl) rfl ?_
      refine o_appRom (evv rfl) (evv rfl) (by rfl) (by rfl) (by rfl) (by (try simp only [bsOf, List.length_append, List.length_cons, List.length_nil, List.length_take, List.length_drop, List.length_map, List.length_range]); omega) rfl (fun _ => ?_)
      refine oN ?_
      refine d_take (i := 14) (by kernel_rfl) rfl (fun W0 => g_idxA (evv rfl) (evv rfl) (by omega) (by omega)) rfl ?_
      refine d_take (i := 15) (by kernel_rfl) rfl (fun W0 => g_fld (evv rfl)) rfl ?_
      refine d_one (i := 16) (by kernel_rfl) rfl ?_
      refine o_store1 (evv rfl) (evv rfl) (by rfl) (by rfl) (by rfl) ?_
      refine oN ?_
      refine d_done (by kernel_rfl) ?_
      refine cC ?_
      refine rS ?_
      rename_i w
      refine rR (id := 4) ?_
      refine oG (gM (evv rfl)) rfl rfl ?_
      refine oG (gA (evv rfl)) rfl rfl ?_
      refine oN ?_
      refine cC ?_
      first | refine r_ret (rs := [.tmp 6]) rfl rfl _ ((Ent.cons (romSubM (l' := [(w, bR (b0 ++ m)), (v1, bR b1)]) (fun x hx => by simp only [List.mem_cons, List.not_mem_nil, or_false] at hx ⊢; rcases hx with rfl | rfl <;> simp))).trans pt_shut) ?_ | refine c_end (rs := [.tmp 6]) rfl rfl _ ((Ent.cons (romSubM (l' := [(w, bR (b0 ++ m)), (v1, bR b1)]) (fun x hx => by simp only [List.mem_cons, List.not_mem_nil, or_false] at hx ⊢; rcases hx with rfl | rfl <;> simp))).trans pt_shut) ?_
      (refine ⟨?_, ?_⟩ <;> first | rfl | trivial | omega)
    · refine r_draw (id := 3) Mixed.h ?_
      refine d_take (i := 0) (by kernel_rfl) rfl (fun W0 => gM (evv rfl)) rfl ?_
      refine d_take (i := 1) (by kernel_rfl) rfl (fun W0 => gM (evv rfl)) rfl ?_
      refine d_take (i := 2) (by kernel_rfl) rfl (fun W0 => gM (evv rfl)) rfl ?_
      refine d_take (i := 3) (by kernel_rfl) rfl (fun W0 => gM (evv rfl)) rfl ?_
      refine d_take (i := 4) (by kernel_rfl) rfl (fun W0 => g_nil (evv rfl)) rfl ?_
      refine d_take (i := 5) (by kernel_rfl) rfl (fun W0 => g_fld (evv rfl)) rfl ?_
      refine d_take (i := 6) (by kernel_rfl) rfl (fun W0 => g_idxA (evv rfl) (evv rfl) (by omega) (by omega)) rfl ?_
      refine d_take (i := 7) (by kernel_rfl) rfl (fun W0 => g_fld (evv rfl)) rfl ?_
      refine d_take (i := 10) (by kernel_rfl) rfl (fun W0 => gM (evv rfl)) rfl ?_
      refine d_take (i := 12) (by kernel_rfl) rfl (fun W0 => g_nil (evv rfl)) rfl ?_
      refine d_take (i := 13) (by kernel_rfl) rfl (fun W0 => g_fld (evv rfl)) rfl ?_
      refine d_one (i := 8) (by kernel_rfl) rfl ?_
      refine oG (g_load (evv rfl) (by rfl) (by rfl)) rfl rfl ?_
      refine oN ?_
      refine d_one (i := 9) (by kernel_rfl) rfl ?_
      (refine o_call rfl _ (Ent.refl _) (Clip_c _ _ _) rfl ?_; rintro _ _ ⟨rfl, rfl⟩)
      refine oN ?_
      refine d_one (i := 11) (by kernel_rfl) rfl ?_
      refine o_appRom (evv rfl) (evv rfl) (by rfl) (by rfl) (by rfl) (by (try simp only [bsOf, List.length_append, List.length_cons, List.length_nil, List.length_take, List.length_drop, List.length_map, List.length_range]); omega) rfl (fun _ => ?_)
      refine oN ?_
      refine d_take (i := 14) (by kernel_rfl) rfl (fun W0 => g_idxA (evv rfl) (evv rfl) (by omega) (by omega)) rfl ?_
      refine d_take (i := 15) (by kernel_rfl) rfl (fun W0 => g_fld (evv rfl)) rfl ?_
      refine d_one (i := 16) (by kernel_rfl) rfl ?_
      refine o_store1 (evv rfl) (evv rfl) (by rfl) (by rfl) (by rfl) ?_
      refine oN ?_
      refine d_done (by kernel_rfl) ?_
      refine cC ?_
      refine rS ?_
      rename_i w
      refine rR (id := 4) ?_
      refine oG (gM (evv rfl)) rfl rfl ?_
      refine oG (gA (evv rfl)) rfl rfl ?_
      refine oN ?_
      refine cC ?_
      first | refine r_ret (rs := [.tmp 6]) rfl rfl _ ((Ent.cons (romSubM (l' := [(v0, bR b0), (w, bR (b1 ++ m))]) (fun x hx => by simp only [List.mem_cons, List.not_mem_nil, or_false] at hx ⊢; rcases hx with rfl | rfl <;> simp))).trans pt_shut) ?_ | refine c_end (rs := [.tmp 6]) rfl rfl _ ((Ent.cons (romSubM (l' := [(v0, bR b0), (w, bR (b1 ++ m))]) (fun x hx => by simp only [List.mem_cons, List.not_mem_nil, or_false] at hx ⊢; rcases hx with rfl | rfl <;> simp))).trans pt_shut) ?_
      (refine ⟨?_, ?_⟩ <;> first | rfl | trivial | omega)
  · subst c1
    refine r_skip ?_
    refine cC ?_
    refine rS ?_
    refine rR (id := 4) ?_
    refine oG (gM (evv rfl)) rfl rfl ?_
    refine oG (gA (evv rfl)) rfl rfl ?_
    refine oN ?_
    refine cC ?_
    first | refine r_ret (rs := [.tmp 6]) rfl rfl _ (Ent.refl _) ?_ | refine c_end (rs := [.tmp 6]) rfl rfl _ (Ent.refl _) ?_
    (refine ⟨?_, ?_⟩ <;> first | rfl | trivial | omega)
def synT (x : Pt) (i : Int) : Int × Pt := ((chg x 1 i).1, if (chg x 1 i).1 = 0 then (chg x 1 i).2.2.setS i ((chg x 1 i).2.2.b i.toNat).length else (chg x 1 i).2.2)
theorem chg_at0 {x : Pt} {call at_ : Int} (hc : call ≠ 3) (h : (chg x call at_).1 = 0) : at_ = 0 ∨ at_ = 1 := by
  unfold chg at h
  split at h
  · cases h
  · omega
theorem Sync_c (F : List Atom) (p : Nat) (x : Pt) (h : x.ok) (at_ : Int) :
    Fn Try.prog 19 [.pointer (some ⟨p, 0, none⟩), .int .i64 at_] (pt p x :: F) fun v L' => v = .int .i64 (synT x at_).1 ∧ L' = pt p (synT x at_).2 :: F := by
  have hok := chg_ok h 1 at_
  have hat := chg_at0 (x := x) (at_ := at_) (call := 1) (by decide)
  refine fn_intro Try.func19 rfl Try.ntmps19 rfl (fun W0 => ?_)
  simp only [argE]
  refine rS ?_
  refine rR (id := 0) ?_
  refine oG (gA (evv rfl)) rfl rfl ?_
  refine oN ?_
  refine cC ?_
  refine rS ?_
  refine rR (id := 1) ?_
  refine oG (gM (evv rfl)) rfl rfl ?_
  refine oG (gM (evv rfl)) rfl rfl ?_
  (refine o_call rfl _ (PickR.ent (K := pt _)) (change_c _ _ _ (by assumption) _ _) rfl ?_; rintro _ _ ⟨rfl, rfl⟩)
  refine oG (gM (evv rfl)) rfl rfl ?_
  refine oG (g_extract (evv rfl) (by rfl)) rfl rfl ?_
  refine oG (g_extract (evv rfl) (by rfl)) rfl rfl ?_
  refine oG (gA (evv rfl)) rfl rfl ?_
  refine oG (gA (evv rfl)) rfl rfl ?_
  refine oN ?_
  refine cC ?_
  refine rS ?_
  refine rS ?_
  simp only [synT]
  generalize chg x 1 at_ = r at *
  obtain ⟨e, dn, y⟩ := r
  dsimp only at hok hat ⊢
  refine rR (id := 2) ?_
  refine oG (gM (evv rfl)) rfl rfl ?_
  refine oG (g_bin (evv rfl) (evv rfl) (by rfl)) rfl rfl ?_
  refine oN ?_
  refine cC ?_
  refine r_cond rfl (fun c1 => ?_) (fun c1 => ?_) <;> (try simp only [decide_eq_true_eq, decide_eq_false_iff_not, Bool.and_eq_true, Bool.or_eq_true, Bool.not_eq_true', Bool.and_eq_false_iff, Bool.or_eq_false_iff, Bool.not_eq_false', Bool.not_eq_true, Bool.not_eq_false, Bool.true_eq_false, Bool.false_eq_true, Int.not_lt, Int.not_le, not_and, not_or, ne_eq] at c1)
  · have ha := hat c1
    subst c1
    refine r_exA fun vs => ?_
    obtain ⟨v0, v1⟩ := vs
    obtain ⟨b0, s0, b1, s1, lv, am, dn⟩ := y
    dsimp only [ptX, ptB, List.cons_append, List.nil_append]
    rcases ha with rfl | rfl
    · refine r_draw (id := 3) Mixed.h ?_
      refine d_take (i := 0) (by kernel_rfl) rfl (fun W0 => gM (evv rfl)) rfl ?_
      refine d_take (i := 1) (by kernel_rfl) rfl (fun W0 => gM (evv rfl)) rfl ?_
      refine d_take (i := 2) (by kernel_rfl) rfl (fun W0 => gM (evv rfl)) rfl ?_
      refine d_take (i := 3) (by kernel_rfl) rfl (fun W0 => gM (evv rfl)) rfl ?_
      refine d_take (i := 4) (by kernel_rfl) rfl (fun W0 => g_nil (evv rfl)) rfl ?_
      refine d_take (i := 5) (by kernel_rfl) rfl (fun W0 => g_fld (evv rfl)) rfl ?_
      refine d_take (i := 6) (by kernel_rfl) rfl (fun W0 => g_idxA (evv rfl) (evv rfl) (by omega) (by omega)) rfl ?_
      refine d_take (i := 7) (by kernel_rfl) rfl (fun W0 => g_fld (evv rfl)) rfl ?_
      refine d_take (i := 10) (by kernel_rfl) rfl (fun W0 => g_nil (evv rfl)) rfl ?_
      refine d_take (i := 11) (by kernel_rfl) rfl (fun W0 => g_fld (evv rfl)) rfl ?_
      refine d_one (i := 8) (by kernel_rfl) rfl ?_
      refine oG (g_load (evv rfl) (by rfl) (by rfl)) rfl rfl ?_
      refine oN ?_
      refine d_one (i := 9) (by kernel_rfl) rfl ?_
      refine oG (g_lenM (evv rfl)) rfl rfl ?_
      refine oN ?_
      refine d_take (i := 12) (by kernel_rfl) rfl (fun W0 => g_idxA (evv rfl) (evv rfl) (by omega) (by omega)) rfl ?_
      refine d_take (i := 13) (by kernel_rfl) rfl (fun W0 => g_fld (evv rfl)) rfl ?_
      refine d_one (i := 14) (by kernel_rfl) rfl ?_
      refine o_store1 (evv rfl) (evv rfl) (by rfl) (by rfl) (by rfl) ?_
      refine oN ?_
      refine d_done (by kernel_rfl) ?_
      refine cC ?_
      refine rS ?_
      refine rR (id := 4) ?_
      refine oG (gM (evv rfl)) rfl rfl ?_
      refine oG (gA (evv rfl)) rfl rfl ?_
      refine oN ?_
      refine cC ?_
      first | refine r_ret (rs := [.tmp 4]) rfl rfl _ (pt_shut) ?_ | refine c_end (rs := [.tmp 4]) rfl rfl _ (pt_shut) ?_
      (refine ⟨?_, ?_⟩ <;> first | rfl | trivial | omega)
    · refine r_draw (id := 3) Mixed.h ?_
      refine d_take (i := 0) (by kernel_rfl) rfl (fun W0 => gM (evv rfl)) rfl ?_
      refine d_take (i := 1) (by kernel_rfl) rfl (fun W0 => gM (evv rfl)) rfl ?_
      refine d_take (i := 2) (by kernel_rfl) rfl (fun W0 => gM (evv rfl)) rfl ?_
      refine d_take (i := 3) (by kernel_rfl) rfl (fun W0 => gM (evv rfl)) rfl ?_
      refine d_take (i := 4) (by kernel_rfl) rfl (fun W0 => g_nil (evv rfl)) rfl ?_
      refine d_take (i := 5) (by kernel_rfl) rfl (fun W0 => g_fld (evv rfl)) rfl ?_
      refine d_take (i := 6) (by kernel_rfl) rfl (fun W0 => g_idxA (evv rfl) (evv rfl) (by omega) (by omega)) rfl ?_
      refine d_take (i := 7) (by kernel_rfl) rfl (fun W0 => g_fld (evv rfl)) rfl ?_
      refine d_take (i := 10) (by kernel_rfl) rfl (fun W0 => g_nil (evv rfl)) rfl ?_
      refine d_take (i := 11) (by kernel_rfl) rfl (fun W0 => g_fld (evv rfl)) rfl ?_
      refine d_one (i := 8) (by kernel_rfl) rfl ?_
      refine oG (g_load (evv rfl) (by rfl) (by rfl)) rfl rfl ?_
      refine oN ?_
      refine d_one (i := 9) (by kernel_rfl) rfl ?_
      refine oG (g_lenM (evv rfl)) rfl rfl ?_
      refine oN ?_
      refine d_take (i := 12) (by kernel_rfl) rfl (fun W0 => g_idxA (evv rfl) (evv rfl) (by omega) (by omega)) rfl ?_
      refine d_take (i := 13) (by kernel_rfl) rfl (fun W0 => g_fld (evv rfl)) rfl ?_
      refine d_one (i := 14) (by kernel_rfl) rfl ?_
      refine o_store1 (evv rfl) (evv rfl) (by rfl) (by rfl) (by rfl) ?_
      refine oN ?_
      refine d_done (by kernel_rfl) ?_
      refine cC ?_
      refine rS ?_
      refine rR (id := 4) ?_
      refine oG (gM (evv rfl)) rfl rfl ?_
      refine oG (gA (evv rfl)) rfl rfl ?_
      refine oN ?_
      refine cC ?_
      first | refine r_ret (rs := [.tmp 4]) rfl rfl _ (pt_shut) ?_ | refine c_end (rs := [.tmp 4]) rfl rfl _ (pt_shut) ?_
      (refine ⟨?_, ?_⟩ <;> first | rfl | trivial | omega)
  · simp only [if_neg c1]
    refine r_skip ?_
    refine cC ?_
    refine rS ?_
    refine rR (id := 4) ?_
    refine oG (gM (evv rfl)) rfl rfl ?_
    refine oG (gA (evv rfl)) rfl rfl ?_
    refine oN ?_
    refine cC ?_
    first | refine r_ret (rs := [.tmp 4]) rfl rfl _ (Ent.refl _) ?_ | refine c_end (rs := [.tmp 4]) rfl rfl _ (Ent.refl _) ?_
    (refine ⟨?_, ?_⟩ <;> first | rfl | trivial | omega)
def wipT (x : Pt) (i : Int) : Int × Pt := ((chg x 2 i).1, if (chg x 2 i).1 = 0 then ((chg x 2 i).2.2.setB i []).setS i 0 else (chg x 2 i).2.2)
theorem Wipe_c (F : List Atom) (p : Nat) (x : Pt) (h : x.ok) (at_ : Int) :
    Fn Try.prog 42 [.pointer (some ⟨p, 0, none⟩), .int .i64 at_] (pt p x :: F) fun v L' => v = .int .i64 (wipT x at_).1 ∧ L' = pt p (wipT x at_).2 :: F := by
  have hok := chg_ok h 2 at_
  have hat := chg_at0 (x := x) (at_ := at_) (call := 2) (by decide)
  refine fn_intro Try.func42 rfl Try.ntmps42 rfl (fun W0 => ?_)
  simp only [argE]
  refine rS ?_
  refine rR (id := 0) ?_
  refine oG (gA (evv rfl)) rfl rfl ?_
  refine oN ?_
  refine cC ?_
  refine rS ?_
  refine rR (id := 1) ?_
  refine oG (gM (evv rfl)) rfl rfl ?_
  refine oG (gM (evv rfl)) rfl rfl ?_
  (refine o_call rfl _ (PickR.ent (K := pt _)) (change_c _ _ _ (by assumption) _ _) rfl ?_; rintro _ _ ⟨rfl, rfl⟩)
  refine oG (gM (evv rfl)) rfl rfl ?_
  refine oG (g_extract (evv rfl) (by rfl)) rfl rfl ?_
  refine oG (g_extract (evv rfl) (by rfl)) rfl rfl ?_
  refine oG (gA (evv rfl)) rfl rfl ?_
  refine oG (gA (evv rfl)) rfl rfl ?_
  refine oN ?_
  refine cC ?_
  refine rS ?_
  refine rS ?_
  simp only [wipT]
  generalize chg x 2 at_ = r at *
  obtain ⟨e, dn, y⟩ := r
  dsimp only at hok hat ⊢
  refine rR (id := 2) ?_
  refine oG (gM (evv rfl)) rfl rfl ?_
  refine oG (g_bin (evv rfl) (evv rfl) (by rfl)) rfl rfl ?_
  refine oN ?_
  refine cC ?_
  refine r_cond rfl (fun c1 => ?_) (fun c1 => ?_) <;> (try simp only [decide_eq_true_eq, decide_eq_false_iff_not, Bool.and_eq_true, Bool.or_eq_true, Bool.not_eq_true', Bool.and_eq_false_iff, Bool.or_eq_false_iff, Bool.not_eq_false', Bool.not_eq_true, Bool.not_eq_false, Bool.true_eq_false, Bool.false_eq_true, Int.not_lt, Int.not_le, not_and, not_or, ne_eq] at c1)
  · have ha := hat c1
    subst c1
    refine r_exA fun vs => ?_
    obtain ⟨v0, v1⟩ := vs
    obtain ⟨b0, s0, b1, s1, lv, am, dn⟩ := y
    dsimp only [ptX, ptB, List.cons_append, List.nil_append]
    rcases ha with rfl | rfl
    · refine rR (id := 3) ?_
      refine oG (gM (evv rfl)) rfl rfl ?_
      refine oG (gM (evv rfl)) rfl rfl ?_
      refine oG (v := agg [(Go.Value.slice none 0 0), (Go.Value.int Go.IntKind.i64 0)]) (g_buildC rfl (by rfl)) rfl rfl ?_
      refine oG (g_nil (evv rfl)) rfl rfl ?_
      refine oG (g_fld (evv rfl)) rfl rfl ?_
      refine oG (g_idxA (evv rfl) (evv rfl) (by omega) (by omega)) rfl rfl ?_
      refine o_storeA (evv rfl) (evv rfl) (by first | rfl | assumption | exact LenC.h _ | (simp [bys, *]; done) | fail) (by first | (intro _ _ _; exact bys_one _) | exact AllOne.h | (intro _ _ _ u hu; simp at hu; rcases hu with rfl | rfl | rfl | rfl | rfl | rfl | rfl | rfl <;> rfl) | fail) (by rfl) (by rfl) ?_
      refine oN ?_
      refine cC ?_
      refine rS ?_
      refine rR (id := 4) ?_
      refine oG (gM (evv rfl)) rfl rfl ?_
      refine oG (gA (evv rfl)) rfl rfl ?_
      refine oN ?_
      refine cC ?_
      first | refine r_ret (rs := [.tmp 4]) rfl rfl _ ((Ent.cons ((Ent.romNilIn (l := [(v0, bR b0), (v1, bR b1)])).trans (romSubM (l' := [(.slice none 0 0, bR []), (v1, bR b1)]) (fun x hx => by simp only [List.mem_cons, List.not_mem_nil, or_false] at hx ⊢; rcases hx with rfl | rfl <;> simp)))).trans pt_shut) ?_ | refine c_end (rs := [.tmp 4]) rfl rfl _ ((Ent.cons ((Ent.romNilIn (l := [(v0, bR b0), (v1, bR b1)])).trans (romSubM (l' := [(.slice none 0 0, bR []), (v1, bR b1)]) (fun x hx => by simp only [List.mem_cons, List.not_mem_nil, or_false] at hx ⊢; rcases hx with rfl | rfl <;> simp)))).trans pt_shut) ?_
      (refine ⟨?_, ?_⟩ <;> first | rfl | trivial | omega)
    · refine rR (id := 3) ?_
      refine oG (gM (evv rfl)) rfl rfl ?_
      refine oG (gM (evv rfl)) rfl rfl ?_
      refine oG (v := agg [(Go.Value.slice none 0 0), (Go.Value.int Go.IntKind.i64 0)]) (g_buildC rfl (by rfl)) rfl rfl ?_
      refine oG (g_nil (evv rfl)) rfl rfl ?_
      refine oG (g_fld (evv rfl)) rfl rfl ?_
      refine oG (g_idxA (evv rfl) (evv rfl) (by omega) (by omega)) rfl rfl ?_
      refine o_storeA (evv rfl) (evv rfl) (by first | rfl | assumption | exact LenC.h _ | (simp [bys, *]; done) | fail) (by first | (intro _ _ _; exact bys_one _) | exact AllOne.h | (intro _ _ _ u hu; simp at hu; rcases hu with rfl | rfl | rfl | rfl | rfl | rfl | rfl | rfl <;> rfl) | fail) (by rfl) (by rfl) ?_
      refine oN ?_
      refine cC ?_
      refine rS ?_
      refine rR (id := 4) ?_
      refine oG (gM (evv rfl)) rfl rfl ?_
      refine oG (gA (evv rfl)) rfl rfl ?_
      refine oN ?_
      refine cC ?_
      first | refine r_ret (rs := [.tmp 4]) rfl rfl _ ((Ent.cons ((Ent.romNilIn (l := [(v0, bR b0), (v1, bR b1)])).trans (romSubM (l' := [(v0, bR b0), (.slice none 0 0, bR [])]) (fun x hx => by simp only [List.mem_cons, List.not_mem_nil, or_false] at hx ⊢; rcases hx with rfl | rfl <;> simp)))).trans pt_shut) ?_ | refine c_end (rs := [.tmp 4]) rfl rfl _ ((Ent.cons ((Ent.romNilIn (l := [(v0, bR b0), (v1, bR b1)])).trans (romSubM (l' := [(v0, bR b0), (.slice none 0 0, bR [])]) (fun x hx => by simp only [List.mem_cons, List.not_mem_nil, or_false] at hx ⊢; rcases hx with rfl | rfl <;> simp)))).trans pt_shut) ?_
      (refine ⟨?_, ?_⟩ <;> first | rfl | trivial | omega)
  · simp only [if_neg c1]
    refine r_skip ?_
    refine cC ?_
    refine rS ?_
    refine rR (id := 4) ?_
    refine oG (gM (evv rfl)) rfl rfl ?_
    refine oG (gA (evv rfl)) rfl rfl ?_
    refine oN ?_
    refine cC ?_
    first | refine r_ret (rs := [.tmp 4]) rfl rfl _ (Ent.refl _) ?_ | refine c_end (rs := [.tmp 4]) rfl rfl _ (Ent.refl _) ?_
    (refine ⟨?_, ?_⟩ <;> first | rfl | trivial | omega)
def flpT (x : Pt) : Int × Pt := ((chg x 3 0).1, if (chg x 3 0).1 = 0 then { (chg x 3 0).2.2 with live := 1 - (chg x 3 0).2.2.live } else (chg x 3 0).2.2)
theorem Flip_c (F : List Atom) (p : Nat) (x : Pt) (h : x.ok) :
    Fn Try.prog 45 [.pointer (some ⟨p, 0, none⟩)] (pt p x :: F) fun v L' => v = .int .i64 (flpT x).1 ∧ L' = pt p (flpT x).2 :: F := by
  have hok := chg_ok h 3 0
  refine fn_intro Try.func45 rfl Try.ntmps45 rfl (fun W0 => ?_)
  simp only [argE]
  refine rS ?_
  refine rR (id := 0) ?_
  refine oG (gA (evv rfl)) rfl rfl ?_
  refine oN ?_
  refine cC ?_
  refine rS ?_
  refine rR (id := 1) ?_
  refine oG (gM (evv rfl)) rfl rfl ?_
  (refine o_call rfl _ (PickR.ent (K := pt _)) (change_c _ _ _ (by assumption) _ _) rfl ?_; rintro _ _ ⟨rfl, rfl⟩)
  refine oG (gM (evv rfl)) rfl rfl ?_
  refine oG (g_extract (evv rfl) (by rfl)) rfl rfl ?_
  refine oG (g_extract (evv rfl) (by rfl)) rfl rfl ?_
  refine oG (gA (evv rfl)) rfl rfl ?_
  refine oG (gA (evv rfl)) rfl rfl ?_
  refine oN ?_
  refine cC ?_
  refine rS ?_
  refine rS ?_
  simp only [flpT]
  generalize chg x 3 0 = r at *
  obtain ⟨e, dn, y⟩ := r
  dsimp only at hok ⊢
  refine rR (id := 2) ?_
  refine oG (gM (evv rfl)) rfl rfl ?_
  refine oG (g_bin (evv rfl) (evv rfl) (by rfl)) rfl rfl ?_
  refine oN ?_
  refine cC ?_
  refine r_cond rfl (fun c1 => ?_) (fun c1 => ?_) <;> (try simp only [decide_eq_true_eq, decide_eq_false_iff_not, Bool.and_eq_true, Bool.or_eq_true, Bool.not_eq_true', Bool.and_eq_false_iff, Bool.or_eq_false_iff, Bool.not_eq_false', Bool.not_eq_true, Bool.not_eq_false, Bool.true_eq_false, Bool.false_eq_true, Int.not_lt, Int.not_le, not_and, not_or, ne_eq] at c1)
  · subst c1
    refine r_exA fun vs => ?_
    obtain ⟨v0, v1⟩ := vs
    have hl := hok.l
    obtain ⟨b0, s0, b1, s1, lv, am, dn⟩ := y
    dsimp only at hl
    dsimp only [ptX, ptB, List.cons_append, List.nil_append]
    have e1 : (1 : Int) - (lv : Int) = ((1 - lv : Nat) : Int) := by omega
    refine rR (id := 3) ?_
    refine oG (gM (evv rfl)) rfl rfl ?_
    refine oG (gM (evv rfl)) rfl rfl ?_
    refine oG (g_nil (evv rfl)) rfl rfl ?_
    refine oG (g_fld (evv rfl)) rfl rfl ?_
    refine oG (g_load (evv rfl) (by rfl) (by rfl)) rfl rfl ?_
    refine o_giveN (g_bin (evv rfl) (evv rfl) (by rfl)) (by simp only [inR]; omega) rfl ?_
    refine oG (g_nil (evv rfl)) rfl rfl ?_
    refine oG (g_fld (evv rfl)) rfl rfl ?_
    refine o_store1 (evv rfl) (evv rfl) (by rfl) (by rfl) (by rfl) ?_
    refine oN ?_
    refine cC ?_
    refine rS ?_
    refine rR (id := 4) ?_
    refine oG (gM (evv rfl)) rfl rfl ?_
    refine oG (gA (evv rfl)) rfl rfl ?_
    refine oN ?_
    refine cC ?_
    rw [e1]
    skip
    first | refine r_ret (rs := [.tmp 2]) rfl rfl _ (pt_shut) ?_ | refine c_end (rs := [.tmp 2]) rfl rfl _ (pt_shut) ?_
    (refine ⟨?_, ?_⟩ <;> first | rfl | trivial | omega)
  · simp only [if_neg c1]
    refine r_skip ?_
    refine cC ?_
    refine rS ?_
    refine rR (id := 4) ?_
    refine oG (gM (evv rfl)) rfl rfl ?_
    refine oG (gA (evv rfl)) rfl rfl ?_
    refine oN ?_
    refine cC ?_
    first | refine r_ret (rs := [.tmp 2]) rfl rfl _ (Ent.refl _) ?_ | refine c_end (rs := [.tmp 2]) rfl rfl _ (Ent.refl _) ?_
    (refine ⟨?_, ?_⟩ <;> first | rfl | trivial | omega)
theorem Live_c (F : List Atom) (p : Nat) (x : Pt) :
    Fn Try.prog 32 [.pointer (some ⟨p, 0, none⟩)] (pt p x :: F) fun v L' => v = .int .i64 (x.live : Int) ∧ L' = pt p x :: F := by
  refine Fn.exA fun vs => ?_
  obtain ⟨v0, v1⟩ := vs
  dsimp only [ptX, ptB, List.cons_append, List.nil_append]
  refine fn_intro Try.func32 rfl Try.ntmps32 rfl (fun W0 => ?_)
  simp only [argE]
  refine rS ?_
  refine rR (id := 0) ?_
  refine oG (gA (evv rfl)) rfl rfl ?_
  refine oN ?_
  refine cC ?_
  refine rS ?_
  refine rS ?_
  refine rR (id := 1) ?_
  refine oG (gM (evv rfl)) rfl rfl ?_
  refine oG (g_pnil TyU.h (evv rfl) (evv rfl) (by simp) (by rfl)) rfl rfl ?_
  refine oN ?_
  refine cC ?_
  refine r_cond_false rfl ?_
  refine r_skip ?_
  refine cC ?_
  refine rS ?_
  refine rR (id := 3) ?_
  refine oG (gM (evv rfl)) rfl rfl ?_
  refine oG (g_nil (evv rfl)) rfl rfl ?_
  refine oG (g_fld (evv rfl)) rfl rfl ?_
  refine oG (g_load (evv rfl) (by rfl) (by rfl)) rfl rfl ?_
  refine oG (gA (evv rfl)) rfl rfl ?_
  refine oN ?_
  refine cC ?_
  first | refine r_ret (rs := [.tmp 2]) rfl rfl _ (pt_shut) ?_ | refine c_end (rs := [.tmp 2]) rfl rfl _ (pt_shut) ?_
  (refine ⟨?_, ?_⟩ <;> first | rfl | trivial | omega)
theorem Down_c (F : List Atom) (p : Nat) (x : Pt) :
    Fn Try.prog 28 [.pointer (some ⟨p, 0, none⟩)] (pt p x :: F) fun v L' => v = .bool x.down ∧ L' = pt p x :: F := by
  refine Fn.exA fun vs => ?_
  obtain ⟨v0, v1⟩ := vs
  dsimp only [ptX, ptB, List.cons_append, List.nil_append]
  refine fn_intro Try.func28 rfl Try.ntmps28 rfl (fun W0 => ?_)
  simp only [argE]
  refine rS ?_
  refine rR (id := 0) ?_
  refine oG (gA (evv rfl)) rfl rfl ?_
  refine oN ?_
  refine cC ?_
  refine rS ?_
  refine rR (id := 1) ?_
  refine oG (gM (evv rfl)) rfl rfl ?_
  refine oG (g_pnil TyU.h (evv rfl) (evv rfl) (by simp) (by rfl)) rfl rfl ?_
  refine oG (gM (evv rfl)) rfl rfl ?_
  refine o_gyes rfl ?_
  refine oG (gM (evv rfl)) rfl rfl ?_
  refine o_gyes rfl ?_
  refine oG (g_nil (evv rfl)) rfl rfl ?_
  refine o_gyes rfl ?_
  refine oG (g_fld (evv rfl)) rfl rfl ?_
  refine o_gyes rfl ?_
  refine oG (g_load (evv rfl) (by rfl) (by rfl)) rfl rfl ?_
  refine oG (g_pick (b := true) (evv rfl) (fun _ => (evv rfl)) (fun h => by cases h)) rfl rfl ?_
  refine oG (gA (evv rfl)) rfl rfl ?_
  refine oN ?_
  refine cC ?_
  first | refine r_ret (rs := [.tmp 2]) rfl rfl _ (pt_shut) ?_ | refine c_end (rs := [.tmp 2]) rfl rfl _ (pt_shut) ?_
  refine ⟨?_, rfl⟩
  exact bool_eq (by simp)
def rdT (x : Pt) (i : Int) : List UInt8 := if i = 0 then x.b0 else if i = 1 then x.b1 else []
def syT (x : Pt) (i : Int) : Int := if i = 0 then x.s0 else if i = 1 then x.s1 else 0
theorem pRead_c (F : List Atom) (p : Nat) (x : Pt) (h : x.ok) (at_ : Int) :
    Fn Try.prog 31 [.pointer (some ⟨p, 0, none⟩), .int .i64 at_] (pt p x :: F) fun v L' => True ∧ L' = sl v (bR (rdT x at_)) :: pt p x :: F := by
  refine Fn.exA fun vs => ?_
  obtain ⟨v0, v1⟩ := vs
  have hn0 := h.n0
  have hn1 := h.n1
  obtain ⟨b0, s0, b1, s1, lv, am, dn⟩ := x
  dsimp only at hn0 hn1
  dsimp only [ptX, ptB, List.cons_append, List.nil_append]
  refine fn_intro Try.func31 rfl Try.ntmps31 rfl (fun W0 => ?_)
  simp only [argE]
  by_cases ha : at_ = 0 ∨ at_ = 1
  · rcases ha with rfl | rfl
    · refine rS ?_
      refine rR (id := 0) ?_
      refine oG (gA (evv rfl)) rfl rfl ?_
      refine oN ?_
      refine cC ?_
      refine rS ?_
      refine rS ?_
      refine rR (id := 1) ?_
      refine oG (gM (evv rfl)) rfl rfl ?_
      refine oG (g_pnil TyU.h (evv rfl) (evv rfl) (by simp) (by rfl)) rfl rfl ?_
      refine oG (gM (evv rfl)) rfl rfl ?_
      refine o_gyes rfl ?_
      refine oG (gM (evv rfl)) rfl rfl ?_
      refine o_gyes rfl ?_
      refine oG (g_bin (evv rfl) (evv rfl) (by rfl)) rfl rfl ?_
      refine o_gyes rfl ?_
      refine oG (gM (evv rfl)) rfl rfl ?_
      refine o_lazy rfl (fun hg => gM (by first | exact evv rfl | exact evg rfl (by rw [hp]; rfl) | exact evg rfl hp | exact evg rfl hg | exact evg rfl (by first | (simp_all; done) | (simp [*]; done) | fail) | fail)) rfl rfl ?_
      refine o_lazy rfl (fun hg => g_bin (by first | exact evv rfl | exact evg rfl (by rw [hp]; rfl) | exact evg rfl hp | exact evg rfl hg | exact evg rfl (by first | (simp_all; done) | (simp [*]; done) | fail) | fail) (by first | exact evv rfl | exact evg rfl (by rw [hp]; rfl) | exact evg rfl hp | exact evg rfl hg | exact evg rfl (by first | (simp_all; done) | (simp [*]; done) | fail) | fail) (by rfl)) rfl rfl ?_
      refine o_gyes rfl ?_
      refine oG (g_pick (b := false) (evv rfl) (fun h => by cases h) (fun _ => (evv rfl))) rfl rfl ?_
      refine oG (g_pick (b := false) (evv rfl) (fun h => by cases h) (fun _ => (evv rfl))) rfl rfl ?_
      refine oN ?_
      refine cC ?_
      refine r_cond_false rfl ?_
      refine r_skip ?_
      refine cC ?_
      refine rS ?_
      refine rR (id := 3) ?_
      refine oG (gM (evv rfl)) rfl rfl ?_
      refine oG (gM (evv rfl)) rfl rfl ?_
      refine oG (g_nil (evv rfl)) rfl rfl ?_
      refine oG (g_fld (evv rfl)) rfl rfl ?_
      refine oG (g_idxA (evv rfl) (evv rfl) (by omega) (by omega)) rfl rfl ?_
      refine oG (g_fld (evv rfl)) rfl rfl ?_
      refine oG (g_load (evv rfl) (by rfl) (by rfl)) rfl rfl ?_
      (refine o_call rfl _ (Ent.refl _) (Clone_c _ _ _ (by first | assumption | omega | (simp only [List.length_take, List.length_drop]; omega))) rfl ?_; rintro cw _ ⟨-, rfl⟩)
      refine oG (gA (evv rfl)) rfl rfl ?_
      refine oN ?_
      refine cC ?_
      first | refine r_ret (rs := [.tmp 4]) rfl rfl _ (Ent.cons pt_shut) ?_ | refine c_end (rs := [.tmp 4]) rfl rfl _ (Ent.cons pt_shut) ?_
      (refine ⟨?_, ?_⟩ <;> first | rfl | trivial | omega)
    · refine rS ?_
      refine rR (id := 0) ?_
      refine oG (gA (evv rfl)) rfl rfl ?_
      refine oN ?_
      refine cC ?_
      refine rS ?_
      refine rS ?_
      refine rR (id := 1) ?_
      refine oG (gM (evv rfl)) rfl rfl ?_
      refine oG (g_pnil TyU.h (evv rfl) (evv rfl) (by simp) (by rfl)) rfl rfl ?_
      refine oG (gM (evv rfl)) rfl rfl ?_
      refine o_gyes rfl ?_
      refine oG (gM (evv rfl)) rfl rfl ?_
      refine o_gyes rfl ?_
      refine oG (g_bin (evv rfl) (evv rfl) (by rfl)) rfl rfl ?_
      refine o_gyes rfl ?_
      refine oG (gM (evv rfl)) rfl rfl ?_
      refine o_gyes rfl ?_
      refine oG (gM (evv rfl)) rfl rfl ?_
      refine o_gyes rfl ?_
      refine oG (g_bin (evv rfl) (evv rfl) (by rfl)) rfl rfl ?_
      refine o_gyes rfl ?_
      refine oG (g_pick (b := true) (evv rfl) (fun _ => (evv rfl)) (fun h => by cases h)) rfl rfl ?_
      refine oG (g_pick (b := false) (evv rfl) (fun h => by cases h) (fun _ => (evv rfl))) rfl rfl ?_
      refine oN ?_
      refine cC ?_
      refine r_cond_false rfl ?_
      refine r_skip ?_
      refine cC ?_
      refine rS ?_
      refine rR (id := 3) ?_
      refine oG (gM (evv rfl)) rfl rfl ?_
      refine oG (gM (evv rfl)) rfl rfl ?_
      refine oG (g_nil (evv rfl)) rfl rfl ?_
      refine oG (g_fld (evv rfl)) rfl rfl ?_
      refine oG (g_idxA (evv rfl) (evv rfl) (by omega) (by omega)) rfl rfl ?_
      refine oG (g_fld (evv rfl)) rfl rfl ?_
      refine oG (g_load (evv rfl) (by rfl) (by rfl)) rfl rfl ?_
      (refine o_call rfl _ (Ent.refl _) (Clone_c _ _ _ (by first | assumption | omega | (simp only [List.length_take, List.length_drop]; omega))) rfl ?_; rintro cw _ ⟨-, rfl⟩)
      refine oG (gA (evv rfl)) rfl rfl ?_
      refine oN ?_
      refine cC ?_
      first | refine r_ret (rs := [.tmp 4]) rfl rfl _ (Ent.cons pt_shut) ?_ | refine c_end (rs := [.tmp 4]) rfl rfl _ (Ent.cons pt_shut) ?_
      (refine ⟨?_, ?_⟩ <;> first | rfl | trivial | omega)
  · simp only [rdT, if_neg (show ¬ at_ = 0 by omega), if_neg (show ¬ at_ = 1 by omega)]
    refine rS ?_
    refine rR (id := 0) ?_
    refine oG (gA (evv rfl)) rfl rfl ?_
    refine oN ?_
    refine cC ?_
    refine rS ?_
    refine rS ?_
    refine rR (id := 1) ?_
    refine oG (gM (evv rfl)) rfl rfl ?_
    refine oG (g_pnil TyU.h (evv rfl) (evv rfl) (by simp) (by rfl)) rfl rfl ?_
    refine oG (gM (evv rfl)) rfl rfl ?_
    refine o_gyes rfl ?_
    refine oG (gM (evv rfl)) rfl rfl ?_
    refine o_gyes rfl ?_
    refine oG (g_bin (evv rfl) (evv rfl) (by rfl)) rfl rfl ?_
    refine o_gyes rfl ?_
    refine oG (gM (evv rfl)) rfl rfl ?_
    refine o_lazy rfl (fun hg => gM (by first | exact evv rfl | exact evg rfl (by rw [hp]; rfl) | exact evg rfl hp | exact evg rfl hg | exact evg rfl (by first | (simp_all; done) | (simp [*]; done) | fail) | fail)) rfl rfl ?_
    refine o_lazy rfl (fun hg => g_bin (by first | exact evv rfl | exact evg rfl (by rw [hp]; rfl) | exact evg rfl hp | exact evg rfl hg | exact evg rfl (by first | (simp_all; done) | (simp [*]; done) | fail) | fail) (by first | exact evv rfl | exact evg rfl (by rw [hp]; rfl) | exact evg rfl hp | exact evg rfl hg | exact evg rfl (by first | (simp_all; done) | (simp [*]; done) | fail) | fail) (by rfl)) rfl rfl ?_
    refine o_gyes rfl ?_
    refine oG (g_pick_and (evv rfl) (evv rfl) (fun hp => (by first | exact evv rfl | exact evg rfl (by rw [hp]; rfl) | exact evg rfl hp | exact evg rfl hg | exact evg rfl (by first | (simp_all; done) | (simp [*]; done) | fail) | fail))) rfl rfl ?_
    refine oG (g_pick (b := false) (evv rfl) (fun h => by cases h) (fun _ => (evv rfl))) rfl rfl ?_
    refine oN ?_
    refine cC ?_
    refine r_cond rfl (fun c1 => ?_) (fun c1 => ?_) <;> (try simp only [decide_eq_true_eq, decide_eq_false_iff_not, Bool.and_eq_true, Bool.or_eq_true, Bool.not_eq_true', Bool.and_eq_false_iff, Bool.or_eq_false_iff, Bool.not_eq_false', Bool.not_eq_true, Bool.not_eq_false, Bool.true_eq_false, Bool.false_eq_true, Int.not_lt, Int.not_le, not_and, not_or, ne_eq] at c1)
    · refine rS ?_
      refine rR (id := 2) ?_
      refine oG (gA (evv rfl)) rfl rfl ?_
      refine oN ?_
      refine cC ?_
      first | refine r_ret (rs := [.tmp 4]) rfl rfl _ ((Ent.nilsl 5 1).trans (Ent.cons pt_shut)) ?_ | refine c_end (rs := [.tmp 4]) rfl rfl _ ((Ent.nilsl 5 1).trans (Ent.cons pt_shut)) ?_
      (refine ⟨?_, ?_⟩ <;> first | rfl | trivial | omega)
    · exfalso; omega
theorem Synced_c (F : List Atom) (p : Nat) (x : Pt) (at_ : Int) :
    Fn Try.prog 61 [.pointer (some ⟨p, 0, none⟩), .int .i64 at_] (pt p x :: F) fun v L' => v = .int .i64 (syT x at_) ∧ L' = pt p x :: F := by
  refine Fn.exA fun vs => ?_
  obtain ⟨v0, v1⟩ := vs
  obtain ⟨b0, s0, b1, s1, lv, am, dn⟩ := x
  dsimp only [ptX, ptB, List.cons_append, List.nil_append]
  refine fn_intro Try.func61 rfl Try.ntmps61 rfl (fun W0 => ?_)
  simp only [argE]
  by_cases ha : at_ = 0 ∨ at_ = 1
  · rcases ha with rfl | rfl
    · refine rS ?_
      refine rR (id := 0) ?_
      refine oG (gA (evv rfl)) rfl rfl ?_
      refine oN ?_
      refine cC ?_
      refine rS ?_
      refine rS ?_
      refine rR (id := 1) ?_
      refine oG (gM (evv rfl)) rfl rfl ?_
      refine oG (g_pnil TyU.h (evv rfl) (evv rfl) (by simp) (by rfl)) rfl rfl ?_
      refine oG (gM (evv rfl)) rfl rfl ?_
      refine o_gyes rfl ?_
      refine oG (gM (evv rfl)) rfl rfl ?_
      refine o_gyes rfl ?_
      refine oG (g_bin (evv rfl) (evv rfl) (by rfl)) rfl rfl ?_
      refine o_gyes rfl ?_
      refine oG (gM (evv rfl)) rfl rfl ?_
      refine o_lazy rfl (fun hg => gM (by first | exact evv rfl | exact evg rfl (by rw [hp]; rfl) | exact evg rfl hp | exact evg rfl hg | exact evg rfl (by first | (simp_all; done) | (simp [*]; done) | fail) | fail)) rfl rfl ?_
      refine o_lazy rfl (fun hg => g_bin (by first | exact evv rfl | exact evg rfl (by rw [hp]; rfl) | exact evg rfl hp | exact evg rfl hg | exact evg rfl (by first | (simp_all; done) | (simp [*]; done) | fail) | fail) (by first | exact evv rfl | exact evg rfl (by rw [hp]; rfl) | exact evg rfl hp | exact evg rfl hg | exact evg rfl (by first | (simp_all; done) | (simp [*]; done) | fail) | fail) (by rfl)) rfl rfl ?_
      refine o_gyes rfl ?_
      refine oG (g_pick (b := false) (evv rfl) (fun h => by cases h) (fun _ => (evv rfl))) rfl rfl ?_
      refine oG (g_pick (b := false) (evv rfl) (fun h => by cases h) (fun _ => (evv rfl))) rfl rfl ?_
      refine oN ?_
      refine cC ?_
      refine r_cond_false rfl ?_
      refine r_skip ?_
      refine cC ?_
      refine rS ?_
      refine rR (id := 3) ?_
      refine oG (gM (evv rfl)) rfl rfl ?_
      refine oG (gM (evv rfl)) rfl rfl ?_
      refine oG (g_nil (evv rfl)) rfl rfl ?_
      refine oG (g_fld (evv rfl)) rfl rfl ?_
      refine oG (g_idxA (evv rfl) (evv rfl) (by omega) (by omega)) rfl rfl ?_
      refine oG (g_fld (evv rfl)) rfl rfl ?_
      refine oG (g_load (evv rfl) (by rfl) (by rfl)) rfl rfl ?_
      refine oG (gA (evv rfl)) rfl rfl ?_
      refine oN ?_
      refine cC ?_
      first | refine r_ret (rs := [.tmp 4]) rfl rfl _ (pt_shut) ?_ | refine c_end (rs := [.tmp 4]) rfl rfl _ (pt_shut) ?_
      (refine ⟨?_, ?_⟩ <;> first | rfl | trivial | omega)
    · refine rS ?_
      refine rR (id := 0) ?_
      refine oG (gA (evv rfl)) rfl rfl ?_
      refine oN ?_
      refine cC ?_
      refine rS ?_
      refine rS ?_
      refine rR (id := 1) ?_
      refine oG (gM (evv rfl)) rfl rfl ?_
      refine oG (g_pnil TyU.h (evv rfl) (evv rfl) (by simp) (by rfl)) rfl rfl ?_
      refine oG (gM (evv rfl)) rfl rfl ?_
      refine o_gyes rfl ?_
      refine oG (gM (evv rfl)) rfl rfl ?_
      refine o_gyes rfl ?_
      refine oG (g_bin (evv rfl) (evv rfl) (by rfl)) rfl rfl ?_
      refine o_gyes rfl ?_
      refine oG (gM (evv rfl)) rfl rfl ?_
      refine o_gyes rfl ?_
      refine oG (gM (evv rfl)) rfl rfl ?_
      refine o_gyes rfl ?_
      refine oG (g_bin (evv rfl) (evv rfl) (by rfl)) rfl rfl ?_
      refine o_gyes rfl ?_
      refine oG (g_pick (b := true) (evv rfl) (fun _ => (evv rfl)) (fun h => by cases h)) rfl rfl ?_
      refine oG (g_pick (b := false) (evv rfl) (fun h => by cases h) (fun _ => (evv rfl))) rfl rfl ?_
      refine oN ?_
      refine cC ?_
      refine r_cond_false rfl ?_
      refine r_skip ?_
      refine cC ?_
      refine rS ?_
      refine rR (id := 3) ?_
      refine oG (gM (evv rfl)) rfl rfl ?_
      refine oG (gM (evv rfl)) rfl rfl ?_
      refine oG (g_nil (evv rfl)) rfl rfl ?_
      refine oG (g_fld (evv rfl)) rfl rfl ?_
      refine oG (g_idxA (evv rfl) (evv rfl) (by omega) (by omega)) rfl rfl ?_
      refine oG (g_fld (evv rfl)) rfl rfl ?_
      refine oG (g_load (evv rfl) (by rfl) (by rfl)) rfl rfl ?_
      refine oG (gA (evv rfl)) rfl rfl ?_
      refine oN ?_
      refine cC ?_
      first | refine r_ret (rs := [.tmp 4]) rfl rfl _ (pt_shut) ?_ | refine c_end (rs := [.tmp 4]) rfl rfl _ (pt_shut) ?_
      (refine ⟨?_, ?_⟩ <;> first | rfl | trivial | omega)
  · simp only [syT, if_neg (show ¬ at_ = 0 by omega), if_neg (show ¬ at_ = 1 by omega)]
    refine rS ?_
    refine rR (id := 0) ?_
    refine oG (gA (evv rfl)) rfl rfl ?_
    refine oN ?_
    refine cC ?_
    refine rS ?_
    refine rS ?_
    refine rR (id := 1) ?_
    refine oG (gM (evv rfl)) rfl rfl ?_
    refine oG (g_pnil TyU.h (evv rfl) (evv rfl) (by simp) (by rfl)) rfl rfl ?_
    refine oG (gM (evv rfl)) rfl rfl ?_
    refine o_gyes rfl ?_
    refine oG (gM (evv rfl)) rfl rfl ?_
    refine o_gyes rfl ?_
    refine oG (g_bin (evv rfl) (evv rfl) (by rfl)) rfl rfl ?_
    refine o_gyes rfl ?_
    refine oG (gM (evv rfl)) rfl rfl ?_
    refine o_lazy rfl (fun hg => gM (by first | exact evv rfl | exact evg rfl (by rw [hp]; rfl) | exact evg rfl hp | exact evg rfl hg | exact evg rfl (by first | (simp_all; done) | (simp [*]; done) | fail) | fail)) rfl rfl ?_
    refine o_lazy rfl (fun hg => g_bin (by first | exact evv rfl | exact evg rfl (by rw [hp]; rfl) | exact evg rfl hp | exact evg rfl hg | exact evg rfl (by first | (simp_all; done) | (simp [*]; done) | fail) | fail) (by first | exact evv rfl | exact evg rfl (by rw [hp]; rfl) | exact evg rfl hp | exact evg rfl hg | exact evg rfl (by first | (simp_all; done) | (simp [*]; done) | fail) | fail) (by rfl)) rfl rfl ?_
    refine o_gyes rfl ?_
    refine oG (g_pick_and (evv rfl) (evv rfl) (fun hp => (by first | exact evv rfl | exact evg rfl (by rw [hp]; rfl) | exact evg rfl hp | exact evg rfl hg | exact evg rfl (by first | (simp_all; done) | (simp [*]; done) | fail) | fail))) rfl rfl ?_
    refine oG (g_pick (b := false) (evv rfl) (fun h => by cases h) (fun _ => (evv rfl))) rfl rfl ?_
    refine oN ?_
    refine cC ?_
    refine r_cond rfl (fun c1 => ?_) (fun c1 => ?_) <;> (try simp only [decide_eq_true_eq, decide_eq_false_iff_not, Bool.and_eq_true, Bool.or_eq_true, Bool.not_eq_true', Bool.and_eq_false_iff, Bool.or_eq_false_iff, Bool.not_eq_false', Bool.not_eq_true, Bool.not_eq_false, Bool.true_eq_false, Bool.false_eq_true, Int.not_lt, Int.not_le, not_and, not_or, ne_eq] at c1)
    · refine rS ?_
      refine rR (id := 2) ?_
      refine oG (gA (evv rfl)) rfl rfl ?_
      refine oN ?_
      refine cC ?_
      first | refine r_ret (rs := [.tmp 4]) rfl rfl _ (pt_shut) ?_ | refine c_end (rs := [.tmp 4]) rfl rfl _ (pt_shut) ?_
      (refine ⟨?_, ?_⟩ <;> first | rfl | trivial | omega)
    · exfalso; omega
end VK

namespace VK
open Go Go.Proofs
set_option linter.unusedSimpArgs false
set_option linter.unusedVariables false
set_option maxRecDepth 100000
set_option maxHeartbeats 40000000
theorem pt_open {p : Nat} {b0 b1 : List UInt8} {s0 s1 lv am : Nat} {dn : Bool} {c : Cx} {k : List KI} {E : Env} {L : List Atom} {x : Code} (h : ∀ v0 v1, Run c x k E (blk p ⟨[v0, .int .i64 (s0 : Int), v1, .int .i64 (s1 : Int), .int .i64 (lv : Int), .int .i64 (am : Int), .bool dn], 85⟩ :: rom [(v0, bR b0), (v1, bR b1)] :: L)) : Run c x k E (pt p ⟨b0, s0, b1, s1, lv, am, dn⟩ :: L) :=
  r_exA fun vs => h vs.1 vs.2
theorem New_c (F : List Atom) : Fn Try.prog 11 [] F fun v L' => ∃ p, v = .pointer (some ⟨p, 0, none⟩) ∧ L' = pt p zeroPt :: F := by
  refine fn_intro Try.func11 rfl Try.ntmps11 rfl (fun W0 => ?_)
  simp only [argE]
  refine rS ?_
  refine rR (id := 0) ?_
  refine oG (gA (evv rfl)) rfl rfl ?_
  refine oN ?_
  refine cC ?_
  refine rS ?_
  refine rR (id := 1) ?_
  refine oG (v := agg [(Go.Value.slice none 0 0), (Go.Value.int Go.IntKind.i64 0), (Go.Value.slice none 0 0), (Go.Value.int Go.IntKind.i64 0), (Go.Value.int Go.IntKind.i64 0), (Go.Value.int Go.IntKind.i64 0), (Go.Value.bool false)]) (g_buildC rfl (by rfl)) rfl rfl ?_
  refine o_boxA (evv rfl) rfl (fun _ => ?_)
  refine oG (gA (evv rfl)) rfl rfl ?_
  refine oN ?_
  refine cC ?_
  rename_i p
  first | refine r_ret (rs := [.tmp 0]) rfl rfl _ ((Ent.cons ((Ent.romNil.trans Ent.romNilIn).trans Ent.romNilIn)).trans (pt_shut (b0 := []) (b1 := []) (s0 := 0) (s1 := 0) (lv := 0) (am := 0) (dn := false))) ?_ | refine c_end (rs := [.tmp 0]) rfl rfl _ ((Ent.cons ((Ent.romNil.trans Ent.romNilIn).trans Ent.romNilIn)).trans (pt_shut (b0 := []) (b1 := []) (s0 := 0) (s1 := 0) (lv := 0) (am := 0) (dn := false))) ?_
  exact ⟨p, rfl, rfl⟩
def armT (x : Pt) (c : Int) : Pt := if x.down = true then x else { x with armed := (max c 0).toNat }
theorem Arm_c (F : List Atom) (p : Nat) (x : Pt) (c : Int) :
    Fn Try.prog 18 [.pointer (some ⟨p, 0, none⟩), .int .i64 c] (pt p x :: F) fun v L' => v = .tuple #[] ∧ L' = pt p (armT x c) :: F := by
  obtain ⟨b0, s0, b1, s1, lv, am, dn⟩ := x
  refine fn_intro Try.func18 rfl Try.ntmps18 rfl (fun W0 => ?_)
  simp only [argE]
  refine pt_open fun v0 v1 => ?_
  cases dn with
  | true =>
    refine rS ?_
    refine rR (id := 0) ?_
    refine oG (gM (evv rfl)) rfl rfl ?_
    refine oG (g_pnil TyU.h (evv rfl) (evv rfl) (by simp) (by rfl)) rfl rfl ?_
    refine oG (gM (evv rfl)) rfl rfl ?_
    refine o_gyes rfl ?_
    refine oG (gM (evv rfl)) rfl rfl ?_
    refine o_gyes rfl ?_
    refine oG (g_nil (evv rfl)) rfl rfl ?_
    refine o_gyes rfl ?_
    refine oG (g_fld (evv rfl)) rfl rfl ?_
    refine o_gyes rfl ?_
    refine oG (g_load (evv rfl) (by rfl) (by rfl)) rfl rfl ?_
    refine o_gyes rfl ?_
    refine oG (g_not (evv rfl)) rfl rfl ?_
    refine oG (g_pick (b := true) (evv rfl) (fun _ => (evv rfl)) (fun h => by cases h)) rfl rfl ?_
    refine oN ?_
    refine cC ?_
    refine r_cond_false rfl ?_
    refine r_skip ?_
    first | refine r_ret (rs := []) rfl rfl _ (pt_shut) ?_ | refine c_end (rs := []) rfl rfl _ (pt_shut) ?_
    (refine ⟨?_, ?_⟩ <;> first | rfl | trivial | omega)
  | false =>
    have e1 : max c 0 = (((max c 0).toNat : Nat) : Int) := by omega
    refine rS ?_
    refine rR (id := 0) ?_
    refine oG (gM (evv rfl)) rfl rfl ?_
    refine oG (g_pnil TyU.h (evv rfl) (evv rfl) (by simp) (by rfl)) rfl rfl ?_
    refine oG (gM (evv rfl)) rfl rfl ?_
    refine o_gyes rfl ?_
    refine oG (gM (evv rfl)) rfl rfl ?_
    refine o_gyes rfl ?_
    refine oG (g_nil (evv rfl)) rfl rfl ?_
    refine o_gyes rfl ?_
    refine oG (g_fld (evv rfl)) rfl rfl ?_
    refine o_gyes rfl ?_
    refine oG (g_load (evv rfl) (by rfl) (by rfl)) rfl rfl ?_
    refine o_gyes rfl ?_
    refine oG (g_not (evv rfl)) rfl rfl ?_
    refine oG (g_pick (b := true) (evv rfl) (fun _ => (evv rfl)) (fun h => by cases h)) rfl rfl ?_
    refine oN ?_
    refine cC ?_
    refine r_cond_true rfl ?_
    refine rR (id := 1) ?_
    refine oG (gM (evv rfl)) rfl rfl ?_
    refine oG (gM (evv rfl)) rfl rfl ?_
    refine oG (g_max2 (evv rfl) (evv rfl)) rfl rfl ?_
    refine oG (g_nil (evv rfl)) rfl rfl ?_
    refine oG (g_fld (evv rfl)) rfl rfl ?_
    refine o_store1 (evv rfl) (evv rfl) (by rfl) (by rfl) (by rfl) ?_
    refine oN ?_
    rw [e1]
    skip
    first | refine r_ret (rs := []) rfl rfl _ (pt_shut) ?_ | refine c_end (rs := []) rfl rfl _ (pt_shut) ?_
    (refine ⟨?_, ?_⟩ <;> first | rfl | trivial | omega)
def moreT (ks : List Int) (i n s : Nat) : Nat := if i < ks.length then min (max (ks.getD i default) 0).toNat (n - s) else 0
def cutAt (ks : List Int) (i : Nat) (b : List UInt8) (s : Nat) : List UInt8 := b.take (s + moreT ks i b.length s)
def cutT (x : Pt) (ks : List Int) : Pt := ⟨cutAt ks 0 x.b0 x.s0, (cutAt ks 0 x.b0 x.s0).length, cutAt ks 1 x.b1 x.s1, (cutAt ks 1 x.b1 x.s1).length, x.live, 0, false⟩
theorem cut_le (ks : List Int) (i : Nat) (b : List UInt8) (s : Nat) : (cutAt ks i b s).length ≤ b.length := by simp only [cutAt, List.length_take]; omega
theorem more_le (ks : List Int) (i n s : Nat) : moreT ks i n s ≤ n - s := by unfold moreT; split <;> omega
theorem Cut_c (F : List Atom) (p : Nat) (x : Pt) (h : x.ok) (kv : Value) (ks : List Int) [rd : Rd F kv (mrow i64v 3 ks)] (hk : ∀ k ∈ ks, inR .i64 k) :
    Fn Try.prog 29 [.pointer (some ⟨p, 0, none⟩), kv] (pt p x :: F) fun v L' => v = .tuple #[] ∧ L' = pt p (cutT x ks) :: F := by
  refine fn_lenM (rd.ent Ent.drop) fun hlen => ?_
  have hlen : ks.length ≤ 2 ^ 63 - 1 := hlen
  obtain ⟨hl, ha, hb, hn0, hn1, har⟩ := h
  obtain ⟨b0, s0, b1, s1, lv, am, dn⟩ := x
  dsimp only at hl ha hb hn0 hn1 har
  refine fn_intro Try.func29 rfl Try.ntmps29 rfl (fun W0 => ?_)
  simp only [argE]
  refine rS ?_
  refine rS ?_
  refine rR (id := 0) ?_
  refine oG (gM (evv rfl)) rfl rfl ?_
  refine oG (g_pnil TyU.h (evv rfl) (evv rfl) (by simp) (by rfl)) rfl rfl ?_
  refine oN ?_
  refine cC ?_
  refine r_cond_false rfl ?_
  refine r_skip ?_
  refine cC ?_
  refine rS ?_
  refine rS ?_
  refine rR (id := 1) ?_
  refine oG (gM (evv rfl)) rfl rfl ?_
  refine oN ?_
  refine cC ?_
  refine r_block ?_
  have key : ∀ b0 : List UInt8, True := fun _ => trivial
  clear key
  refine r_exA fun vs => ?_
  obtain ⟨v0, v1⟩ := vs
  dsimp only [ptX, ptB, List.cons_append, List.nil_append]
  refine r_loopE (σ := Nat × Value × Value × List UInt8 × Nat × List UInt8 × Nat) (fun ⟨i, u0, u1, c0, t0, c1, t1⟩ => i ≤ 2 ∧ c0 = (if i = 0 then b0 else cutAt ks 0 b0 s0) ∧ t0 = (if i = 0 then s0 else (cutAt ks 0 b0 s0).length) ∧ c1 = (if i < 2 then b1 else cutAt ks 1 b1 s1) ∧ t1 = (if i < 2 then s1 else (cutAt ks 1 b1 s1).length)) (fun ⟨i, u0, u1, c0, t0, c1, t1⟩ => 2 - i) (fun ⟨i, u0, u1, c0, t0, c1, t1⟩ => [(9, .v (.int .i64 i))]) [0, 1] (fun ⟨i, u0, u1, c0, t0, c1, t1⟩ => blk p ⟨[u0, .int .i64 (t0 : Int), u1, .int .i64 (t1 : Int), .int .i64 (lv : Int), .int .i64 (am : Int), .bool dn], 85⟩ :: rom [(u0, bR c0), (u1, bR c1)] :: F) (0, v0, v1, b0, s0, b1, s1) (by dsimp only [pickE, pick1, lk2, Nat.reduceBEq, Nat.reduceAdd, Nat.zero_add, cond_true, cond_false] <;> exact rfl) ?_ (by repeat (first | exact trivial | refine ⟨rfl, ?_⟩ | refine envsub_v rfl (by first | rfl | (refine int_eq ?_; first | omega | (simp; omega) | (simp; done)) | (refine bool_eq ?_; first | (simp [*]; done) | (simp; done)) | (refine str_eq ?_; simp; done) | (refine ptr_eq ?_; omega) | fail) ?_)) ?_ ?_
  · exact ⟨by omega, rfl, rfl, rfl, rfl⟩
  · exact Ent.refl _
  rintro ⟨i, u0, u1, c0, t0, c1, t1⟩ ⟨hi, e1, e2, e3, e4⟩; dsimp only [List.cons_append, List.nil_append]
  rcases (by omega : i = 0 ∨ i = 1 ∨ i = 2) with rfl | rfl | rfl
  · simp [show ¬ (1 : Nat) = 0 from by decide] at e1 e2 e3 e4
    rw [e1, e2, e3, e4]
    clear e1 e2 e3 e4
    have hm := more_le ks 0 b0.length s0
    have hc0 := cut_le ks 0 b0 s0
    have hc1 := cut_le ks 1 b1 s1
    refine rS ?_
    refine rR (id := 2) ?_
    refine oG (g_bin (evv rfl) (evv rfl) (by rfl)) rfl rfl ?_
    refine oN ?_
    refine cC ?_
    refine rS ?_
    refine r_cond_true rfl ?_
    refine r_skip ?_
    refine cC ?_
    refine rS ?_
    refine r_block ?_
    refine rS ?_
    refine rR (id := 3) ?_
    refine oG (gM (evv rfl)) rfl rfl ?_
    refine oG (gA (evv rfl)) rfl rfl ?_
    refine oN ?_
    refine cC ?_
    refine rS ?_
    refine rR (id := 4) ?_
    refine oG (gM (evv rfl)) rfl rfl ?_
    refine oG (gM (evv rfl)) rfl rfl ?_
    refine oG (g_nil (evv rfl)) rfl rfl ?_
    refine oG (g_fld (evv rfl)) rfl rfl ?_
    refine oG (g_idxAN (evv rfl) (evv rfl) (by omega)) rfl rfl ?_
    refine oG (gA (evv rfl)) rfl rfl ?_
    refine oN ?_
    refine cC ?_
    refine rS ?_
    refine rR (id := 5) ?_
    refine oG (gA (evv rfl)) rfl rfl ?_
    refine oN ?_
    refine cC ?_
    refine rS ?_
    refine rS ?_
    refine rR (id := 6) ?_
    refine oG (gM (evv rfl)) rfl rfl ?_
    refine oG (gM (evv rfl)) rfl rfl ?_
    refine oG (g_lenM (evv rfl)) rfl rfl ?_
    refine oG (g_bin (evv rfl) (evv rfl) (by rfl)) rfl rfl ?_
    refine oN ?_
    refine cC ?_
    repeat (first | refine rS ?_ | refine cC ?_ | refine c_blk ?_ | refine r_block ?_ | refine r_skip ?_)
    refine r_cutE (σ := Unit) (fun u => [(6, .v (.int .i64 ((moreT ks 0 b0.length s0 : Nat) : Int)))]) [0,1,5,9] (fun u => blk p ⟨[u0, .int .i64 (s0 : Int), u1, .int .i64 (s1 : Int), .int .i64 (lv : Int), .int .i64 (am : Int), .bool dn], 85⟩ :: rom [(u0, bR b0), (u1, bR b1)] :: F) (by dsimp only [pickE, pick1, lk2, Nat.reduceBEq, Nat.reduceAdd, Nat.zero_add, cond_true, cond_false] <;> exact rfl) ?_ ?_
    · refine r_cond rfl (fun hk0 => ?_) (fun hk0 => ?_) <;> (try simp only [decide_eq_true_eq, decide_eq_false_iff_not, Bool.and_eq_true, Bool.or_eq_true, Bool.not_eq_true', Bool.and_eq_false_iff, Bool.or_eq_false_iff, Bool.not_eq_false', Bool.not_eq_true, Bool.not_eq_false, Bool.true_eq_false, Bool.false_eq_true, Int.not_lt, Int.not_le, not_and, not_or, ne_eq] at hk0)
      · have e5 : min (max (ks.getD 0 default) 0) ((b0.length : Int) - (s0 : Int)) = ((moreT ks 0 b0.length s0 : Nat) : Int) := by
          unfold moreT
          rw [if_pos (by omega)]
          omega
        refine r_quiet (id := 7) Mixed.h (by kernel_rfl) ?_
        refine q_give (gM (evv rfl)) rfl rfl ?_
        refine q_give (gM (evv rfl)) rfl rfl ?_
        refine q_give (g_idxMN (evv rfl) (evv rfl) (by rfl) (by first | omega | (have := of_decide_eq_true hg; omega) | (simp at hg; omega) | (simp only [List.length_set, List.length_append, List.length_cons, List.length_nil, List.length_map, List.length_take, List.length_drop, List.length_replicate]; omega))) rfl rfl ?_
        refine q_give (g_loadM (evv rfl) (by rfl) (by first | omega | (have := of_decide_eq_true hg; omega) | (simp at hg; omega) | (simp only [List.length_set, List.length_append, List.length_cons, List.length_nil, List.length_map, List.length_take, List.length_drop, List.length_replicate]; omega))) rfl rfl ?_
        refine q_give (g_max2 (evv rfl) (evv rfl)) rfl rfl ?_
        refine q_give (gM (evv rfl)) rfl rfl ?_
        refine q_give (g_nil (evv rfl)) rfl rfl ?_
        refine q_give (g_fld (evv rfl)) rfl rfl ?_
        refine q_give (g_load (evv rfl) (by rfl) (by rfl)) rfl rfl ?_
        refine q_give (g_lenM (evv rfl)) rfl rfl ?_
        refine q_give (gM (evv rfl)) rfl rfl ?_
        refine q_give (g_nil (evv rfl)) rfl rfl ?_
        refine q_give (g_fld (evv rfl)) rfl rfl ?_
        refine q_give (g_load (evv rfl) (by rfl) (by rfl)) rfl rfl ?_
        refine q_giveN (g_bin (evv rfl) (evv rfl) (by rfl)) (by simp only [inR]; omega) rfl ?_
        refine q_give (g_min2 (evv rfl) (evv rfl)) rfl rfl ?_
        refine q_give (gA (evv rfl)) rfl rfl ?_
        refine q_nil ?_
        simp only [i64v] at *
        rw [e5]
        exact c_cut () (by repeat (first | exact trivial | refine ⟨rfl, ?_⟩ | refine envsub_v rfl (by first | rfl | (refine int_eq ?_; first | omega | (simp; omega) | (simp; done)) | (refine bool_eq ?_; first | (simp [*]; done) | (simp; done)) | (refine str_eq ?_; simp; done) | (refine ptr_eq ?_; omega) | fail) ?_)) (Lay.ent)
      · have e6 : moreT ks 0 b0.length s0 = 0 := by unfold moreT; rw [if_neg (by omega)]
        rw [e6]
        refine r_skip ?_
        exact c_cut () (by repeat (first | exact trivial | refine ⟨rfl, ?_⟩ | refine envsub_v rfl (by first | rfl | (refine int_eq ?_; first | omega | (simp; omega) | (simp; done)) | (refine bool_eq ?_; first | (simp [*]; done) | (simp; done)) | (refine str_eq ?_; simp; done) | (refine ptr_eq ?_; omega) | fail) ?_)) (Lay.ent)
    intro u
    dsimp only [List.cons_append, List.nil_append]
    have e7 : (b0.drop 0).take (s0 + moreT ks 0 b0.length s0 - 0) = cutAt ks 0 b0 s0 := by simp only [cutAt, List.drop_zero, Nat.sub_zero]
    repeat (first | refine rS ?_ | refine cC ?_ | refine c_blk ?_ | refine r_block ?_ | refine r_skip ?_)
    refine r_cutE (σ := Value) (fun w => []) [0, 1, 4, 5, 6, 9, 10, 11, 12, 13, 14, 15, 16, 17, 18, 19, 20, 21, 22, 23, 24, 25, 26, 27, 28, 29, 30, 31, 32, 33, 34, 35, 36] (fun w => sl w (bR (cutAt ks 0 b0 s0)) :: blk p ⟨[w, .int .i64 (s0 : Int), u1, .int .i64 (s1 : Int), .int .i64 (lv : Int), .int .i64 (am : Int), .bool dn], 85⟩ :: rom [(u0, bR b0), (u1, bR b1)] :: F) (by dsimp only [pickE, pick1, lk2, Nat.reduceBEq, Nat.reduceAdd, Nat.zero_add, cond_true, cond_false] <;> exact rfl) ?_ ?_
    · refine r_held (id := 8) [] Mixed.h ?_
      (refine h_give (i := 0) (by kernel_rfl) rfl (gM (evv rfl)) rfl rfl ?_)
      (refine h_give (i := 1) (by kernel_rfl) rfl (gM (evv rfl)) rfl rfl ?_)
      (refine h_give (i := 2) (by kernel_rfl) rfl (g_nil (evv rfl)) rfl rfl ?_)
      (refine h_give (i := 3) (by kernel_rfl) rfl (g_fld (evv rfl)) rfl rfl ?_)
      (refine h_give (i := 5) (by kernel_rfl) rfl (gM (evv rfl)) rfl rfl ?_)
      (refine h_give (i := 6) (by kernel_rfl) rfl (g_nil (evv rfl)) rfl rfl ?_)
      (refine h_give (i := 7) (by kernel_rfl) rfl (g_fld (evv rfl)) rfl rfl ?_)
      (refine h_give (i := 9) (by kernel_rfl) rfl (gM (evv rfl)) rfl rfl ?_)
      refine h_two (i := 4) (j := 8) (by kernel_rfl) rfl rfl (Ent.nil _) ?_ ?_
      · (refine oG (g_load (evv rfl) (by rfl) (by rfl)) rfl rfl ?_); refine oN ?_
        refine h_one (i := 8) (by kernel_rfl) rfl (Ent.nil _) ?_
        (refine oG (g_load (evv rfl) (by rfl) (by rfl)) rfl rfl ?_); refine oN ?_
        (refine h_giveN (i := 10) (by kernel_rfl) rfl (g_bin (evv rfl) (evv rfl) (by rfl)) (by simp only [inR]; omega) rfl ?_)
        refine h_one (i := 11) (by kernel_rfl) rfl (Ent.nil _) ?_
        (refine oG (g_subM (evv rfl) _ _ bnd_none (bnd_some (evv rfl) rfl) (by rfl) (by omega) (by first | omega | (simp only [List.length_append, List.length_cons, List.length_nil, List.length_set, List.length_map]; omega))) rfl rfl ?_); refine oN ?_
        refine h_one (i := 12) (by kernel_rfl) rfl (Ent.nil _) ?_
        ((refine o_call rfl _ (Ent.refl _) (Clone_c _ _ _ (by first | assumption | omega | (simp only [List.length_take, List.length_drop]; omega))) rfl ?_; rintro cw _ ⟨-, rfl⟩)); refine oN ?_
        (refine h_give (i := 13) (by kernel_rfl) rfl (g_nil (evv rfl)) rfl rfl ?_)
        (refine h_give (i := 14) (by kernel_rfl) rfl (g_fld (evv rfl)) rfl rfl ?_)
        refine h_one (i := 15) (by kernel_rfl) rfl (Ent.nil _) ?_
        (refine o_store1 (evv rfl) (evv rfl) (by rfl) (by rfl) (by rfl) ?_); refine oN ?_
        refine h_done (by kernel_rfl) (Ent.nil _) ?_
        exact c_cut cw (by repeat (first | exact trivial | refine ⟨rfl, ?_⟩ | refine envsub_v rfl (by first | rfl | (refine int_eq ?_; first | omega | (simp; omega) | (simp; done)) | (refine bool_eq ?_; first | (simp [*]; done) | (simp; done)) | (refine str_eq ?_; simp; done) | (refine ptr_eq ?_; omega) | fail) ?_)) (by rw [← e7]; exact Lay.ent)
      · (refine oG (g_load (evv rfl) (by rfl) (by rfl)) rfl rfl ?_); refine oN ?_
        (refine h_giveN (i := 10) (by kernel_rfl) rfl (g_bin (evv rfl) (evv rfl) (by rfl)) (by simp only [inR]; omega) rfl ?_)
        refine h_one (i := 4) (by kernel_rfl) rfl (Ent.nil _) ?_
        (refine oG (g_load (evv rfl) (by rfl) (by rfl)) rfl rfl ?_); refine oN ?_
        refine h_one (i := 11) (by kernel_rfl) rfl (Ent.nil _) ?_
        (refine oG (g_subM (evv rfl) _ _ bnd_none (bnd_some (evv rfl) rfl) (by rfl) (by omega) (by first | omega | (simp only [List.length_append, List.length_cons, List.length_nil, List.length_set, List.length_map]; omega))) rfl rfl ?_); refine oN ?_
        refine h_one (i := 12) (by kernel_rfl) rfl (Ent.nil _) ?_
        ((refine o_call rfl _ (Ent.refl _) (Clone_c _ _ _ (by first | assumption | omega | (simp only [List.length_take, List.length_drop]; omega))) rfl ?_; rintro cw _ ⟨-, rfl⟩)); refine oN ?_
        (refine h_give (i := 13) (by kernel_rfl) rfl (g_nil (evv rfl)) rfl rfl ?_)
        (refine h_give (i := 14) (by kernel_rfl) rfl (g_fld (evv rfl)) rfl rfl ?_)
        refine h_one (i := 15) (by kernel_rfl) rfl (Ent.nil _) ?_
        (refine o_store1 (evv rfl) (evv rfl) (by rfl) (by rfl) (by rfl) ?_); refine oN ?_
        refine h_done (by kernel_rfl) (Ent.nil _) ?_
        exact c_cut cw (by repeat (first | exact trivial | refine ⟨rfl, ?_⟩ | refine envsub_v rfl (by first | rfl | (refine int_eq ?_; first | omega | (simp; omega) | (simp; done)) | (refine bool_eq ?_; first | (simp [*]; done) | (simp; done)) | (refine str_eq ?_; simp; done) | (refine ptr_eq ?_; omega) | fail) ?_)) (by rw [← e7]; exact Lay.ent)
    intro w
    dsimp only [List.cons_append, List.nil_append]
    refine cC ?_
    refine rR (id := 9) ?_
    refine oG (gM (evv rfl)) rfl rfl ?_
    refine oG (gM (evv rfl)) rfl rfl ?_
    refine oG (g_nil (evv rfl)) rfl rfl ?_
    refine oG (g_fld (evv rfl)) rfl rfl ?_
    refine oG (g_load (evv rfl) (by rfl) (by rfl)) rfl rfl ?_
    refine oG (g_lenM (evv rfl)) rfl rfl ?_
    refine oG (g_nil (evv rfl)) rfl rfl ?_
    refine oG (g_fld (evv rfl)) rfl rfl ?_
    refine o_store1 (evv rfl) (evv rfl) (by rfl) (by rfl) (by rfl) ?_
    refine oN ?_
    refine c_blk ?_
    refine cC ?_
    refine rR (id := 10) ?_
    refine o_giveN (g_bin (evv rfl) (evv rfl) (by rfl)) (by simp only [inR]; omega) rfl ?_
    refine oG (gM (evv rfl)) rfl rfl ?_
    refine oN ?_
    refine c_loop (1, w, u1, cutAt ks 0 b0 s0, (cutAt ks 0 b0 s0).length, b1, s1) ?_ ?_ (by repeat (first | exact trivial | refine ⟨rfl, ?_⟩ | refine envsub_v rfl (by first | rfl | (refine int_eq ?_; first | omega | (simp; omega) | (simp; done)) | (refine bool_eq ?_; first | (simp [*]; done) | (simp; done)) | (refine str_eq ?_; simp; done) | (refine ptr_eq ?_; omega) | fail) ?_)) ?_ <;> (try dsimp only)
    · exact ⟨by omega, by simp, by simp, by simp, by simp⟩
    · omega
    · exact Ent.swap.trans (Ent.cons (Ent.romIn.trans (romSubM (l' := [(w, bR (cutAt ks 0 b0 s0)), (u1, bR b1)]) (fun x hx => by simp only [List.mem_cons, List.not_mem_nil, or_false] at hx ⊢; rcases hx with rfl | rfl <;> simp))))
  · simp [show ¬ (1 : Nat) = 0 from by decide] at e1 e2 e3 e4
    rw [e1, e2, e3, e4]
    clear e1 e2 e3 e4
    have hm := more_le ks 1 b1.length s1
    have hc0 := cut_le ks 0 b0 s0
    have hc1 := cut_le ks 1 b1 s1
    refine rS ?_
    refine rR (id := 2) ?_
    refine oG (g_bin (evv rfl) (evv rfl) (by rfl)) rfl rfl ?_
    refine oN ?_
    refine cC ?_
    refine rS ?_
    refine r_cond_true rfl ?_
    refine r_skip ?_
    refine cC ?_
    refine rS ?_
    refine r_block ?_
    refine rS ?_
    refine rR (id := 3) ?_
    refine oG (gM (evv rfl)) rfl rfl ?_
    refine oG (gA (evv rfl)) rfl rfl ?_
    refine oN ?_
    refine cC ?_
    refine rS ?_
    refine rR (id := 4) ?_
    refine oG (gM (evv rfl)) rfl rfl ?_
    refine oG (gM (evv rfl)) rfl rfl ?_
    refine oG (g_nil (evv rfl)) rfl rfl ?_
    refine oG (g_fld (evv rfl)) rfl rfl ?_
    refine oG (g_idxAN (evv rfl) (evv rfl) (by omega)) rfl rfl ?_
    refine oG (gA (evv rfl)) rfl rfl ?_
    refine oN ?_
    refine cC ?_
    refine rS ?_
    refine rR (id := 5) ?_
    refine oG (gA (evv rfl)) rfl rfl ?_
    refine oN ?_
    refine cC ?_
    refine rS ?_
    refine rS ?_
    refine rR (id := 6) ?_
    refine oG (gM (evv rfl)) rfl rfl ?_
    refine oG (gM (evv rfl)) rfl rfl ?_
    refine oG (g_lenM (evv rfl)) rfl rfl ?_
    refine oG (g_bin (evv rfl) (evv rfl) (by rfl)) rfl rfl ?_
    refine oN ?_
    refine cC ?_
    repeat (first | refine rS ?_ | refine cC ?_ | refine c_blk ?_ | refine r_block ?_ | refine r_skip ?_)
    refine r_cutE (σ := Unit) (fun u => [(6, .v (.int .i64 ((moreT ks 1 b1.length s1 : Nat) : Int)))]) [0,1,5,9] (fun u => blk p ⟨[u0, .int .i64 ((cutAt ks 0 b0 s0).length : Int), u1, .int .i64 (s1 : Int), .int .i64 (lv : Int), .int .i64 (am : Int), .bool dn], 85⟩ :: rom [(u0, bR (cutAt ks 0 b0 s0)), (u1, bR b1)] :: F) (by dsimp only [pickE, pick1, lk2, Nat.reduceBEq, Nat.reduceAdd, Nat.zero_add, cond_true, cond_false] <;> exact rfl) ?_ ?_
    · refine r_cond rfl (fun hk0 => ?_) (fun hk0 => ?_) <;> (try simp only [decide_eq_true_eq, decide_eq_false_iff_not, Bool.and_eq_true, Bool.or_eq_true, Bool.not_eq_true', Bool.and_eq_false_iff, Bool.or_eq_false_iff, Bool.not_eq_false', Bool.not_eq_true, Bool.not_eq_false, Bool.true_eq_false, Bool.false_eq_true, Int.not_lt, Int.not_le, not_and, not_or, ne_eq] at hk0)
      · have e5 : min (max (ks.getD 1 default) 0) ((b1.length : Int) - (s1 : Int)) = ((moreT ks 1 b1.length s1 : Nat) : Int) := by
          unfold moreT
          rw [if_pos (by omega)]
          omega
        refine r_quiet (id := 7) Mixed.h (by kernel_rfl) ?_
        refine q_give (gM (evv rfl)) rfl rfl ?_
        refine q_give (gM (evv rfl)) rfl rfl ?_
        refine q_give (g_idxMN (evv rfl) (evv rfl) (by rfl) (by first | omega | (have := of_decide_eq_true hg; omega) | (simp at hg; omega) | (simp only [List.length_set, List.length_append, List.length_cons, List.length_nil, List.length_map, List.length_take, List.length_drop, List.length_replicate]; omega))) rfl rfl ?_
        refine q_give (g_loadM (evv rfl) (by rfl) (by first | omega | (have := of_decide_eq_true hg; omega) | (simp at hg; omega) | (simp only [List.length_set, List.length_append, List.length_cons, List.length_nil, List.length_map, List.length_take, List.length_drop, List.length_replicate]; omega))) rfl rfl ?_
        refine q_give (g_max2 (evv rfl) (evv rfl)) rfl rfl ?_
        refine q_give (gM (evv rfl)) rfl rfl ?_
        refine q_give (g_nil (evv rfl)) rfl rfl ?_
        refine q_give (g_fld (evv rfl)) rfl rfl ?_
        refine q_give (g_load (evv rfl) (by rfl) (by rfl)) rfl rfl ?_
        refine q_give (g_lenM (evv rfl)) rfl rfl ?_
        refine q_give (gM (evv rfl)) rfl rfl ?_
        refine q_give (g_nil (evv rfl)) rfl rfl ?_
        refine q_give (g_fld (evv rfl)) rfl rfl ?_
        refine q_give (g_load (evv rfl) (by rfl) (by rfl)) rfl rfl ?_
        refine q_giveN (g_bin (evv rfl) (evv rfl) (by rfl)) (by simp only [inR]; omega) rfl ?_
        refine q_give (g_min2 (evv rfl) (evv rfl)) rfl rfl ?_
        refine q_give (gA (evv rfl)) rfl rfl ?_
        refine q_nil ?_
        simp only [i64v] at *
        rw [e5]
        exact c_cut () (by repeat (first | exact trivial | refine ⟨rfl, ?_⟩ | refine envsub_v rfl (by first | rfl | (refine int_eq ?_; first | omega | (simp; omega) | (simp; done)) | (refine bool_eq ?_; first | (simp [*]; done) | (simp; done)) | (refine str_eq ?_; simp; done) | (refine ptr_eq ?_; omega) | fail) ?_)) (Lay.ent)
      · have e6 : moreT ks 1 b1.length s1 = 0 := by unfold moreT; rw [if_neg (by omega)]
        rw [e6]
        refine r_skip ?_
        exact c_cut () (by repeat (first | exact trivial | refine ⟨rfl, ?_⟩ | refine envsub_v rfl (by first | rfl | (refine int_eq ?_; first | omega | (simp; omega) | (simp; done)) | (refine bool_eq ?_; first | (simp [*]; done) | (simp; done)) | (refine str_eq ?_; simp; done) | (refine ptr_eq ?_; omega) | fail) ?_)) (Lay.ent)
    intro u
    dsimp only [List.cons_append, List.nil_append]
    have e7 : (b1.drop 0).take (s1 + moreT ks 1 b1.length s1 - 0) = cutAt ks 1 b1 s1 := by simp only [cutAt, List.drop_zero, Nat.sub_zero]
    repeat (first | refine rS ?_ | refine cC ?_ | refine c_blk ?_ | refine r_block ?_ | refine r_skip ?_)
    refine r_cutE (σ := Value) (fun w => []) [0, 1, 4, 5, 6, 9, 10, 11, 12, 13, 14, 15, 16, 17, 18, 19, 20, 21, 22, 23, 24, 25, 26, 27, 28, 29, 30, 31, 32, 33, 34, 35, 36] (fun w => sl w (bR (cutAt ks 1 b1 s1)) :: blk p ⟨[u0, .int .i64 ((cutAt ks 0 b0 s0).length : Int), w, .int .i64 (s1 : Int), .int .i64 (lv : Int), .int .i64 (am : Int), .bool dn], 85⟩ :: rom [(u0, bR (cutAt ks 0 b0 s0)), (u1, bR b1)] :: F) (by dsimp only [pickE, pick1, lk2, Nat.reduceBEq, Nat.reduceAdd, Nat.zero_add, cond_true, cond_false] <;> exact rfl) ?_ ?_
    · refine r_held (id := 8) [] Mixed.h ?_
      (refine h_give (i := 0) (by kernel_rfl) rfl (gM (evv rfl)) rfl rfl ?_)
      (refine h_give (i := 1) (by kernel_rfl) rfl (gM (evv rfl)) rfl rfl ?_)
      (refine h_give (i := 2) (by kernel_rfl) rfl (g_nil (evv rfl)) rfl rfl ?_)
      (refine h_give (i := 3) (by kernel_rfl) rfl (g_fld (evv rfl)) rfl rfl ?_)
      (refine h_give (i := 5) (by kernel_rfl) rfl (gM (evv rfl)) rfl rfl ?_)
      (refine h_give (i := 6) (by kernel_rfl) rfl (g_nil (evv rfl)) rfl rfl ?_)
      (refine h_give (i := 7) (by kernel_rfl) rfl (g_fld (evv rfl)) rfl rfl ?_)
      (refine h_give (i := 9) (by kernel_rfl) rfl (gM (evv rfl)) rfl rfl ?_)
      refine h_two (i := 4) (j := 8) (by kernel_rfl) rfl rfl (Ent.nil _) ?_ ?_
      · (refine oG (g_load (evv rfl) (by rfl) (by rfl)) rfl rfl ?_); refine oN ?_
        refine h_one (i := 8) (by kernel_rfl) rfl (Ent.nil _) ?_
        (refine oG (g_load (evv rfl) (by rfl) (by rfl)) rfl rfl ?_); refine oN ?_
        (refine h_giveN (i := 10) (by kernel_rfl) rfl (g_bin (evv rfl) (evv rfl) (by rfl)) (by simp only [inR]; omega) rfl ?_)
        refine h_one (i := 11) (by kernel_rfl) rfl (Ent.nil _) ?_
        (refine oG (g_subM (evv rfl) _ _ bnd_none (bnd_some (evv rfl) rfl) (by rfl) (by omega) (by first | omega | (simp only [List.length_append, List.length_cons, List.length_nil, List.length_set, List.length_map]; omega))) rfl rfl ?_); refine oN ?_
        refine h_one (i := 12) (by kernel_rfl) rfl (Ent.nil _) ?_
        ((refine o_call rfl _ (Ent.refl _) (Clone_c _ _ _ (by first | assumption | omega | (simp only [List.length_take, List.length_drop]; omega))) rfl ?_; rintro cw _ ⟨-, rfl⟩)); refine oN ?_
        (refine h_give (i := 13) (by kernel_rfl) rfl (g_nil (evv rfl)) rfl rfl ?_)
        (refine h_give (i := 14) (by kernel_rfl) rfl (g_fld (evv rfl)) rfl rfl ?_)
        refine h_one (i := 15) (by kernel_rfl) rfl (Ent.nil _) ?_
        (refine o_store1 (evv rfl) (evv rfl) (by rfl) (by rfl) (by rfl) ?_); refine oN ?_
        refine h_done (by kernel_rfl) (Ent.nil _) ?_
        exact c_cut cw (by repeat (first | exact trivial | refine ⟨rfl, ?_⟩ | refine envsub_v rfl (by first | rfl | (refine int_eq ?_; first | omega | (simp; omega) | (simp; done)) | (refine bool_eq ?_; first | (simp [*]; done) | (simp; done)) | (refine str_eq ?_; simp; done) | (refine ptr_eq ?_; omega) | fail) ?_)) (by rw [← e7]; exact Lay.ent)
      · (refine oG (g_load (evv rfl) (by rfl) (by rfl)) rfl rfl ?_); refine oN ?_
        (refine h_giveN (i := 10) (by kernel_rfl) rfl (g_bin (evv rfl) (evv rfl) (by rfl)) (by simp only [inR]; omega) rfl ?_)
        refine h_one (i := 4) (by kernel_rfl) rfl (Ent.nil _) ?_
        (refine oG (g_load (evv rfl) (by rfl) (by rfl)) rfl rfl ?_); refine oN ?_
        refine h_one (i := 11) (by kernel_rfl) rfl (Ent.nil _) ?_
        (refine oG (g_subM (evv rfl) _ _ bnd_none (bnd_some (evv rfl) rfl) (by rfl) (by omega) (by first | omega | (simp only [List.length_append, List.length_cons, List.length_nil, List.length_set, List.length_map]; omega))) rfl rfl ?_); refine oN ?_
        refine h_one (i := 12) (by kernel_rfl) rfl (Ent.nil _) ?_
        ((refine o_call rfl _ (Ent.refl _) (Clone_c _ _ _ (by first | assumption | omega | (simp only [List.length_take, List.length_drop]; omega))) rfl ?_; rintro cw _ ⟨-, rfl⟩)); refine oN ?_
        (refine h_give (i := 13) (by kernel_rfl) rfl (g_nil (evv rfl)) rfl rfl ?_)
        (refine h_give (i := 14) (by kernel_rfl) rfl (g_fld (evv rfl)) rfl rfl ?_)
        refine h_one (i := 15) (by kernel_rfl) rfl (Ent.nil _) ?_
        (refine o_store1 (evv rfl) (evv rfl) (by rfl) (by rfl) (by rfl) ?_); refine oN ?_
        refine h_done (by kernel_rfl) (Ent.nil _) ?_
        exact c_cut cw (by repeat (first | exact trivial | refine ⟨rfl, ?_⟩ | refine envsub_v rfl (by first | rfl | (refine int_eq ?_; first | omega | (simp; omega) | (simp; done)) | (refine bool_eq ?_; first | (simp [*]; done) | (simp; done)) | (refine str_eq ?_; simp; done) | (refine ptr_eq ?_; omega) | fail) ?_)) (by rw [← e7]; exact Lay.ent)
    intro w
    dsimp only [List.cons_append, List.nil_append]
    refine cC ?_
    refine rR (id := 9) ?_
    refine oG (gM (evv rfl)) rfl rfl ?_
    refine oG (gM (evv rfl)) rfl rfl ?_
    refine oG (g_nil (evv rfl)) rfl rfl ?_
    refine oG (g_fld (evv rfl)) rfl rfl ?_
    refine oG (g_load (evv rfl) (by rfl) (by rfl)) rfl rfl ?_
    refine oG (g_lenM (evv rfl)) rfl rfl ?_
    refine oG (g_nil (evv rfl)) rfl rfl ?_
    refine oG (g_fld (evv rfl)) rfl rfl ?_
    refine o_store1 (evv rfl) (evv rfl) (by rfl) (by rfl) (by rfl) ?_
    refine oN ?_
    refine c_blk ?_
    refine cC ?_
    refine rR (id := 10) ?_
    refine o_giveN (g_bin (evv rfl) (evv rfl) (by rfl)) (by simp only [inR]; omega) rfl ?_
    refine oG (gM (evv rfl)) rfl rfl ?_
    refine oN ?_
    refine c_loop (2, u0, w, cutAt ks 0 b0 s0, (cutAt ks 0 b0 s0).length, cutAt ks 1 b1 s1, (cutAt ks 1 b1 s1).length) ?_ ?_ (by repeat (first | exact trivial | refine ⟨rfl, ?_⟩ | refine envsub_v rfl (by first | rfl | (refine int_eq ?_; first | omega | (simp; omega) | (simp; done)) | (refine bool_eq ?_; first | (simp [*]; done) | (simp; done)) | (refine str_eq ?_; simp; done) | (refine ptr_eq ?_; omega) | fail) ?_)) ?_ <;> (try dsimp only)
    · exact ⟨by omega, by simp, by simp, by simp, by simp⟩
    · omega
    · exact Ent.swap.trans (Ent.cons (Ent.romIn.trans (romSubM (l' := [(u0, bR (cutAt ks 0 b0 s0)), (w, bR (cutAt ks 1 b1 s1))]) (fun x hx => by simp only [List.mem_cons, List.not_mem_nil, or_false] at hx ⊢; rcases hx with rfl | rfl <;> simp))))
  · simp [show ¬ (2 : Nat) = 0 from by decide] at e1 e2 e3 e4
    rw [e1, e2, e3, e4]
    refine rS ?_
    refine rR (id := 2) ?_
    refine oG (g_bin (evv rfl) (evv rfl) (by rfl)) rfl rfl ?_
    refine oN ?_
    refine cC ?_
    refine rS ?_
    refine r_cond_false rfl ?_
    refine r_exit rfl ?_
    refine cC ?_
    refine rR (id := 11) ?_
    refine oG (gM (evv rfl)) rfl rfl ?_
    refine oG (gM (evv rfl)) rfl rfl ?_
    refine oG (g_nil (evv rfl)) rfl rfl ?_
    refine oG (g_fld (evv rfl)) rfl rfl ?_
    refine o_store1 (evv rfl) (evv rfl) (by rfl) (by rfl) (by rfl) ?_
    refine oG (g_nil (evv rfl)) rfl rfl ?_
    refine oG (g_fld (evv rfl)) rfl rfl ?_
    refine o_store1 (evv rfl) (evv rfl) (by rfl) (by rfl) (by rfl) ?_
    refine oN ?_
    first | refine r_ret (rs := []) rfl rfl _ (pt_shut) ?_ | refine c_end (rs := []) rfl rfl _ (pt_shut) ?_
    (refine ⟨?_, ?_⟩ <;> first | rfl | trivial | omega)
end VK

namespace VK
open Go Go.Proofs
set_option linter.unusedSimpArgs false
set_option linter.unusedVariables false
set_option maxRecDepth 100000
set_option maxHeartbeats 40000000
end VK

namespace VK
open Go Go.Proofs
set_option linter.unusedSimpArgs false
set_option linter.unusedVariables false
set_option maxRecDepth 100000
set_option maxHeartbeats 40000000
abbrev rpB (b0 b1 : List UInt8) (s0 s1 lv am : Nat) (dn : Bool) : Blk := ⟨[str b0, str b1, .int .i64 (s0 : Int), .int .i64 (s1 : Int), .int .i64 (lv : Int), .int .i64 (am : Int), .bool dn], 57⟩
def rp (r : Nat) (x : Pt) : Atom := blk r (rpB x.b0 x.b1 x.s0 x.s1 x.live x.armed x.down)
theorem rp_open {r : Nat} {b0 b1 : List UInt8} {s0 s1 lv am : Nat} {dn : Bool} {c : Cx} {k : List KI} {E : Env} {L : List Atom} {x : Code} (h : Run c x k E (blk r (rpB b0 b1 s0 s1 lv am dn) :: L)) : Run c x k E (rp r ⟨b0, s0, b1, s1, lv, am, dn⟩ :: L) := h
theorem rp_shut {r : Nat} {b0 b1 : List UInt8} {s0 s1 lv am : Nat} {dn : Bool} {L : List Atom} : Ent (blk r (rpB b0 b1 s0 s1 lv am dn) :: L) (rp r ⟨b0, s0, b1, s1, lv, am, dn⟩ :: L) := Ent.refl _
theorem goes_c (F : List Atom) (r : Nat) (x : Pt) (hd : x.down = false) (ha : x.armed ≤ 9223372036854775807) :
    Fn Try.prog 57 [.pointer (some ⟨r, 0, none⟩)] (rp r x :: F) fun v L' => v = .bool (decide (x.armed = 1)) ∧ L' = rp r (tick x) :: F := by
  obtain ⟨b0, s0, b1, s1, lv, am, dn⟩ := x
  dsimp only at hd ha
  subst hd
  refine fn_intro Try.func57 rfl Try.ntmps57 rfl (fun W0 => ?_)
  simp only [argE]
  refine rp_open ?_
  refine rS ?_
  refine rR (id := 0) ?_
  refine oG (gA (evv rfl)) rfl rfl ?_
  refine oN ?_
  refine cC ?_
  refine rS ?_
  refine rS ?_
  refine rR (id := 1) ?_
  refine oG (gM (evv rfl)) rfl rfl ?_
  refine oG (g_nil (evv rfl)) rfl rfl ?_
  refine oG (g_fld (evv rfl)) rfl rfl ?_
  refine oG (g_load (evv rfl) (by rfl) (by rfl)) rfl rfl ?_
  refine oG (g_bin (evv rfl) (evv rfl) (by rfl)) rfl rfl ?_
  refine oN ?_
  refine cC ?_
  refine r_cond rfl (fun h => ?_) (fun h => ?_) <;> (try simp only [decide_eq_true_eq, decide_eq_false_iff_not, Bool.and_eq_true, Bool.or_eq_true, Bool.not_eq_true', Bool.and_eq_false_iff, Bool.or_eq_false_iff, Bool.not_eq_false', Bool.not_eq_true, Bool.not_eq_false, Bool.true_eq_false, Bool.false_eq_true, Int.not_lt, Int.not_le, not_and, not_or, ne_eq] at h)
  · have : am = 0 := by omega
    subst this
    refine rS ?_
    refine rR (id := 2) ?_
    refine oG (gA (evv rfl)) rfl rfl ?_
    refine oN ?_
    refine cC ?_
    first | refine r_ret (rs := [.tmp 2]) rfl rfl _ (rp_shut) ?_ | refine c_end (rs := [.tmp 2]) rfl rfl _ (rp_shut) ?_
    (refine ⟨?_, ?_⟩ <;> first | rfl | trivial | omega)
  · have e1 : (am : Int) - 1 = ((am - 1 : Nat) : Int) := by omega
    have e2 : decide ((am : Int) - 1 = 0) = decide (am = 1) := by rw [decide_eq_decide]; omega
    refine r_skip ?_
    refine cC ?_
    refine rS ?_
    refine rR (id := 3) ?_
    refine oG (gM (evv rfl)) rfl rfl ?_
    refine oG (g_nil (evv rfl)) rfl rfl ?_
    refine oG (g_fld (evv rfl)) rfl rfl ?_
    refine oG (g_load (evv rfl) (by rfl) (by rfl)) rfl rfl ?_
    refine o_giveN (g_bin (evv rfl) (evv rfl) (by rfl)) (by simp only [inR]; omega) rfl ?_
    refine oG (g_nil (evv rfl)) rfl rfl ?_
    refine oG (g_fld (evv rfl)) rfl rfl ?_
    refine o_store1 (evv rfl) (evv rfl) (by rfl) (by rfl) (by rfl) ?_
    refine oN ?_
    refine cC ?_
    refine rS ?_
    refine rR (id := 4) ?_
    refine oG (gM (evv rfl)) rfl rfl ?_
    refine oG (gM (evv rfl)) rfl rfl ?_
    refine oG (g_nil (evv rfl)) rfl rfl ?_
    refine oG (g_fld (evv rfl)) rfl rfl ?_
    refine oG (g_load (evv rfl) (by rfl) (by rfl)) rfl rfl ?_
    refine oG (g_bin (evv rfl) (evv rfl) (by rfl)) rfl rfl ?_
    refine oG (g_nil (evv rfl)) rfl rfl ?_
    refine oG (g_fld (evv rfl)) rfl rfl ?_
    refine o_store1 (evv rfl) (evv rfl) (by rfl) (by rfl) (by rfl) ?_
    refine oN ?_
    refine cC ?_
    refine rS ?_
    refine rR (id := 5) ?_
    refine oG (gM (evv rfl)) rfl rfl ?_
    refine oG (g_nil (evv rfl)) rfl rfl ?_
    refine oG (g_fld (evv rfl)) rfl rfl ?_
    refine oG (g_load (evv rfl) (by rfl) (by rfl)) rfl rfl ?_
    refine oG (gA (evv rfl)) rfl rfl ?_
    refine oN ?_
    refine cC ?_
    rw [e2, e1]
    first | refine r_ret (rs := [.tmp 2]) rfl rfl _ (rp_shut) ?_ | refine c_end (rs := [.tmp 2]) rfl rfl _ (rp_shut) ?_
    (refine ⟨?_, ?_⟩ <;> first | rfl | trivial | omega)
def keepT (ks : List Int) (i : Nat) : Nat := if i < ks.length then (max (ks.getD i default) 0).toNat else 0
theorem more_keep (ks : List Int) (i n s : Nat) : moreT ks i n s = min (keepT ks i) (n - s) := by unfold moreT keepT; split <;> omega
theorem rcut_c (F : List Atom) (r : Nat) (x : Pt) (h : x.ok) (kv : Value) (ks : List Int) [rd : Rd F kv (mrow i64v 3 ks)] (hk : ∀ k ∈ ks, inR .i64 k) :
    Fn Try.prog 56 [.pointer (some ⟨r, 0, none⟩), kv] (rp r x :: F) fun v L' => v = .tuple #[] ∧ L' = rp r (cutT x ks) :: F := by
  refine fn_lenM (rd.ent Ent.drop) fun hlen => ?_
  have hlen : ks.length ≤ 2 ^ 63 - 1 := hlen
  obtain ⟨hl, ha, hb, hn0, hn1, har⟩ := h
  obtain ⟨b0, s0, b1, s1, lv, am, dn⟩ := x
  dsimp only at hl ha hb hn0 hn1 har
  refine fn_intro Try.func56 rfl Try.ntmps56 rfl (fun W0 => ?_)
  simp only [argE]
  refine rp_open ?_
  refine rS ?_
  refine rS ?_
  refine rR (id := 0) ?_
  refine oG (gA (evv rfl)) rfl rfl ?_
  refine oN ?_
  refine cC ?_
  refine r_block ?_
  refine r_loopE (σ := Nat × List UInt8 × Nat × List UInt8 × Nat) (fun ⟨i, c0, t0, c1, t1⟩ => i ≤ 2 ∧ c0 = (if i = 0 then b0 else cutAt ks 0 b0 s0) ∧ t0 = (if i = 0 then s0 else (cutAt ks 0 b0 s0).length) ∧ c1 = (if i < 2 then b1 else cutAt ks 1 b1 s1) ∧ t1 = (if i < 2 then s1 else (cutAt ks 1 b1 s1).length)) (fun ⟨i, c0, t0, c1, t1⟩ => 2 - i) (fun ⟨i, c0, t0, c1, t1⟩ => [(4, .v (.int .i64 i))]) [0, 1] (fun ⟨i, c0, t0, c1, t1⟩ => blk r (rpB c0 c1 t0 t1 lv am dn) :: F) (0, b0, s0, b1, s1) (by dsimp only [pickE, pick1, lk2, Nat.reduceBEq, Nat.reduceAdd, Nat.zero_add, cond_true, cond_false] <;> exact rfl) ?_ (by repeat (first | exact trivial | refine ⟨rfl, ?_⟩ | refine envsub_v rfl (by first | rfl | (refine int_eq ?_; first | omega | (simp; omega) | (simp; done)) | (refine bool_eq ?_; first | (simp [*]; done) | (simp; done)) | (refine str_eq ?_; simp; done) | (refine ptr_eq ?_; omega) | fail) ?_)) ?_ ?_
  · exact ⟨by omega, rfl, rfl, rfl, rfl⟩
  · exact Ent.refl _
  rintro ⟨i, c0, t0, c1, t1⟩ ⟨hi, e1, e2, e3, e4⟩; dsimp only [List.cons_append, List.nil_append]
  rcases (by omega : i = 0 ∨ i = 1 ∨ i = 2) with rfl | rfl | rfl
  · simp [show ¬ (1 : Nat) = 0 from by decide] at e1 e2 e3 e4
    rw [e1, e2, e3, e4]
    clear e1 e2 e3 e4
    have hm := more_le ks 0 b0.length s0
    have hc0 := cut_le ks 0 b0 s0
    have hc1 := cut_le ks 1 b1 s1
    refine rS ?_
    refine rS ?_
    refine rR (id := 1) ?_
    refine oG (gM (evv rfl)) rfl rfl ?_
    refine oG (g_bin (evv rfl) (evv rfl) (by rfl)) rfl rfl ?_
    refine oN ?_
    refine cC ?_
    refine r_cond_true rfl ?_
    refine r_skip ?_
    refine cC ?_
    refine rS ?_
    refine r_block ?_
    refine rS ?_
    refine rR (id := 3) ?_
    refine oG (gA (evv rfl)) rfl rfl ?_
    refine oN ?_
    refine cC ?_
    refine rS ?_
    refine rS ?_
    refine rR (id := 4) ?_
    refine oG (gM (evv rfl)) rfl rfl ?_
    refine oG (gM (evv rfl)) rfl rfl ?_
    refine oG (g_lenM (evv rfl)) rfl rfl ?_
    refine oG (g_bin (evv rfl) (evv rfl) (by rfl)) rfl rfl ?_
    refine oG (gM (evv rfl)) rfl rfl ?_
    refine o_lazy rfl (fun hg => gM (by first | exact evv rfl | exact evg rfl (by rw [hp]; rfl) | exact evg rfl hp | exact evg rfl hg | exact evg rfl (by first | (simp_all; done) | (simp [*]; done) | fail) | fail)) rfl rfl ?_
    refine o_lazy rfl (fun hg => gM (by first | exact evv rfl | exact evg rfl (by rw [hp]; rfl) | exact evg rfl hp | exact evg rfl hg | exact evg rfl (by first | (simp_all; done) | (simp [*]; done) | fail) | fail)) rfl rfl ?_
    refine o_lazy rfl (fun hg => g_idxMN (evg rfl hg) (evg rfl hg) (by rfl) (by first | omega | (have := of_decide_eq_true hg; omega) | (simp at hg; omega) | (simp only [List.length_set, List.length_append, List.length_cons, List.length_nil, List.length_map, List.length_take, List.length_drop, List.length_replicate]; omega))) rfl rfl ?_
    refine o_lazy rfl (fun hg => g_loadM (evg rfl hg) (by rfl) (by first | omega | (have := of_decide_eq_true hg; omega) | (simp at hg; omega) | (simp only [List.length_set, List.length_append, List.length_cons, List.length_nil, List.length_map, List.length_take, List.length_drop, List.length_replicate]; omega))) rfl rfl ?_
    refine o_lazy rfl (fun hg => g_bin (by first | exact evv rfl | exact evg rfl (by rw [hp]; rfl) | exact evg rfl hp | exact evg rfl hg | exact evg rfl (by first | (simp_all; done) | (simp [*]; done) | fail) | fail) (by first | exact evv rfl | exact evg rfl (by rw [hp]; rfl) | exact evg rfl hp | exact evg rfl hg | exact evg rfl (by first | (simp_all; done) | (simp [*]; done) | fail) | fail) (by rfl)) rfl rfl ?_
    refine oG (g_pick_and (evv rfl) (evv rfl) (fun hp => (by first | exact evv rfl | exact evg rfl (by rw [hp]; rfl) | exact evg rfl hp | exact evg rfl hg | exact evg rfl (by first | (simp_all; done) | (simp [*]; done) | fail) | fail))) rfl rfl ?_
    refine oN ?_
    refine cC ?_
    repeat (first | refine rS ?_ | refine cC ?_ | refine c_blk ?_ | refine r_block ?_ | refine r_skip ?_)
    refine r_cutE (σ := Unit) (fun u => [(5, .v (.int .i64 ((keepT ks 0 : Nat) : Int)))]) [0,1,4] (fun u => blk r (rpB b0 b1 s0 s1 lv am dn) :: F) (by dsimp only [pickE, pick1, lk2, Nat.reduceBEq, Nat.reduceAdd, Nat.zero_add, cond_true, cond_false] <;> exact rfl) ?_ ?_
    · refine r_cond rfl (fun hk0 => ?_) (fun hk0 => ?_) <;> (try simp only [decide_eq_true_eq, decide_eq_false_iff_not, Bool.and_eq_true, Bool.or_eq_true, Bool.not_eq_true', Bool.and_eq_false_iff, Bool.or_eq_false_iff, Bool.not_eq_false', Bool.not_eq_true, Bool.not_eq_false, Bool.true_eq_false, Bool.false_eq_true, Int.not_lt, Int.not_le, not_and, not_or, ne_eq] at hk0)
      · refine rR (id := 5) ?_
        refine oG (gM (evv rfl)) rfl rfl ?_
        refine oG (gM (evv rfl)) rfl rfl ?_
        refine oG (g_idxMN (evv rfl) (evv rfl) (by rfl) (by first | omega | (have := of_decide_eq_true hg; omega) | (simp at hg; omega) | (simp only [List.length_set, List.length_append, List.length_cons, List.length_nil, List.length_map, List.length_take, List.length_drop, List.length_replicate]; omega))) rfl rfl ?_
        refine oG (g_loadM (evv rfl) (by rfl) (by first | omega | (have := of_decide_eq_true hg; omega) | (simp at hg; omega) | (simp only [List.length_set, List.length_append, List.length_cons, List.length_nil, List.length_map, List.length_take, List.length_drop, List.length_replicate]; omega))) rfl rfl ?_
        refine oG (gA (evv rfl)) rfl rfl ?_
        refine oN ?_
        have e5 : ks.getD 0 default = ((keepT ks 0 : Nat) : Int) := by
          unfold keepT
          rw [if_pos (by omega)]
          omega
        simp only [i64v] at *
        rw [e5]
        exact c_cut () (by repeat (first | exact trivial | refine ⟨rfl, ?_⟩ | refine envsub_v rfl (by first | rfl | (refine int_eq ?_; first | omega | (simp; omega) | (simp; done)) | (refine bool_eq ?_; first | (simp [*]; done) | (simp; done)) | (refine str_eq ?_; simp; done) | (refine ptr_eq ?_; omega) | fail) ?_)) (Lay.ent)
      · have e6 : keepT ks 0 = 0 := by
          unfold keepT
          split
          · omega
          · rfl
        rw [e6]
        refine r_skip ?_
        exact c_cut () (by repeat (first | exact trivial | refine ⟨rfl, ?_⟩ | refine envsub_v rfl (by first | rfl | (refine int_eq ?_; first | omega | (simp; omega) | (simp; done)) | (refine bool_eq ?_; first | (simp [*]; done) | (simp; done)) | (refine str_eq ?_; simp; done) | (refine ptr_eq ?_; omega) | fail) ?_)) (Lay.ent)
    intro n
    dsimp only [List.cons_append, List.nil_append]
    have e7 : (b0.drop 0).take (s0 + moreT ks 0 b0.length s0 - 0) = cutAt ks 0 b0 s0 := by simp only [cutAt, List.drop_zero, Nat.sub_zero]
    have hmk := more_keep ks 0 b0.length s0
    refine cC ?_
    refine rS ?_
    refine rS ?_
    refine r_quiet (id := 6) Mixed.h (by kernel_rfl) ?_
    refine q_give (gM (evv rfl)) rfl rfl ?_
    refine q_give (gM (evv rfl)) rfl rfl ?_
    refine q_give (gM (evv rfl)) rfl rfl ?_
    refine q_give (g_nil (evv rfl)) rfl rfl ?_
    refine q_give (g_fld (evv rfl)) rfl rfl ?_
    refine q_give (g_idxAN (evv rfl) (evv rfl) (by omega)) rfl rfl ?_
    refine q_give (g_load (evv rfl) (by rfl) (by rfl)) rfl rfl ?_
    refine q_give (g_lenS TyU.h (evv rfl)) rfl rfl ?_
    refine q_give (gM (evv rfl)) rfl rfl ?_
    refine q_give (gM (evv rfl)) rfl rfl ?_
    refine q_give (g_nil (evv rfl)) rfl rfl ?_
    refine q_give (g_fld (evv rfl)) rfl rfl ?_
    refine q_give (g_idxAN (evv rfl) (evv rfl) (by omega)) rfl rfl ?_
    refine q_give (g_load (evv rfl) (by rfl) (by rfl)) rfl rfl ?_
    refine q_giveN (g_bin (evv rfl) (evv rfl) (by rfl)) (by simp only [inR]; omega) rfl ?_
    refine q_give (g_bin (evv rfl) (evv rfl) (by rfl)) rfl rfl ?_
    refine q_nil ?_
    refine cC ?_
    repeat (first | refine rS ?_ | refine cC ?_ | refine c_blk ?_ | refine r_block ?_ | refine r_skip ?_)
    refine r_cutE (σ := Unit) (fun u => [(5, .v (.int .i64 ((moreT ks 0 b0.length s0 : Nat) : Int)))]) [0,1,4] (fun u => blk r (rpB b0 b1 s0 s1 lv am dn) :: F) (by dsimp only [pickE, pick1, lk2, Nat.reduceBEq, Nat.reduceAdd, Nat.zero_add, cond_true, cond_false] <;> exact rfl) ?_ ?_
    · refine r_cond rfl (fun hk0 => ?_) (fun hk0 => ?_) <;> (try simp only [decide_eq_true_eq, decide_eq_false_iff_not, Bool.and_eq_true, Bool.or_eq_true, Bool.not_eq_true', Bool.and_eq_false_iff, Bool.or_eq_false_iff, Bool.not_eq_false', Bool.not_eq_true, Bool.not_eq_false, Bool.true_eq_false, Bool.false_eq_true, Int.not_lt, Int.not_le, not_and, not_or, ne_eq] at hk0)
      · have e8 : (b0.length : Int) - (s0 : Int) = ((moreT ks 0 b0.length s0 : Nat) : Int) := by omega
        refine r_quiet (id := 7) Mixed.h (by kernel_rfl) ?_
        refine q_give (gM (evv rfl)) rfl rfl ?_
        refine q_give (gM (evv rfl)) rfl rfl ?_
        refine q_give (g_nil (evv rfl)) rfl rfl ?_
        refine q_give (g_fld (evv rfl)) rfl rfl ?_
        refine q_give (g_idxAN (evv rfl) (evv rfl) (by omega)) rfl rfl ?_
        refine q_give (g_load (evv rfl) (by rfl) (by rfl)) rfl rfl ?_
        refine q_give (g_lenS TyU.h (evv rfl)) rfl rfl ?_
        refine q_give (gM (evv rfl)) rfl rfl ?_
        refine q_give (gM (evv rfl)) rfl rfl ?_
        refine q_give (g_nil (evv rfl)) rfl rfl ?_
        refine q_give (g_fld (evv rfl)) rfl rfl ?_
        refine q_give (g_idxAN (evv rfl) (evv rfl) (by omega)) rfl rfl ?_
        refine q_give (g_load (evv rfl) (by rfl) (by rfl)) rfl rfl ?_
        refine q_giveN (g_bin (evv rfl) (evv rfl) (by rfl)) (by simp only [inR]; omega) rfl ?_
        refine q_give (gA (evv rfl)) rfl rfl ?_
        refine q_nil ?_
        rw [e8]
        exact c_cut () (by repeat (first | exact trivial | refine ⟨rfl, ?_⟩ | refine envsub_v rfl (by first | rfl | (refine int_eq ?_; first | omega | (simp; omega) | (simp; done)) | (refine bool_eq ?_; first | (simp [*]; done) | (simp; done)) | (refine str_eq ?_; simp; done) | (refine ptr_eq ?_; omega) | fail) ?_)) (Lay.ent)
      · have e8 : keepT ks 0 = moreT ks 0 b0.length s0 := by omega
        rw [e8]
        refine r_skip ?_
        exact c_cut () (by repeat (first | exact trivial | refine ⟨rfl, ?_⟩ | refine envsub_v rfl (by first | rfl | (refine int_eq ?_; first | omega | (simp; omega) | (simp; done)) | (refine bool_eq ?_; first | (simp [*]; done) | (simp; done)) | (refine str_eq ?_; simp; done) | (refine ptr_eq ?_; omega) | fail) ?_)) (Lay.ent)
    intro u
    dsimp only [List.cons_append, List.nil_append]
    repeat (first | refine rS ?_ | refine cC ?_ | refine c_blk ?_ | refine r_block ?_ | refine r_skip ?_)
    refine r_cutE (σ := Unit) (fun u => []) [0, 1, 4, 5, 6, 7, 10, 11, 12, 13, 14, 15, 16, 17, 18, 19, 20, 21, 22, 23, 24, 25, 26, 27, 28, 29, 30, 31, 32, 33, 34, 35, 36, 37, 38, 39, 40, 41, 42, 43, 44, 45, 46, 47, 48, 49, 50, 51, 52, 53, 54] (fun u => blk r (rpB (cutAt ks 0 b0 s0) b1 s0 s1 lv am dn) :: F) (by dsimp only [pickE, pick1, lk2, Nat.reduceBEq, Nat.reduceAdd, Nat.zero_add, cond_true, cond_false] <;> exact rfl) ?_ ?_
    · refine r_held (id := 8) [] Mixed.h ?_
      (refine h_give (i := 0) (by kernel_rfl) rfl (gM (evv rfl)) rfl rfl ?_)
      (refine h_give (i := 1) (by kernel_rfl) rfl (gM (evv rfl)) rfl rfl ?_)
      (refine h_give (i := 2) (by kernel_rfl) rfl (gM (evv rfl)) rfl rfl ?_)
      (refine h_give (i := 3) (by kernel_rfl) rfl (gM (evv rfl)) rfl rfl ?_)
      (refine h_give (i := 4) (by kernel_rfl) rfl (g_nil (evv rfl)) rfl rfl ?_)
      (refine h_give (i := 5) (by kernel_rfl) rfl (g_fld (evv rfl)) rfl rfl ?_)
      (refine h_give (i := 6) (by kernel_rfl) rfl (g_idxAN (evv rfl) (evv rfl) (by omega)) rfl rfl ?_)
      (refine h_give (i := 8) (by kernel_rfl) rfl (gM (evv rfl)) rfl rfl ?_)
      (refine h_give (i := 9) (by kernel_rfl) rfl (gM (evv rfl)) rfl rfl ?_)
      (refine h_give (i := 10) (by kernel_rfl) rfl (g_nil (evv rfl)) rfl rfl ?_)
      (refine h_give (i := 11) (by kernel_rfl) rfl (g_fld (evv rfl)) rfl rfl ?_)
      (refine h_give (i := 12) (by kernel_rfl) rfl (g_idxAN (evv rfl) (evv rfl) (by omega)) rfl rfl ?_)
      (refine h_give (i := 14) (by kernel_rfl) rfl (gM (evv rfl)) rfl rfl ?_)
      (refine h_give (i := 17) (by kernel_rfl) rfl (g_nil (evv rfl)) rfl rfl ?_)
      (refine h_give (i := 18) (by kernel_rfl) rfl (g_fld (evv rfl)) rfl rfl ?_)
      refine h_two (i := 7) (j := 13) (by kernel_rfl) rfl rfl (Ent.nil _) ?_ ?_
      · (refine oG (g_load (evv rfl) (by rfl) (by rfl)) rfl rfl ?_); refine oN ?_
        refine h_one (i := 13) (by kernel_rfl) rfl (Ent.nil _) ?_
        (refine oG (g_load (evv rfl) (by rfl) (by rfl)) rfl rfl ?_); refine oN ?_
        (refine h_giveN (i := 15) (by kernel_rfl) rfl (g_bin (evv rfl) (evv rfl) (by rfl)) (by simp only [inR]; omega) rfl ?_)
        (refine h_give (i := 16) (by kernel_rfl) rfl (g_subS (evv rfl) _ _ bnd_none (bnd_some (evv rfl) rfl) (by omega) (by first | omega | (simp only [List.length_append, List.length_cons, List.length_nil, List.length_set, List.length_map]; omega))) rfl rfl ?_)
        (refine h_give (i := 19) (by kernel_rfl) rfl (g_idxAN (evv rfl) (evv rfl) (by omega)) rfl rfl ?_)
        refine h_one (i := 20) (by kernel_rfl) rfl (Ent.nil _) ?_
        (refine o_store1 (evv rfl) (evv rfl) (by rfl) (by rfl) (by rfl) ?_); refine oN ?_
        refine h_done (by kernel_rfl) (Ent.nil _) ?_
        exact c_cut () (by repeat (first | exact trivial | refine ⟨rfl, ?_⟩ | refine envsub_v rfl (by first | rfl | (refine int_eq ?_; first | omega | (simp; omega) | (simp; done)) | (refine bool_eq ?_; first | (simp [*]; done) | (simp; done)) | (refine str_eq ?_; simp; done) | (refine ptr_eq ?_; omega) | fail) ?_)) (by rw [← e7]; exact Lay.ent)
      · (refine oG (g_load (evv rfl) (by rfl) (by rfl)) rfl rfl ?_); refine oN ?_
        (refine h_giveN (i := 15) (by kernel_rfl) rfl (g_bin (evv rfl) (evv rfl) (by rfl)) (by simp only [inR]; omega) rfl ?_)
        refine h_one (i := 7) (by kernel_rfl) rfl (Ent.nil _) ?_
        (refine oG (g_load (evv rfl) (by rfl) (by rfl)) rfl rfl ?_); refine oN ?_
        (refine h_give (i := 16) (by kernel_rfl) rfl (g_subS (evv rfl) _ _ bnd_none (bnd_some (evv rfl) rfl) (by omega) (by first | omega | (simp only [List.length_append, List.length_cons, List.length_nil, List.length_set, List.length_map]; omega))) rfl rfl ?_)
        (refine h_give (i := 19) (by kernel_rfl) rfl (g_idxAN (evv rfl) (evv rfl) (by omega)) rfl rfl ?_)
        refine h_one (i := 20) (by kernel_rfl) rfl (Ent.nil _) ?_
        (refine o_store1 (evv rfl) (evv rfl) (by rfl) (by rfl) (by rfl) ?_); refine oN ?_
        refine h_done (by kernel_rfl) (Ent.nil _) ?_
        exact c_cut () (by repeat (first | exact trivial | refine ⟨rfl, ?_⟩ | refine envsub_v rfl (by first | rfl | (refine int_eq ?_; first | omega | (simp; omega) | (simp; done)) | (refine bool_eq ?_; first | (simp [*]; done) | (simp; done)) | (refine str_eq ?_; simp; done) | (refine ptr_eq ?_; omega) | fail) ?_)) (by rw [← e7]; exact Lay.ent)
    intro u
    dsimp only [List.cons_append, List.nil_append]
    refine cC ?_
    refine r_draw (id := 9) Mixed.h ?_
    refine d_take (i := 0) (by kernel_rfl) rfl (fun W0 => gM (evv rfl)) rfl ?_
    refine d_take (i := 1) (by kernel_rfl) rfl (fun W0 => gM (evv rfl)) rfl ?_
    refine d_take (i := 2) (by kernel_rfl) rfl (fun W0 => gM (evv rfl)) rfl ?_
    refine d_take (i := 3) (by kernel_rfl) rfl (fun W0 => gM (evv rfl)) rfl ?_
    refine d_take (i := 4) (by kernel_rfl) rfl (fun W0 => g_nil (evv rfl)) rfl ?_
    refine d_take (i := 5) (by kernel_rfl) rfl (fun W0 => g_fld (evv rfl)) rfl ?_
    refine d_take (i := 6) (by kernel_rfl) rfl (fun W0 => g_idxAN (evv rfl) (evv rfl) (by omega)) rfl ?_
    refine d_take (i := 9) (by kernel_rfl) rfl (fun W0 => g_nil (evv rfl)) rfl ?_
    refine d_take (i := 10) (by kernel_rfl) rfl (fun W0 => g_fld (evv rfl)) rfl ?_
    refine d_one (i := 7) (by kernel_rfl) rfl ?_
    refine oG (g_load (evv rfl) (by rfl) (by rfl)) rfl rfl ?_
    refine oN ?_
    refine d_one (i := 8) (by kernel_rfl) rfl ?_
    refine oG (g_lenS TyU.h (evv rfl)) rfl rfl ?_
    refine oN ?_
    refine d_take (i := 11) (by kernel_rfl) rfl (fun W0 => g_idxAN (evv rfl) (evv rfl) (by omega)) rfl ?_
    refine d_one (i := 12) (by kernel_rfl) rfl ?_
    refine o_store1 (evv rfl) (evv rfl) (by rfl) (by rfl) (by rfl) ?_
    refine oN ?_
    refine d_done (by kernel_rfl) ?_
    refine c_blk ?_
    refine cC ?_
    refine rR (id := 2) ?_
    refine oG (gM (evv rfl)) rfl rfl ?_
    refine o_giveN (g_bin (evv rfl) (evv rfl) (by rfl)) (by simp only [inR]; omega) rfl ?_
    refine oG (gA (evv rfl)) rfl rfl ?_
    refine oN ?_
    refine c_loop (1, cutAt ks 0 b0 s0, (cutAt ks 0 b0 s0).length, b1, s1) ?_ ?_ (by repeat (first | exact trivial | refine ⟨rfl, ?_⟩ | refine envsub_v rfl (by first | rfl | (refine int_eq ?_; first | omega | (simp; omega) | (simp; done)) | (refine bool_eq ?_; first | (simp [*]; done) | (simp; done)) | (refine str_eq ?_; simp; done) | (refine ptr_eq ?_; omega) | fail) ?_)) ?_ <;> (try dsimp only)
    · exact ⟨by omega, by simp, by simp, by simp, by simp⟩
    · omega
    · exact Lay.ent
  · simp [show ¬ (1 : Nat) = 0 from by decide] at e1 e2 e3 e4
    rw [e1, e2, e3, e4]
    clear e1 e2 e3 e4
    have hm := more_le ks 1 b1.length s1
    have hc0 := cut_le ks 0 b0 s0
    have hc1 := cut_le ks 1 b1 s1
    refine rS ?_
    refine rS ?_
    refine rR (id := 1) ?_
    refine oG (gM (evv rfl)) rfl rfl ?_
    refine oG (g_bin (evv rfl) (evv rfl) (by rfl)) rfl rfl ?_
    refine oN ?_
    refine cC ?_
    refine r_cond_true rfl ?_
    refine r_skip ?_
    refine cC ?_
    refine rS ?_
    refine r_block ?_
    refine rS ?_
    refine rR (id := 3) ?_
    refine oG (gA (evv rfl)) rfl rfl ?_
    refine oN ?_
    refine cC ?_
    refine rS ?_
    refine rS ?_
    refine rR (id := 4) ?_
    refine oG (gM (evv rfl)) rfl rfl ?_
    refine oG (gM (evv rfl)) rfl rfl ?_
    refine oG (g_lenM (evv rfl)) rfl rfl ?_
    refine oG (g_bin (evv rfl) (evv rfl) (by rfl)) rfl rfl ?_
    refine oG (gM (evv rfl)) rfl rfl ?_
    refine o_lazy rfl (fun hg => gM (by first | exact evv rfl | exact evg rfl (by rw [hp]; rfl) | exact evg rfl hp | exact evg rfl hg | exact evg rfl (by first | (simp_all; done) | (simp [*]; done) | fail) | fail)) rfl rfl ?_
    refine o_lazy rfl (fun hg => gM (by first | exact evv rfl | exact evg rfl (by rw [hp]; rfl) | exact evg rfl hp | exact evg rfl hg | exact evg rfl (by first | (simp_all; done) | (simp [*]; done) | fail) | fail)) rfl rfl ?_
    refine o_lazy rfl (fun hg => g_idxMN (evg rfl hg) (evg rfl hg) (by rfl) (by first | omega | (have := of_decide_eq_true hg; omega) | (simp at hg; omega) | (simp only [List.length_set, List.length_append, List.length_cons, List.length_nil, List.length_map, List.length_take, List.length_drop, List.length_replicate]; omega))) rfl rfl ?_
    refine o_lazy rfl (fun hg => g_loadM (evg rfl hg) (by rfl) (by first | omega | (have := of_decide_eq_true hg; omega) | (simp at hg; omega) | (simp only [List.length_set, List.length_append, List.length_cons, List.length_nil, List.length_map, List.length_take, List.length_drop, List.length_replicate]; omega))) rfl rfl ?_
    refine o_lazy rfl (fun hg => g_bin (by first | exact evv rfl | exact evg rfl (by rw [hp]; rfl) | exact evg rfl hp | exact evg rfl hg | exact evg rfl (by first | (simp_all; done) | (simp [*]; done) | fail) | fail) (by first | exact evv rfl | exact evg rfl (by rw [hp]; rfl) | exact evg rfl hp | exact evg rfl hg | exact evg rfl (by first | (simp_all; done) | (simp [*]; done) | fail) | fail) (by rfl)) rfl rfl ?_
    refine oG (g_pick_and (evv rfl) (evv rfl) (fun hp => (by first | exact evv rfl | exact evg rfl (by rw [hp]; rfl) | exact evg rfl hp | exact evg rfl hg | exact evg rfl (by first | (simp_all; done) | (simp [*]; done) | fail) | fail))) rfl rfl ?_
    refine oN ?_
    refine cC ?_
    repeat (first | refine rS ?_ | refine cC ?_ | refine c_blk ?_ | refine r_block ?_ | refine r_skip ?_)
    refine r_cutE (σ := Unit) (fun u => [(5, .v (.int .i64 ((keepT ks 1 : Nat) : Int)))]) [0,1,4] (fun u => blk r (rpB (cutAt ks 0 b0 s0) b1 (cutAt ks 0 b0 s0).length s1 lv am dn) :: F) (by dsimp only [pickE, pick1, lk2, Nat.reduceBEq, Nat.reduceAdd, Nat.zero_add, cond_true, cond_false] <;> exact rfl) ?_ ?_
    · refine r_cond rfl (fun hk0 => ?_) (fun hk0 => ?_) <;> (try simp only [decide_eq_true_eq, decide_eq_false_iff_not, Bool.and_eq_true, Bool.or_eq_true, Bool.not_eq_true', Bool.and_eq_false_iff, Bool.or_eq_false_iff, Bool.not_eq_false', Bool.not_eq_true, Bool.not_eq_false, Bool.true_eq_false, Bool.false_eq_true, Int.not_lt, Int.not_le, not_and, not_or, ne_eq] at hk0)
      · refine rR (id := 5) ?_
        refine oG (gM (evv rfl)) rfl rfl ?_
        refine oG (gM (evv rfl)) rfl rfl ?_
        refine oG (g_idxMN (evv rfl) (evv rfl) (by rfl) (by first | omega | (have := of_decide_eq_true hg; omega) | (simp at hg; omega) | (simp only [List.length_set, List.length_append, List.length_cons, List.length_nil, List.length_map, List.length_take, List.length_drop, List.length_replicate]; omega))) rfl rfl ?_
        refine oG (g_loadM (evv rfl) (by rfl) (by first | omega | (have := of_decide_eq_true hg; omega) | (simp at hg; omega) | (simp only [List.length_set, List.length_append, List.length_cons, List.length_nil, List.length_map, List.length_take, List.length_drop, List.length_replicate]; omega))) rfl rfl ?_
        refine oG (gA (evv rfl)) rfl rfl ?_
        refine oN ?_
        have e5 : ks.getD 1 default = ((keepT ks 1 : Nat) : Int) := by
          unfold keepT
          rw [if_pos (by omega)]
          omega
        simp only [i64v] at *
        rw [e5]
        exact c_cut () (by repeat (first | exact trivial | refine ⟨rfl, ?_⟩ | refine envsub_v rfl (by first | rfl | (refine int_eq ?_; first | omega | (simp; omega) | (simp; done)) | (refine bool_eq ?_; first | (simp [*]; done) | (simp; done)) | (refine str_eq ?_; simp; done) | (refine ptr_eq ?_; omega) | fail) ?_)) (Lay.ent)
      · have e6 : keepT ks 1 = 0 := by
          unfold keepT
          split
          · omega
          · rfl
        rw [e6]
        refine r_skip ?_
        exact c_cut () (by repeat (first | exact trivial | refine ⟨rfl, ?_⟩ | refine envsub_v rfl (by first | rfl | (refine int_eq ?_; first | omega | (simp; omega) | (simp; done)) | (refine bool_eq ?_; first | (simp [*]; done) | (simp; done)) | (refine str_eq ?_; simp; done) | (refine ptr_eq ?_; omega) | fail) ?_)) (Lay.ent)
    intro n
    dsimp only [List.cons_append, List.nil_append]
    have e7 : (b1.drop 0).take (s1 + moreT ks 1 b1.length s1 - 0) = cutAt ks 1 b1 s1 := by simp only [cutAt, List.drop_zero, Nat.sub_zero]
    have hmk := more_keep ks 1 b1.length s1
    refine cC ?_
    refine rS ?_
    refine rS ?_
    refine r_quiet (id := 6) Mixed.h (by kernel_rfl) ?_
    refine q_give (gM (evv rfl)) rfl rfl ?_
    refine q_give (gM (evv rfl)) rfl rfl ?_
    refine q_give (gM (evv rfl)) rfl rfl ?_
    refine q_give (g_nil (evv rfl)) rfl rfl ?_
    refine q_give (g_fld (evv rfl)) rfl rfl ?_
    refine q_give (g_idxAN (evv rfl) (evv rfl) (by omega)) rfl rfl ?_
    refine q_give (g_load (evv rfl) (by rfl) (by rfl)) rfl rfl ?_
    refine q_give (g_lenS TyU.h (evv rfl)) rfl rfl ?_
    refine q_give (gM (evv rfl)) rfl rfl ?_
    refine q_give (gM (evv rfl)) rfl rfl ?_
    refine q_give (g_nil (evv rfl)) rfl rfl ?_
    refine q_give (g_fld (evv rfl)) rfl rfl ?_
    refine q_give (g_idxAN (evv rfl) (evv rfl) (by omega)) rfl rfl ?_
    refine q_give (g_load (evv rfl) (by rfl) (by rfl)) rfl rfl ?_
    refine q_giveN (g_bin (evv rfl) (evv rfl) (by rfl)) (by simp only [inR]; omega) rfl ?_
    refine q_give (g_bin (evv rfl) (evv rfl) (by rfl)) rfl rfl ?_
    refine q_nil ?_
    refine cC ?_
    repeat (first | refine rS ?_ | refine cC ?_ | refine c_blk ?_ | refine r_block ?_ | refine r_skip ?_)
    refine r_cutE (σ := Unit) (fun u => [(5, .v (.int .i64 ((moreT ks 1 b1.length s1 : Nat) : Int)))]) [0,1,4] (fun u => blk r (rpB (cutAt ks 0 b0 s0) b1 (cutAt ks 0 b0 s0).length s1 lv am dn) :: F) (by dsimp only [pickE, pick1, lk2, Nat.reduceBEq, Nat.reduceAdd, Nat.zero_add, cond_true, cond_false] <;> exact rfl) ?_ ?_
    · refine r_cond rfl (fun hk0 => ?_) (fun hk0 => ?_) <;> (try simp only [decide_eq_true_eq, decide_eq_false_iff_not, Bool.and_eq_true, Bool.or_eq_true, Bool.not_eq_true', Bool.and_eq_false_iff, Bool.or_eq_false_iff, Bool.not_eq_false', Bool.not_eq_true, Bool.not_eq_false, Bool.true_eq_false, Bool.false_eq_true, Int.not_lt, Int.not_le, not_and, not_or, ne_eq] at hk0)
      · have e8 : (b1.length : Int) - (s1 : Int) = ((moreT ks 1 b1.length s1 : Nat) : Int) := by omega
        refine r_quiet (id := 7) Mixed.h (by kernel_rfl) ?_
        refine q_give (gM (evv rfl)) rfl rfl ?_
        refine q_give (gM (evv rfl)) rfl rfl ?_
        refine q_give (g_nil (evv rfl)) rfl rfl ?_
        refine q_give (g_fld (evv rfl)) rfl rfl ?_
        refine q_give (g_idxAN (evv rfl) (evv rfl) (by omega)) rfl rfl ?_
        refine q_give (g_load (evv rfl) (by rfl) (by rfl)) rfl rfl ?_
        refine q_give (g_lenS TyU.h (evv rfl)) rfl rfl ?_
        refine q_give (gM (evv rfl)) rfl rfl ?_
        refine q_give (gM (evv rfl)) rfl rfl ?_
        refine q_give (g_nil (evv rfl)) rfl rfl ?_
        refine q_give (g_fld (evv rfl)) rfl rfl ?_
        refine q_give (g_idxAN (evv rfl) (evv rfl) (by omega)) rfl rfl ?_
        refine q_give (g_load (evv rfl) (by rfl) (by rfl)) rfl rfl ?_
        refine q_giveN (g_bin (evv rfl) (evv rfl) (by rfl)) (by simp only [inR]; omega) rfl ?_
        refine q_give (gA (evv rfl)) rfl rfl ?_
        refine q_nil ?_
        rw [e8]
        exact c_cut () (by repeat (first | exact trivial | refine ⟨rfl, ?_⟩ | refine envsub_v rfl (by first | rfl | (refine int_eq ?_; first | omega | (simp; omega) | (simp; done)) | (refine bool_eq ?_; first | (simp [*]; done) | (simp; done)) | (refine str_eq ?_; simp; done) | (refine ptr_eq ?_; omega) | fail) ?_)) (Lay.ent)
      · have e8 : keepT ks 1 = moreT ks 1 b1.length s1 := by omega
        rw [e8]
        refine r_skip ?_
        exact c_cut () (by repeat (first | exact trivial | refine ⟨rfl, ?_⟩ | refine envsub_v rfl (by first | rfl | (refine int_eq ?_; first | omega | (simp; omega) | (simp; done)) | (refine bool_eq ?_; first | (simp [*]; done) | (simp; done)) | (refine str_eq ?_; simp; done) | (refine ptr_eq ?_; omega) | fail) ?_)) (Lay.ent)
    intro u
    dsimp only [List.cons_append, List.nil_append]
    repeat (first | refine rS ?_ | refine cC ?_ | refine c_blk ?_ | refine r_block ?_ | refine r_skip ?_)
    refine r_cutE (σ := Unit) (fun u => []) [0, 1, 4, 5, 6, 7, 10, 11, 12, 13, 14, 15, 16, 17, 18, 19, 20, 21, 22, 23, 24, 25, 26, 27, 28, 29, 30, 31, 32, 33, 34, 35, 36, 37, 38, 39, 40, 41, 42, 43, 44, 45, 46, 47, 48, 49, 50, 51, 52, 53, 54] (fun u => blk r (rpB (cutAt ks 0 b0 s0) (cutAt ks 1 b1 s1) (cutAt ks 0 b0 s0).length s1 lv am dn) :: F) (by dsimp only [pickE, pick1, lk2, Nat.reduceBEq, Nat.reduceAdd, Nat.zero_add, cond_true, cond_false] <;> exact rfl) ?_ ?_
    · refine r_held (id := 8) [] Mixed.h ?_
      (refine h_give (i := 0) (by kernel_rfl) rfl (gM (evv rfl)) rfl rfl ?_)
      (refine h_give (i := 1) (by kernel_rfl) rfl (gM (evv rfl)) rfl rfl ?_)
      (refine h_give (i := 2) (by kernel_rfl) rfl (gM (evv rfl)) rfl rfl ?_)
      (refine h_give (i := 3) (by kernel_rfl) rfl (gM (evv rfl)) rfl rfl ?_)
      (refine h_give (i := 4) (by kernel_rfl) rfl (g_nil (evv rfl)) rfl rfl ?_)
      (refine h_give (i := 5) (by kernel_rfl) rfl (g_fld (evv rfl)) rfl rfl ?_)
      (refine h_give (i := 6) (by kernel_rfl) rfl (g_idxAN (evv rfl) (evv rfl) (by omega)) rfl rfl ?_)
      (refine h_give (i := 8) (by kernel_rfl) rfl (gM (evv rfl)) rfl rfl ?_)
      (refine h_give (i := 9) (by kernel_rfl) rfl (gM (evv rfl)) rfl rfl ?_)
      (refine h_give (i := 10) (by kernel_rfl) rfl (g_nil (evv rfl)) rfl rfl ?_)
      (refine h_give (i := 11) (by kernel_rfl) rfl (g_fld (evv rfl)) rfl rfl ?_)
      (refine h_give (i := 12) (by kernel_rfl) rfl (g_idxAN (evv rfl) (evv rfl) (by omega)) rfl rfl ?_)
      (refine h_give (i := 14) (by kernel_rfl) rfl (gM (evv rfl)) rfl rfl ?_)
      (refine h_give (i := 17) (by kernel_rfl) rfl (g_nil (evv rfl)) rfl rfl ?_)
      (refine h_give (i := 18) (by kernel_rfl) rfl (g_fld (evv rfl)) rfl rfl ?_)
      refine h_two (i := 7) (j := 13) (by kernel_rfl) rfl rfl (Ent.nil _) ?_ ?_
      · (refine oG (g_load (evv rfl) (by rfl) (by rfl)) rfl rfl ?_); refine oN ?_
        refine h_one (i := 13) (by kernel_rfl) rfl (Ent.nil _) ?_
        (refine oG (g_load (evv rfl) (by rfl) (by rfl)) rfl rfl ?_); refine oN ?_
        (refine h_giveN (i := 15) (by kernel_rfl) rfl (g_bin (evv rfl) (evv rfl) (by rfl)) (by simp only [inR]; omega) rfl ?_)
        (refine h_give (i := 16) (by kernel_rfl) rfl (g_subS (evv rfl) _ _ bnd_none (bnd_some (evv rfl) rfl) (by omega) (by first | omega | (simp only [List.length_append, List.length_cons, List.length_nil, List.length_set, List.length_map]; omega))) rfl rfl ?_)
        (refine h_give (i := 19) (by kernel_rfl) rfl (g_idxAN (evv rfl) (evv rfl) (by omega)) rfl rfl ?_)
        refine h_one (i := 20) (by kernel_rfl) rfl (Ent.nil _) ?_
        (refine o_store1 (evv rfl) (evv rfl) (by rfl) (by rfl) (by rfl) ?_); refine oN ?_
        refine h_done (by kernel_rfl) (Ent.nil _) ?_
        exact c_cut () (by repeat (first | exact trivial | refine ⟨rfl, ?_⟩ | refine envsub_v rfl (by first | rfl | (refine int_eq ?_; first | omega | (simp; omega) | (simp; done)) | (refine bool_eq ?_; first | (simp [*]; done) | (simp; done)) | (refine str_eq ?_; simp; done) | (refine ptr_eq ?_; omega) | fail) ?_)) (by rw [← e7]; exact Lay.ent)
      · (refine oG (g_load (evv rfl) (by rfl) (by rfl)) rfl rfl ?_); refine oN ?_
        (refine h_giveN (i := 15) (by kernel_rfl) rfl (g_bin (evv rfl) (evv rfl) (by rfl)) (by simp only [inR]; omega) rfl ?_)
        refine h_one (i := 7) (by kernel_rfl) rfl (Ent.nil _) ?_
        (refine oG (g_load (evv rfl) (by rfl) (by rfl)) rfl rfl ?_); refine oN ?_
        (refine h_give (i := 16) (by kernel_rfl) rfl (g_subS (evv rfl) _ _ bnd_none (bnd_some (evv rfl) rfl) (by omega) (by first | omega | (simp only [List.length_append, List.length_cons, List.length_nil, List.length_set, List.length_map]; omega))) rfl rfl ?_)
        (refine h_give (i := 19) (by kernel_rfl) rfl (g_idxAN (evv rfl) (evv rfl) (by omega)) rfl rfl ?_)
        refine h_one (i := 20) (by kernel_rfl) rfl (Ent.nil _) ?_
        (refine o_store1 (evv rfl) (evv rfl) (by rfl) (by rfl) (by rfl) ?_); refine oN ?_
        refine h_done (by kernel_rfl) (Ent.nil _) ?_
        exact c_cut () (by repeat (first | exact trivial | refine ⟨rfl, ?_⟩ | refine envsub_v rfl (by first | rfl | (refine int_eq ?_; first | omega | (simp; omega) | (simp; done)) | (refine bool_eq ?_; first | (simp [*]; done) | (simp; done)) | (refine str_eq ?_; simp; done) | (refine ptr_eq ?_; omega) | fail) ?_)) (by rw [← e7]; exact Lay.ent)
    intro u
    dsimp only [List.cons_append, List.nil_append]
    refine cC ?_
    refine r_draw (id := 9) Mixed.h ?_
    refine d_take (i := 0) (by kernel_rfl) rfl (fun W0 => gM (evv rfl)) rfl ?_
    refine d_take (i := 1) (by kernel_rfl) rfl (fun W0 => gM (evv rfl)) rfl ?_
    refine d_take (i := 2) (by kernel_rfl) rfl (fun W0 => gM (evv rfl)) rfl ?_
    refine d_take (i := 3) (by kernel_rfl) rfl (fun W0 => gM (evv rfl)) rfl ?_
    refine d_take (i := 4) (by kernel_rfl) rfl (fun W0 => g_nil (evv rfl)) rfl ?_
    refine d_take (i := 5) (by kernel_rfl) rfl (fun W0 => g_fld (evv rfl)) rfl ?_
    refine d_take (i := 6) (by kernel_rfl) rfl (fun W0 => g_idxAN (evv rfl) (evv rfl) (by omega)) rfl ?_
    refine d_take (i := 9) (by kernel_rfl) rfl (fun W0 => g_nil (evv rfl)) rfl ?_
    refine d_take (i := 10) (by kernel_rfl) rfl (fun W0 => g_fld (evv rfl)) rfl ?_
    refine d_one (i := 7) (by kernel_rfl) rfl ?_
    refine oG (g_load (evv rfl) (by rfl) (by rfl)) rfl rfl ?_
    refine oN ?_
    refine d_one (i := 8) (by kernel_rfl) rfl ?_
    refine oG (g_lenS TyU.h (evv rfl)) rfl rfl ?_
    refine oN ?_
    refine d_take (i := 11) (by kernel_rfl) rfl (fun W0 => g_idxAN (evv rfl) (evv rfl) (by omega)) rfl ?_
    refine d_one (i := 12) (by kernel_rfl) rfl ?_
    refine o_store1 (evv rfl) (evv rfl) (by rfl) (by rfl) (by rfl) ?_
    refine oN ?_
    refine d_done (by kernel_rfl) ?_
    refine c_blk ?_
    refine cC ?_
    refine rR (id := 2) ?_
    refine oG (gM (evv rfl)) rfl rfl ?_
    refine o_giveN (g_bin (evv rfl) (evv rfl) (by rfl)) (by simp only [inR]; omega) rfl ?_
    refine oG (gA (evv rfl)) rfl rfl ?_
    refine oN ?_
    refine c_loop (2, cutAt ks 0 b0 s0, (cutAt ks 0 b0 s0).length, cutAt ks 1 b1 s1, (cutAt ks 1 b1 s1).length) ?_ ?_ (by repeat (first | exact trivial | refine ⟨rfl, ?_⟩ | refine envsub_v rfl (by first | rfl | (refine int_eq ?_; first | omega | (simp; omega) | (simp; done)) | (refine bool_eq ?_; first | (simp [*]; done) | (simp; done)) | (refine str_eq ?_; simp; done) | (refine ptr_eq ?_; omega) | fail) ?_)) ?_ <;> (try dsimp only)
    · exact ⟨by omega, by simp, by simp, by simp, by simp⟩
    · omega
    · exact Lay.ent
  · simp [show ¬ (2 : Nat) = 0 from by decide] at e1 e2 e3 e4
    rw [e1, e2, e3, e4]
    refine rS ?_
    refine rS ?_
    refine rR (id := 1) ?_
    refine oG (gM (evv rfl)) rfl rfl ?_
    refine oG (g_bin (evv rfl) (evv rfl) (by rfl)) rfl rfl ?_
    refine oN ?_
    refine cC ?_
    refine r_cond_false rfl ?_
    refine r_exit rfl ?_
    refine cC ?_
    refine rS ?_
    refine rR (id := 10) ?_
    refine oG (gM (evv rfl)) rfl rfl ?_
    refine oG (g_nil (evv rfl)) rfl rfl ?_
    refine oG (g_fld (evv rfl)) rfl rfl ?_
    refine o_store1 (evv rfl) (evv rfl) (by rfl) (by rfl) (by rfl) ?_
    refine oN ?_
    refine cC ?_
    refine rR (id := 11) ?_
    refine oG (gM (evv rfl)) rfl rfl ?_
    refine oG (g_nil (evv rfl)) rfl rfl ?_
    refine oG (g_fld (evv rfl)) rfl rfl ?_
    refine o_store1 (evv rfl) (evv rfl) (by rfl) (by rfl) (by rfl) ?_
    refine oN ?_
    first | refine r_ret (rs := []) rfl rfl _ (rp_shut) ?_ | refine c_end (rs := []) rfl rfl _ (rp_shut) ?_
    (refine ⟨?_, ?_⟩ <;> first | rfl | trivial | omega)
end VK
