/- What In reads, the rest. Conditions: none. -/
import Derived.Test.YtpknikpkepcbcaaIn
namespace VK
open Go Go.Proofs
set_option linter.unusedSimpArgs false
set_option linter.unusedVariables false
set_option maxRecDepth 100000
set_option maxHeartbeats 40000000

def unzig (n : Nat) : Int := if n % 2 = 0 then (n / 2 : Nat) else -(n / 2 : Nat) - 1
theorem unzig_bits {n : Nat} (h : n ≤ 18446744073709551615) :
    IntKind.i64.wrap ↑(BitVec.ofInt IntKind.i64.bits (↑n / 2) ^^^ BitVec.ofInt IntKind.i64.bits (IntKind.i64.wrap (0 - IntKind.i64.wrap ↑((↑n : Int).toNat &&& Int.toNat 1)))).toNat = unzig n := by
  have e2 : ((n : Int).toNat &&& Int.toNat 1) = n % 2 := Nat.and_two_pow_sub_one_eq_mod n 1
  have e1 : (BitVec.ofInt IntKind.i64.bits (↑n / 2 : Int)).toNat = n / 2 := by
    show (BitVec.ofInt 64 (↑n / 2 : Int)).toNat = n / 2
    rw [BitVec.toNat_ofInt]; omega
  rw [e2, BitVec.toNat_xor, e1]
  unfold unzig
  by_cases h0 : n % 2 = 0
  · rw [if_pos h0, h0]
    have e3 : (BitVec.ofInt IntKind.i64.bits (IntKind.i64.wrap (0 - IntKind.i64.wrap ((0 : Nat) : Int)))).toNat = 0 := by decide
    rw [e3, Nat.xor_zero]
    exact wrap_in (by simp only [inR]; omega)
  · have h1 : n % 2 = 1 := by omega
    rw [if_neg h0, h1]
    have e3 : (BitVec.ofInt IntKind.i64.bits (IntKind.i64.wrap (0 - IntKind.i64.wrap ((1 : Nat) : Int)))).toNat = 2 ^ 64 - 1 := by decide
    rw [e3, xor_ones _ (by omega)]
    simp [IntKind.wrap, IntKind.bits, IntKind.signed]
    omega
theorem inEnd_c (F : List Atom) (i : Nat) (s : InS) : Fn Try.prog 24 [.pointer (some ⟨i, 0, none⟩)] (inA i s :: F) fun v L' => v = .bool (decide (s.err = 0 ∧ s.bs.length = 0)) ∧ L' = inA i s :: F := by
  refine Fn.exA ?_
  rintro ⟨⟨v, w, full⟩, hr⟩
  dsimp only at hr
  refine fn_intro Try.func24 rfl Try.ntmps24 rfl (fun W0 => ?_)
  haveI := hr.one (F := F)
  simp only [inX, List.cons_append, List.nil_append, argE]
  refine r_seq ?_
  refine r_region (id := 0) ?_
  refine o_give (g_assign (evv rfl)) rfl rfl ?_
  refine o_nil ?_
  refine c_code ?_
  refine r_seq ?_
  refine r_region (id := 1) ?_
  refine o_give (g_move (evv rfl)) rfl rfl ?_
  refine o_give (g_pnil TyU.h (evv rfl) (evv rfl) (by simp) (by rfl)) rfl rfl ?_
  refine o_give (g_move (evv rfl)) rfl rfl ?_
  refine o_gyes rfl ?_
  refine o_give (g_move (evv rfl)) rfl rfl ?_
  refine o_gyes rfl ?_
  refine o_give (g_nil (evv rfl)) rfl rfl ?_
  refine o_gyes rfl ?_
  refine o_give (g_fld (evv rfl)) rfl rfl ?_
  refine o_gyes rfl ?_
  refine o_give (g_load (evv rfl) (by rfl) (by rfl)) rfl rfl ?_
  refine o_gyes rfl ?_
  refine o_give (g_bin (evv rfl) (evv rfl) (by rfl)) rfl rfl ?_
  refine o_give (g_pick (b := true) (evv rfl) (fun _ => (evv rfl)) (fun h => by cases h)) rfl rfl ?_
  refine o_give (g_move (evv rfl)) rfl rfl ?_
  refine o_lazy rfl (fun hg => g_move (by first | exact evv rfl | exact evg rfl (by rw [hp]; rfl) | exact evg rfl hp | exact evg rfl hg | exact evg rfl (by first | (simp_all; done) | (simp [*]; done) | fail) | fail)) rfl rfl ?_
  refine o_lazy rfl (fun hg => g_nil (by first | exact evv rfl | exact evg rfl (by rw [hp]; rfl) | exact evg rfl hp | exact evg rfl hg | exact evg rfl (by first | (simp_all; done) | (simp [*]; done) | fail) | fail)) rfl rfl ?_
  refine o_lazy rfl (fun hg => g_fld (evg rfl hg)) rfl rfl ?_
  refine o_lazy rfl (fun hg => g_load (evg rfl hg) (by rfl) (by rfl)) rfl rfl ?_
  refine o_lazy rfl (fun hg => g_lenM (by first | exact evv rfl | exact evg rfl (by rw [hp]; rfl) | exact evg rfl hp | exact evg rfl hg | exact evg rfl (by first | (simp_all; done) | (simp [*]; done) | fail) | fail)) rfl rfl ?_
  refine o_lazy rfl (fun hg => g_bin (by first | exact evv rfl | exact evg rfl (by rw [hp]; rfl) | exact evg rfl hp | exact evg rfl hg | exact evg rfl (by first | (simp_all; done) | (simp [*]; done) | fail) | fail) (by first | exact evv rfl | exact evg rfl (by rw [hp]; rfl) | exact evg rfl hp | exact evg rfl hg | exact evg rfl (by first | (simp_all; done) | (simp [*]; done) | fail) | fail) (by rfl)) rfl rfl ?_
  refine o_give (g_pick_and (evv rfl) (evv rfl) (fun hp => (by first | exact evv rfl | exact evg rfl (by rw [hp]; rfl) | exact evg rfl hp | exact evg rfl hg | exact evg rfl (by first | (simp_all; done) | (simp [*]; done) | fail) | fail))) rfl rfl ?_
  refine o_give (g_assign (evv rfl)) rfl rfl ?_
  refine o_nil ?_
  refine c_code ?_
  refine r_ret (rs := [.tmp 2]) rfl rfl _ (inA_shut (s := s) hr) ⟨?_, rfl⟩
  simp [tupV, Bool.decide_and]
theorem inEnd_l {L : List Atom} {i : Nat} {s : InS} {g : Atom → List Atom} [pk : Pick (inA i) L s g] :
    Fn Try.prog 24 [.pointer (some ⟨i, 0, none⟩)] L fun v L' => v = .bool (decide (s.err = 0 ∧ s.bs.length = 0)) ∧ L' = g (inA i s) := Fn.lift1 (fun F => inEnd_c F i s) pk
theorem Read_c (F : List Atom) (v : Value) (bs : List UInt8) (hb : bs.length ≤ 140737488355000) [hr : Rd F v (mrow by8 5 bs)] : Fn Try.prog 22 [v] F fun v L' => ∃ i, v = .pointer (some ⟨i, 0, none⟩) ∧ L' = inA i ⟨bs, 0⟩ :: F := by
  refine fn_intro Try.func22 rfl Try.ntmps22 rfl (fun W0 => ?_)
  simp only [argE]
  refine r_seq ?_
  refine r_region (id := 0) ?_
  refine o_give (g_assign (evv rfl)) rfl rfl ?_
  refine o_nil ?_
  refine c_code ?_
  refine r_seq ?_
  refine r_region (id := 1) ?_
  refine o_give (g_move (evv rfl)) rfl rfl ?_
  refine o_nilM by8 5 ?_
  refine o_appM (evv rfl) (evv rfl) (by rfl) (by rfl) (by rfl) (by (try simp only [bsOf, List.length_append, List.length_cons, List.length_nil, List.length_take, List.length_drop]); omega) rfl (fun _ => ?_)
  refine o_give (g_buildC rfl (by rfl)) rfl rfl ?_
  refine o_boxA (evv rfl) rfl (fun _ => ?_)
  refine o_give (g_assign (evv rfl)) rfl rfl ?_
  refine o_nil ?_
  refine c_code ?_
  rename_i u b
  refine r_ret (rs := [.tmp 2]) rfl rfl _ (inA_shut (s := ⟨bs, 0⟩) (Rd.head _ _ _)) ⟨b, rfl, rfl⟩
end VK
