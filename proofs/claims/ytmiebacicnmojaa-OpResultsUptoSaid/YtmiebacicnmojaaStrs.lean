/- Library functions on strings: Cut at one byte, HasPrefix. Conditions: texts of a machine's size. -/
import Derived.Test.YtmiebacicnmojaaT
import Derived.Lib.Bytealg
namespace VK
open Go Go.Proofs
set_option linter.unusedSimpArgs false
set_option linter.unusedVariables false
set_option maxRecDepth 100000
set_option maxHeartbeats 40000000
theorem run_ixb (s : List UInt8) (x : Int) (w : World) : (callFunc 65 #[str s, .int .u8 x]).run Try.prog w = .ok (.value (.int .i64 (Lib.indexByte s x.toNat.toUInt8))) w := by
  rw [run_callFunc_extern Try.func65 (by kernel_rfl) (by kernel_rfl) (by kernel_rfl) (e := Extern.BytealgIndexByte.indexByte) (by kernel_rfl), str, Lib.run_indexByteString]
  rfl
section
variable {c : Cx} {k : List KI} {E : Env} {L : List Atom} {all rest : List Oper} {d : Nat} {ty : TypeId} {pos : String} {aft : Array Edge}
theorem o_ixb {az : Array Operand} {ats : Array TypeId} {s : List UInt8} {x : Int} (hP : c.P = Try.prog) (ha : evs E az.toList = some [str s, .int .u8 x]) (hd : Nat.blt d c.n = true)
    (hk : Ops c all rest k ((d, .v (.int .i64 (Lib.indexByte s x.toNat.toUInt8))) :: E) L) : Ops c all (⟨some d, .call { callee := .value (.func 65), args := az, argTypes := ats }, ty, pos, aft, none⟩ :: rest) k E L := by
  refine o_run (fun a w he hs => ⟨_, w, L, ?_, hs, hk⟩) hd
  have hargs : az.map a.eval = #[str s, .int .u8 x] := by
    have := he.evs ha
    apply Array.toList_inj.1
    simpa using this
  rw [execOp_call_go, hargs, hP]
  exact run_ixb s x w
end
theorem IndexByte_c (L : List Atom) (s : List UInt8) (x : Int) : Fn Try.prog 61 [str s, .int .u8 x] L fun v L' => v = .int .i64 (Lib.indexByte s x.toNat.toUInt8) ∧ L' = L := by
  refine fn_intro Try.func61 rfl Try.ntmps61 rfl (fun W0 => ?_)
  simp only [argE]
  refine r_seq ?_
  refine r_region (id := 0) ?_
  refine o_give (g_assign (evv rfl)) rfl rfl ?_
  refine o_nil ?_
  refine c_code ?_
  refine r_seq ?_
  refine r_region (id := 1) ?_
  refine o_give (g_move (evv rfl)) rfl rfl ?_
  refine o_give (g_move (evv rfl)) rfl rfl ?_
  (refine o_ixb rfl rfl rfl ?_)
  refine o_give (g_assign (evv rfl)) rfl rfl ?_
  refine o_nil ?_
  refine c_code ?_
  first | refine r_ret (rs := [.tmp 4]) rfl rfl _ (Ent.refl _) ?_ | refine c_end (rs := [.tmp 4]) rfl rfl _ (Ent.refl _) ?_
  (refine ⟨?_, ?_⟩ <;> first | rfl | trivial | omega)
theorem IndexByte_8 (L : List Atom) (s : List UInt8) (x : UInt8) : Fn Try.prog 61 [str s, by8 x] L fun v L' => v = .int .i64 (Lib.indexByte s x) ∧ L' = L := by
  have := IndexByte_c L s (x.toNat : Int)
  rwa [show ((x.toNat : Int)).toNat.toUInt8 = x by simp] at this
theorem Index_1 (L : List Atom) (s : List UInt8) (x : UInt8) : Fn Try.prog 60 [str s, str [x]] L fun v L' => v = .int .i64 (Lib.indexByte s x) ∧ L' = L := by
  refine fn_intro Try.func60 rfl Try.ntmps60 rfl (fun W0 => ?_)
  simp only [argE]
  have h1 : (([x] : List UInt8).length : Int) = 1 := rfl
  refine r_seq ?_
  refine r_region (id := 0) ?_
  refine o_give (g_assign (evv rfl)) rfl rfl ?_
  refine o_nil ?_
  refine c_code ?_
  refine r_seq ?_
  refine r_region (id := 1) ?_
  refine o_give (g_move (evv rfl)) rfl rfl ?_
  refine o_give (g_lenS TyU.h (evv rfl)) rfl rfl ?_
  refine o_give (g_assign (evv rfl)) rfl rfl ?_
  refine o_nil ?_
  refine c_code ?_
  refine r_seq ?_
  refine r_block ?_
  refine r_seq ?_
  refine r_region (id := 2) ?_
  refine o_give (g_move (evv rfl)) rfl rfl ?_
  refine o_give (g_bin (evv rfl) (evv rfl) (by rfl)) rfl rfl ?_
  refine o_give (g_move (evv rfl)) rfl rfl ?_
  refine o_gyes rfl ?_
  refine o_give (g_move (evv rfl)) rfl rfl ?_
  refine o_gyes rfl ?_
  refine o_give (g_move (evv rfl)) rfl rfl ?_
  refine o_gyes rfl ?_
  refine o_give (g_binS (evv rfl) (evv rfl) (by rfl)) rfl rfl ?_
  refine o_give (g_pick (b := false) (evv rfl) (fun h => by cases h) (fun _ => (evv rfl))) rfl rfl ?_
  refine o_give (g_assign (evv rfl)) rfl rfl ?_
  refine o_nil ?_
  refine c_code ?_
  refine r_cond rfl (fun hx => ?_) (fun hx => ?_) <;> (try simp only [decide_eq_true_eq, decide_eq_false_iff_not, Bool.and_eq_true, Bool.or_eq_true, Bool.not_eq_true', Bool.and_eq_false_iff, Bool.or_eq_false_iff, Bool.not_eq_false', Bool.not_eq_true, Bool.not_eq_false, Bool.true_eq_false, Bool.false_eq_true, Int.not_lt, Int.not_le, not_and, not_or, ne_eq] at hx)
  · subst hx
    refine r_seq ?_
    refine r_region (id := 3) ?_
    refine o_give (g_assign (evv rfl)) rfl rfl ?_
    refine o_nil ?_
    refine c_code ?_
    first | refine r_ret (rs := [.tmp 4]) rfl rfl _ (Ent.refl _) ?_ | refine c_end (rs := [.tmp 4]) rfl rfl _ (Ent.refl _) ?_
    refine ⟨?_, rfl⟩
    unfold Lib.indexByte
    rw [if_pos (by simp)]
    rfl
  · refine r_seq ?_
    refine r_region (id := 4) ?_
    refine o_give (g_move (evv rfl)) rfl rfl ?_
    refine o_give (g_bin (evv rfl) (evv rfl) (by rfl)) rfl rfl ?_
    refine o_give (g_assign (evv rfl)) rfl rfl ?_
    refine o_nil ?_
    refine c_code ?_
    refine r_cond_true rfl ?_
    refine r_seq ?_
    refine r_region (id := 5) ?_
    refine o_give (g_move (evv rfl)) rfl rfl ?_
    refine o_give (g_move (evv rfl)) rfl rfl ?_
    refine o_give (g_indexSN TyU.h (evv rfl) (evv rfl) (by first | omega | (have := of_decide_eq_true hg; omega) | (simp at hg; omega) | (simp only [List.length_set, List.length_append, List.length_cons, List.length_nil, List.length_map, List.length_take, List.length_drop, List.length_replicate]; omega))) rfl rfl ?_
    (refine o_call rfl _ (Ent.refl _) (IndexByte_8 _ _ _) rfl ?_; rintro _ _ ⟨rfl, hLz⟩; obtain rfl := hLz.symm; clear hLz)
    refine o_give (g_assign (evv rfl)) rfl rfl ?_
    refine o_nil ?_
    refine c_code ?_
    first | refine r_ret (rs := [.tmp 4]) rfl rfl _ (Ent.refl _) ?_ | refine c_end (rs := [.tmp 4]) rfl rfl _ (Ent.refl _) ?_
    exact ⟨rfl, rfl⟩
theorem ix_cases (s : List UInt8) (x : UInt8) : (Lib.indexByte s x = -1 ∧ x ∉ s) ∨ ∃ i, i < s.length ∧ Lib.indexByte s x = (i : Int) ∧ x ∉ s.take i ∧ s = s.take i ++ x :: s.drop (i + 1) := by
  induction s with
  | nil => exact .inl ⟨rfl, by simp⟩
  | cons a s ih =>
    unfold Lib.indexByte
    by_cases h : a = x
    · subst h
      exact .inr ⟨0, by simp, by simp, by simp, by simp⟩
    · rw [if_neg (by simpa using h)]
      rcases ih with ⟨h1, h2⟩ | ⟨i, h1, h2, h3, h4⟩
      · rw [h1]
        exact .inl ⟨rfl, by simp [h2, Ne.symm h]⟩
      · rw [h2, if_neg (by intro h; have := eq_of_beq h; omega)]
        refine .inr ⟨i + 1, by simp; omega, by omega, ?_, ?_⟩
        · rw [List.take_succ_cons]; simp [h3, Ne.symm h]
        · rw [List.take_succ_cons, List.drop_succ_cons, List.cons_append, ← h4]
/-- what lies ahead of the first stroke, and behind it -/
def cutA (x : UInt8) (s : List UInt8) : List UInt8 := if Lib.indexByte s x < 0 then s else s.take (Lib.indexByte s x).toNat
def cutZ (x : UInt8) (s : List UInt8) : List UInt8 := if Lib.indexByte s x < 0 then [] else s.drop ((Lib.indexByte s x).toNat + 1)
theorem Cut_1 (L : List Atom) (s : List UInt8) (x : UInt8) (hs : s.length ≤ 9223372036854775806) : Fn Try.prog 59 [str s, str [x]] L fun v L' => v = .tuple #[str (cutA x s), str (cutZ x s), .bool (decide (0 ≤ Lib.indexByte s x))] ∧ L' = L := by
  refine fn_intro Try.func59 rfl Try.ntmps59 rfl (fun W0 => ?_)
  simp only [argE]
  have h1 : (([x] : List UInt8).length : Int) = 1 := rfl
  refine r_seq ?_
  refine r_region (id := 0) ?_
  refine o_give (g_assign (evv rfl)) rfl rfl ?_
  refine o_give (g_assign (evv rfl)) rfl rfl ?_
  refine o_give (g_assign (evv rfl)) rfl rfl ?_
  refine o_nil ?_
  refine c_code ?_
  refine r_seq ?_
  refine r_seq ?_
  refine r_region (id := 1) ?_
  refine o_give (g_move (evv rfl)) rfl rfl ?_
  refine o_give (g_move (evv rfl)) rfl rfl ?_
  (refine o_call rfl _ (Ent.refl _) (Index_1 _ _ _) rfl ?_; rintro _ _ ⟨rfl, hLz⟩; obtain rfl := hLz.symm; clear hLz)
  refine o_give (g_assign (evv rfl)) rfl rfl ?_
  refine o_nil ?_
  refine c_code ?_
  refine r_seq ?_
  refine r_region (id := 2) ?_
  refine o_give (g_move (evv rfl)) rfl rfl ?_
  refine o_give (g_bin (evv rfl) (evv rfl) (by rfl)) rfl rfl ?_
  refine o_nil ?_
  refine c_code ?_
  rcases ix_cases s x with ⟨h2, _⟩ | ⟨i, h2, h3, _, _⟩
  · rw [show cutA x s = s from if_pos (by omega), show cutZ x s = [] from if_pos (by omega), h2]
    refine r_cond_false rfl ?_
    refine r_skip ?_
    refine c_code ?_
    refine r_seq ?_
    refine r_region (id := 4) ?_
    refine o_give (g_move (evv rfl)) rfl rfl ?_
    refine o_give (g_assign (evv rfl)) rfl rfl ?_
    refine o_give (g_assign (evv rfl)) rfl rfl ?_
    refine o_give (g_assign (evv rfl)) rfl rfl ?_
    refine o_nil ?_
    refine c_code ?_
    first | refine r_ret (rs := [.tmp 4, .tmp 5, .tmp 6]) rfl rfl _ (Ent.refl _) ?_ | refine c_end (rs := [.tmp 4, .tmp 5, .tmp 6]) rfl rfl _ (Ent.refl _) ?_
    exact ⟨rfl, rfl⟩
  · rw [show cutA x s = s.take i from (if_neg (by omega)).trans (by rw [h3]; rfl), show cutZ x s = s.drop (i + 1) from (if_neg (by omega)).trans (by rw [h3]; rfl), h3]
    refine r_cond rfl (fun hc => ?_) (fun hc => ?_) <;> (try simp only [decide_eq_true_eq, decide_eq_false_iff_not, Bool.and_eq_true, Bool.or_eq_true, Bool.not_eq_true', Bool.and_eq_false_iff, Bool.or_eq_false_iff, Bool.not_eq_false', Bool.not_eq_true, Bool.not_eq_false, Bool.true_eq_false, Bool.false_eq_true, Int.not_lt, Int.not_le, not_and, not_or, ne_eq] at hc)
    · repeat (first | refine r_seq ?_ | refine c_code ?_ | refine c_blk ?_ | refine r_block ?_ | refine r_skip ?_)
      refine r_held (id := 3) (L) Mixed.h ?_
      refine h_give (i := 0) (by kernel_rfl) rfl (g_move (evv rfl)) rfl rfl ?_
      refine h_give (i := 1) (by kernel_rfl) rfl (g_move (evv rfl)) rfl rfl ?_
      refine h_give (i := 2) (by kernel_rfl) rfl (g_subS (evv rfl) _ _ bnd_none (bnd_some (evv rfl) rfl) (by omega) (by omega)) rfl rfl ?_
      refine h_give (i := 3) (by kernel_rfl) rfl (g_move (evv rfl)) rfl rfl ?_
      refine h_give (i := 4) (by kernel_rfl) rfl (g_move (evv rfl)) rfl rfl ?_
      refine h_give (i := 5) (by kernel_rfl) rfl (g_move (evv rfl)) rfl rfl ?_
      refine h_give (i := 6) (by kernel_rfl) rfl (g_lenS TyU.h (evv rfl)) rfl rfl ?_
      refine h_giveN (i := 7) (by kernel_rfl) rfl (g_bin (evv rfl) (evv rfl) (by rfl)) (by simp only [inR]; omega) rfl ?_
      refine h_give (i := 8) (by kernel_rfl) rfl (g_subS (evv rfl) _ _ (bnd_some (evv rfl) rfl) bnd_none (by omega) (by omega)) rfl rfl ?_
      refine h_give (i := 9) (by kernel_rfl) rfl (g_assign (evv rfl)) rfl rfl ?_
      refine h_give (i := 10) (by kernel_rfl) rfl (g_assign (evv rfl)) rfl rfl ?_
      refine h_give (i := 11) (by kernel_rfl) rfl (g_assign (evv rfl)) rfl rfl ?_
      refine h_done (by kernel_rfl) (Ent.refl _) ?_
      refine c_code ?_
      first | refine r_ret (rs := [.tmp 4, .tmp 5, .tmp 6]) rfl rfl _ (Ent.refl _) ?_ | refine c_end (rs := [.tmp 4, .tmp 5, .tmp 6]) rfl rfl _ (Ent.refl _) ?_
      refine ⟨?_, rfl⟩
      rw [List.drop_zero, Nat.sub_zero, decide_eq_true hc, List.take_of_length_le (l := List.drop (i + [x].length) s) (by rw [List.length_drop]; exact Nat.le_refl _)]
      rfl
    · exfalso; omega
theorem SCut_1 (L : List Atom) (s : List UInt8) (x : UInt8) (hs : s.length ≤ 9223372036854775806) : Fn Try.prog 58 [str s, str [x]] L fun v L' => v = .tuple #[str (cutA x s), str (cutZ x s), .bool (decide (0 ≤ Lib.indexByte s x))] ∧ L' = L := by
  refine fn_intro Try.func58 rfl Try.ntmps58 rfl (fun W0 => ?_)
  simp only [argE]
  refine r_seq ?_
  refine r_region (id := 0) ?_
  refine o_give (g_assign (evv rfl)) rfl rfl ?_
  refine o_give (g_assign (evv rfl)) rfl rfl ?_
  refine o_give (g_assign (evv rfl)) rfl rfl ?_
  refine o_nil ?_
  refine c_code ?_
  refine r_seq ?_
  refine r_region (id := 1) ?_
  refine o_give (g_move (evv rfl)) rfl rfl ?_
  refine o_give (g_move (evv rfl)) rfl rfl ?_
  (refine o_call rfl _ (Ent.refl _) (Cut_1 _ _ _ (by first | assumption | omega)) rfl ?_; rintro _ _ ⟨rfl, hLz⟩; obtain rfl := hLz.symm; clear hLz)
  refine o_give (g_extract (evv rfl) (by rfl)) rfl rfl ?_
  refine o_give (g_extract (evv rfl) (by rfl)) rfl rfl ?_
  refine o_give (g_extract (evv rfl) (by rfl)) rfl rfl ?_
  refine o_give (g_assign (evv rfl)) rfl rfl ?_
  refine o_give (g_assign (evv rfl)) rfl rfl ?_
  refine o_give (g_assign (evv rfl)) rfl rfl ?_
  refine o_nil ?_
  refine c_code ?_
  first | refine r_ret (rs := [.tmp 4, .tmp 5, .tmp 6]) rfl rfl _ (Ent.refl _) ?_ | refine c_end (rs := [.tmp 4, .tmp 5, .tmp 6]) rfl rfl _ (Ent.refl _) ?_
  exact ⟨rfl, rfl⟩
theorem Prefix_c (L : List Atom) (s p : List UInt8) : Fn Try.prog 56 [str s, str p] L fun v L' => v = .bool (decide (p <+: s)) ∧ L' = L := by
  refine fn_intro Try.func56 rfl Try.ntmps56 rfl (fun W0 => ?_)
  simp only [argE]
  refine r_seq ?_
  refine r_region (id := 0) ?_
  refine o_give (g_assign (evv rfl)) rfl rfl ?_
  refine o_nil ?_
  refine c_code ?_
  refine r_seq ?_
  refine r_region (id := 1) ?_
  refine o_give (g_move (evv rfl)) rfl rfl ?_
  refine o_give (g_lenS TyU.h (evv rfl)) rfl rfl ?_
  refine o_give (g_move (evv rfl)) rfl rfl ?_
  refine o_give (g_lenS TyU.h (evv rfl)) rfl rfl ?_
  refine o_give (g_bin (evv rfl) (evv rfl) (by rfl)) rfl rfl ?_
  refine o_give (g_move (evv rfl)) rfl rfl ?_
  refine o_lazy rfl (fun hg => g_move (by first | exact evv rfl | exact evg rfl (by rw [hp]; rfl) | exact evg rfl hp | exact evg rfl hg | exact evg rfl (by first | (simp_all; done) | (simp [*]; done) | fail) | fail)) rfl rfl ?_
  refine o_lazy rfl (fun hg => g_move (by first | exact evv rfl | exact evg rfl (by rw [hp]; rfl) | exact evg rfl hp | exact evg rfl hg | exact evg rfl (by first | (simp_all; done) | (simp [*]; done) | fail) | fail)) rfl rfl ?_
  refine o_lazy rfl (fun hg => g_lenS TyU.h (by first | exact evv rfl | exact evg rfl (by rw [hp]; rfl) | exact evg rfl hp | exact evg rfl hg | exact evg rfl (by first | (simp_all; done) | (simp [*]; done) | fail) | fail)) rfl rfl ?_
  refine o_split (t := 10) rfl (fun hs => ?_) (fun hs => ?_)
  · have hl : p.length ≤ s.length := by simpa using hs
    refine o_sure (t := 11) rfl hs ?_
    refine o_sure (t := 13) rfl hs ?_
    refine o_gyes rfl ?_
    refine o_give (g_subS (evv rfl) _ _ bnd_none (bnd_some (evv rfl) rfl) (by omega) (by omega)) rfl rfl ?_
    refine o_gyes rfl ?_
    refine o_give (g_move (evv rfl)) rfl rfl ?_
    refine o_gyes rfl ?_
    refine o_give (g_binS (evv rfl) (evv rfl) (by rfl)) rfl rfl ?_
    refine o_give (g_pick (b := true) (evv rfl) (fun _ => (evv rfl)) (fun h => by cases h)) rfl rfl ?_
    refine o_give (g_assign (evv rfl)) rfl rfl ?_
    refine o_nil ?_
    refine c_code ?_
    skip
    first | refine r_ret (rs := [.tmp 4]) rfl rfl _ (Ent.refl _) ?_ | refine c_end (rs := [.tmp 4]) rfl rfl _ (Ent.refl _) ?_
    refine ⟨bool_eq ?_, rfl⟩
    rw [List.drop_zero, Nat.sub_zero]
    exact decide_eq_decide.2 ⟨fun h => List.prefix_iff_eq_take.2 h.symm, fun h => (List.prefix_iff_eq_take.1 h).symm⟩
  · have hl : ¬ p.length ≤ s.length := by simpa using hs
    refine o_lazy (v0 := undef) rfl (fun hg => absurd hg (by first | (simp; done) | fail)) rfl rfl ?_
    refine o_lazy rfl (fun hg => g_move (by first | exact evv rfl | exact evg rfl (by rw [hp]; rfl) | exact evg rfl hp | exact evg rfl hg | exact evg rfl (by first | (simp_all; done) | (simp [*]; done) | fail) | fail)) rfl rfl ?_
    refine o_lazy (v0 := undef) rfl (fun hg => absurd hg (by first | (simp; done) | fail)) rfl rfl ?_
    refine o_give (g_pick (b := false) (evv rfl) (fun h => by cases h) (fun _ => (evv rfl))) rfl rfl ?_
    refine o_give (g_assign (evv rfl)) rfl rfl ?_
    refine o_nil ?_
    refine c_code ?_
    skip
    first | refine r_ret (rs := [.tmp 4]) rfl rfl _ (Ent.refl _) ?_ | refine c_end (rs := [.tmp 4]) rfl rfl _ (Ent.refl _) ?_
    refine ⟨bool_eq ?_, rfl⟩
    exact (decide_eq_false (fun h => hl h.length_le)).symm
theorem SPrefix_c (L : List Atom) (s p : List UInt8) : Fn Try.prog 48 [str s, str p] L fun v L' => v = .bool (decide (p <+: s)) ∧ L' = L := by
  refine fn_intro Try.func48 rfl Try.ntmps48 rfl (fun W0 => ?_)
  simp only [argE]
  refine r_seq ?_
  refine r_region (id := 0) ?_
  refine o_give (g_assign (evv rfl)) rfl rfl ?_
  refine o_nil ?_
  refine c_code ?_
  refine r_seq ?_
  refine r_region (id := 1) ?_
  refine o_give (g_move (evv rfl)) rfl rfl ?_
  refine o_give (g_move (evv rfl)) rfl rfl ?_
  (refine o_call rfl _ (Ent.refl _) (Prefix_c _ _ _) rfl ?_; rintro _ _ ⟨rfl, hLz⟩; obtain rfl := hLz.symm; clear hLz)
  refine o_give (g_assign (evv rfl)) rfl rfl ?_
  refine o_nil ?_
  refine c_code ?_
  first | refine r_ret (rs := [.tmp 4]) rfl rfl _ (Ent.refl _) ?_ | refine c_end (rs := [.tmp 4]) rfl rfl _ (Ent.refl _) ?_
  exact ⟨rfl, rfl⟩
end VK
