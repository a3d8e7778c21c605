/- The reference's table that bytes mean: walked. Conditions: few bytes. -/
import Derived.Test.YtcbhnagihkcafaaSes11
namespace VK
open Go Go.Proofs
set_option linter.unusedSimpArgs false
set_option linter.unusedVariables false
set_option maxRecDepth 100000
set_option maxHeartbeats 40000000
def rDecP (F : List Atom) (b : List UInt8) (w : Value) (L' : List Atom) : Prop :=
  (decT b = none ∧ w = .tuple #[.pointer none, .bool false] ∧ L' = F) ∨ (∃ room L t u, decT b = some (room, L) ∧ w = .tuple #[.pointer (some ⟨t, 0, none⟩), .bool true] ∧ L' = blk t (rtB (room : Int) u) :: sl u (frow seatC 5 34 L) :: F)
theorem rDecode_c (F : List Atom) (v : Value) (b : List UInt8) (hb : b.length ≤ 140737488355000) [rd : Rd F v (mrow by8 5 b)] :
    Fn Try.prog 21 [v] F (rDecP F b) := by
  refine fn_intro Try.func21 rfl Try.ntmps21 rfl (fun W0 => ?_)
  simp only [argE]
  have hr1 := numR_le ⟨b, 0⟩
  have hr2 := numR_le (numR ⟨b, 0⟩).2
  have h00 : (0 : Nat) ≤ b.length := Nat.zero_le _
  have hD0 : decT b = if 8192 < (numR ⟨b, 0⟩).1 ∨ 8 < (numR (numR ⟨b, 0⟩).2).1 then none else finT (numR ⟨b, 0⟩).1 [] (seatsGo (numR (numR ⟨b, 0⟩).2).1 0 (numR (numR ⟨b, 0⟩).2).2) := rfl
  refine r_seq ?_
  refine r_region (id := 0) ?_
  refine o_give (g_assign (evv rfl)) rfl rfl ?_
  refine o_give (g_assign (evv rfl)) rfl rfl ?_
  refine o_nil ?_
  refine c_code ?_
  refine r_seq ?_
  refine r_region (id := 1) ?_
  refine o_give (g_move (evv rfl)) rfl rfl ?_
  refine o_give (g_buildC rfl (by rfl)) rfl rfl ?_
  refine o_boxA (evv rfl) rfl (fun _ => ?_)
  refine o_give (g_assign (evv rfl)) rfl rfl ?_
  refine o_nil ?_
  refine c_code ?_
  refine r_seq ?_
  rename_i q
  refine r_ent (blk q (rC v 0 0) :: F) (Ent.refl _) ?_
  refine r_region (id := 2) ?_
  refine o_give (g_move (evv rfl)) rfl rfl ?_
  (refine o_call rfl _ (Ent.refl _) (Fn.atPick (rNum_g _ (by assumption) (by assumption) _)) rfl ?_; rintro _ _ ⟨ra, re, hra, rfl, hrs, rfl⟩)
  refine o_give (g_assign (evv rfl)) rfl rfl ?_
  refine o_nil ?_
  refine c_code ?_
  refine r_seq ?_
  have hrs1 : (numR ⟨b, 0⟩).2 = _ := hrs
  rw [hrs1] at hr2 hD0
  refine r_region (id := 3) ?_
  refine o_give (g_move (evv rfl)) rfl rfl ?_
  (refine o_call rfl _ (Ent.refl _) (Fn.atPick (rNum_g _ (by assumption) (by assumption) _)) rfl ?_; rintro _ _ ⟨ra, re, hra, rfl, hrs, rfl⟩)
  refine o_give (g_assign (evv rfl)) rfl rfl ?_
  refine o_nil ?_
  refine c_code ?_
  refine r_seq ?_
  refine r_seq ?_
  rw [hrs] at hD0
  rw [show (numR ⟨List.drop 0 b, 0⟩).1 = (numR ⟨b, 0⟩).1 from rfl]
  generalize (numR ⟨b, 0⟩).1 = room at *
  generalize (numR _).1 = n at *
  refine r_region (id := 4) ?_
  refine o_give (g_move (evv rfl)) rfl rfl ?_
  refine o_give (g_nil (evv rfl)) rfl rfl ?_
  refine o_give (g_fld (evv rfl)) rfl rfl ?_
  refine o_give (g_load (evv rfl) (by rfl) (by rfl)) rfl rfl ?_
  refine o_give (g_bin (evv rfl) (evv rfl) (by rfl)) rfl rfl ?_
  refine o_give (g_move (evv rfl)) rfl rfl ?_
  refine o_lazy rfl (fun hg => g_move (by first | exact evv rfl | exact evg rfl (by rw [hp]; rfl) | exact evg rfl hp | exact evg rfl hg | exact evg rfl (by first | (simp_all; done) | (simp [*]; done) | fail) | fail)) rfl rfl ?_
  refine o_lazy rfl (fun hg => g_bin (by first | exact evv rfl | exact evg rfl (by rw [hp]; rfl) | exact evg rfl hp | exact evg rfl hg | exact evg rfl (by first | (simp_all; done) | (simp [*]; done) | fail) | fail) (by first | exact evv rfl | exact evg rfl (by rw [hp]; rfl) | exact evg rfl hp | exact evg rfl hg | exact evg rfl (by first | (simp_all; done) | (simp [*]; done) | fail) | fail) (by rfl)) rfl rfl ?_
  refine o_give (g_pick_or (evv rfl) (evv rfl) (fun hp => (by first | exact evv rfl | exact evg rfl (by rw [hp]; rfl) | exact evg rfl hp | exact evg rfl hg | exact evg rfl (by first | (simp_all; done) | (simp [*]; done) | fail) | fail))) rfl rfl ?_
  refine o_give (g_move (evv rfl)) rfl rfl ?_
  refine o_lazy rfl (fun hg => g_move (by first | exact evv rfl | exact evg rfl (by rw [hp]; rfl) | exact evg rfl hp | exact evg rfl hg | exact evg rfl (by first | (simp_all; done) | (simp [*]; done) | fail) | fail)) rfl rfl ?_
  refine o_lazy rfl (fun hg => g_bin (by first | exact evv rfl | exact evg rfl (by rw [hp]; rfl) | exact evg rfl hp | exact evg rfl hg | exact evg rfl (by first | (simp_all; done) | (simp [*]; done) | fail) | fail) (by first | exact evv rfl | exact evg rfl (by rw [hp]; rfl) | exact evg rfl hp | exact evg rfl hg | exact evg rfl (by first | (simp_all; done) | (simp [*]; done) | fail) | fail) (by rfl)) rfl rfl ?_
  refine o_give (g_pick_or (evv rfl) (evv rfl) (fun hp => (by first | exact evv rfl | exact evg rfl (by rw [hp]; rfl) | exact evg rfl hp | exact evg rfl hg | exact evg rfl (by first | (simp_all; done) | (simp [*]; done) | fail) | fail))) rfl rfl ?_
  refine o_nil ?_
  refine c_code ?_
  refine r_cond rfl (fun hbad => ?_) (fun hbad => ?_) <;> (try simp only [decide_eq_true_eq, decide_eq_false_iff_not, Bool.and_eq_true, Bool.or_eq_true, Bool.not_eq_true', Bool.and_eq_false_iff, Bool.or_eq_false_iff, Bool.not_eq_false', Bool.not_eq_true, Bool.not_eq_false, Bool.true_eq_false, Bool.false_eq_true, Int.not_lt, Int.not_le, not_and, not_or, ne_eq] at hbad)
  · refine r_seq ?_
    refine r_region (id := 5) ?_
    refine o_give (g_assign (evv rfl)) rfl rfl ?_
    refine o_give (g_assign (evv rfl)) rfl rfl ?_
    refine o_nil ?_
    refine c_code ?_
    first | refine r_ret (rs := [.tmp 2, .tmp 3]) rfl rfl _ ((Lay.ent (L' := F))) ?_ | refine c_end (rs := [.tmp 2, .tmp 3]) rfl rfl _ ((Lay.ent (L' := F))) ?_
    refine .inl ⟨?_, rfl, rfl⟩
    rw [hD0]
    by_cases hx : 8192 < room ∨ 8 < n
    · rw [if_pos hx]
    · rw [if_neg hx]
      rcases hbad with (h | h) | h
      · exact fin_err h (Int.le_refl _)
      · exact absurd (.inl (by omega)) hx
      · exact absurd (.inr (by omega)) hx
  · rw [if_neg (by omega)] at hD0
    refine r_skip ?_
    refine c_code ?_
    refine r_seq ?_
    refine r_region (id := 6) ?_
    refine o_give (g_move (evv rfl)) rfl rfl ?_
    refine o_giveN (g_conv TyU.h TyU.h (evv rfl)) (by simp only [inR]; omega) rfl ?_
    refine o_give (g_buildC rfl (by rfl)) rfl rfl ?_
    refine o_boxA (evv rfl) rfl (fun _ => ?_)
    refine o_give (g_assign (evv rfl)) rfl rfl ?_
    refine o_nil ?_
    refine c_code ?_
    refine r_seq ?_
    refine r_region (id := 7) ?_
    refine o_give (g_assign (evv rfl)) rfl rfl ?_
    refine o_nil ?_
    refine c_code ?_
    refine r_seq ?_
    refine r_seq ?_
    refine r_region (id := 8) ?_
    refine o_give (g_assign (evv rfl)) rfl rfl ?_
    refine o_nil ?_
    refine c_code ?_
    refine r_block ?_
    rename_i t
    have hro : room ≤ 8192 := by omega
    have hno : n ≤ 8 := by omega
    clear hbad hrs1 hrs
    refine r_loopE (σ := Nat × List Seat × Nat × Value × { x : Nat × Int // x.1 ≤ b.length }) (fun ⟨k, acc, last, u, x⟩ => k ≤ n ∧ acc.length ≤ k ∧ last ≤ 8 ∧ repB acc ≤ 8192 * k ∧ decT b = finT room acc (seatsGo (n - k) last ⟨b.drop x.1.1, x.1.2⟩)) (fun ⟨k, acc, last, u, x⟩ => n - k) (fun ⟨k, acc, last, u, x⟩ => [(8, .v (.int .u64 last)), (9, .v (.int .i64 k))]) [4, 6, 7] (fun ⟨k, acc, last, u, x⟩ => blk t (rtB (room : Int) u) :: sl u (frow seatC 5 34 acc) :: blk q (rC v x.1.1 x.1.2) :: F) (0, [], 0, .slice none 0 0, ⟨(ra, re), hra⟩) (by dsimp only [pickE, pick1, lk2, Nat.reduceBEq, Nat.reduceAdd, Nat.zero_add, cond_true, cond_false] <;> exact rfl) ?_ (by repeat (first | exact trivial | refine ⟨rfl, ?_⟩ | refine envsub_v rfl (by first | rfl | (refine int_eq ?_; first | omega | (simp; omega) | (simp; done)) | (refine bool_eq ?_; first | (simp [*]; done) | (simp; done)) | (refine str_eq ?_; simp; done) | (refine ptr_eq ?_; omega) | fail) ?_)) ?_ ?_
    · exact ⟨Nat.zero_le _, Nat.le_refl _, Nat.zero_le _, Nat.zero_le _, hD0⟩
    · exact (Ent.nilsl 34 5).trans (Lay.ent (L' := blk t ⟨[.int .i64 (room : Int), .slice none 0 0], 40⟩ :: sl (.slice none 0 0) ⟨34, 5, 0, []⟩ :: blk q (rC v ra re) :: F))
    rintro ⟨k, acc, last, u, ⟨⟨a, e⟩, ha⟩⟩ ⟨hk, hal, hl8, har, hF⟩; dsimp only [List.cons_append, List.nil_append]
    dsimp only at ha hF ⊢
    refine r_seq ?_
    refine r_seq ?_
    refine r_region (id := 9) ?_
    refine o_give (g_move (evv rfl)) rfl rfl ?_
    refine o_give (g_move (evv rfl)) rfl rfl ?_
    refine o_giveN (g_conv TyU.h TyU.h (evv rfl)) (by simp only [inR]; omega) rfl ?_
    refine o_give (g_bin (evv rfl) (evv rfl) (by rfl)) rfl rfl ?_
    refine o_nil ?_
    refine c_code ?_
    refine r_cond rfl (fun hc => ?_) (fun hc => ?_) <;> (try simp only [decide_eq_true_eq, decide_eq_false_iff_not, Bool.and_eq_true, Bool.or_eq_true, Bool.not_eq_true', Bool.and_eq_false_iff, Bool.or_eq_false_iff, Bool.not_eq_false', Bool.not_eq_true, Bool.not_eq_false, Bool.true_eq_false, Bool.false_eq_true, Int.not_lt, Int.not_le, not_and, not_or, ne_eq] at hc)
    · obtain ⟨m, hm⟩ : ∃ m, n - k = m + 1 := ⟨n - k - 1, by omega⟩
      have hm2 : n - (k + 1) = m := by omega
      rw [hm] at hF
      have hc1 := numR_le ⟨b.drop a, e⟩
      refine r_skip ?_
      refine c_code ?_
      refine r_seq ?_
      refine r_block ?_
      refine r_seq ?_
      refine r_region (id := 11) ?_
      refine o_give (g_move (evv rfl)) rfl rfl ?_
      (refine o_call rfl _ (Ent.refl _) (Fn.atPick (rNum_g _ (by assumption) (by assumption) _)) rfl ?_; rintro _ _ ⟨ra, re, hra, rfl, hrs, rfl⟩)
      refine o_give (g_assign (evv rfl)) rfl rfl ?_
      refine o_nil ?_
      refine c_code ?_
      refine r_seq ?_
      have q1 := hrs
      clear hrs
      have hc2 := numR_le ⟨b.drop ra, re⟩
      refine r_region (id := 12) ?_
      refine o_give (g_move (evv rfl)) rfl rfl ?_
      (refine o_call rfl _ (Ent.refl _) (Fn.atPick (rNum_g _ (by assumption) (by assumption) _)) rfl ?_; rintro _ _ ⟨ra, re, hra, rfl, hrs, rfl⟩)
      refine o_give (g_assign (evv rfl)) rfl rfl ?_
      refine o_nil ?_
      refine c_code ?_
      refine r_seq ?_
      have q2 := hrs
      clear hrs
      refine r_region (id := 13) ?_
      refine o_give (g_move (evv rfl)) rfl rfl ?_
      (refine o_call rfl _ (Ent.refl _) (Fn.atPick (rIntN_g _ (by assumption) (by assumption) _)) rfl ?_; rintro _ _ ⟨ra, re, hra, rfl, hrs, rfl⟩)
      refine o_give (g_assign (evv rfl)) rfl rfl ?_
      refine o_nil ?_
      refine c_code ?_
      refine r_seq ?_
      have q3 := hrs
      clear hrs
      refine r_region (id := 14) ?_
      refine o_give (g_move (evv rfl)) rfl rfl ?_
      (refine o_call rfl _ (Ent.refl _) (Fn.atPick (rFlag_g _ (by assumption) (by assumption) _)) rfl ?_; rintro _ _ ⟨ra, re, hra, rfl, hrs, rfl⟩)
      refine o_give (g_assign (evv rfl)) rfl rfl ?_
      refine o_nil ?_
      refine c_code ?_
      refine r_seq ?_
      have q4 := hrs
      clear hrs
      refine r_region (id := 15) ?_
      refine o_give (g_move (evv rfl)) rfl rfl ?_
      (refine o_call rfl _ (Ent.refl _) (Fn.atPick (rText_g _ (by assumption) (by assumption) _ _ (by omega))) rfl ?_; rintro _ _ ⟨ra, re, hra, rfl, hrs, rfl⟩)
      refine o_give (g_assign (evv rfl)) rfl rfl ?_
      refine o_nil ?_
      refine c_code ?_
      refine r_seq ?_
      refine r_seq ?_
      have q5 := hrs
      clear hrs
      have htx := textR_len (flagR (numR (numR (numR ⟨b.drop a, e⟩).2).2).2).2
      rw [q1, q2, q3, q4] at htx
      rename_i a1 e1 h1 a2 e2 h2 a3 e3 h3 a4 e4 h4
      have hS : seatR ⟨b.drop a, e⟩ = (⟨(numR ⟨b.drop a, e⟩).1, (numR ⟨b.drop a1, e1⟩).1, unzig (numR ⟨b.drop a2, e2⟩).1, (flagR ⟨b.drop a3, e3⟩).1, (textR 8192 ⟨b.drop a4, e4⟩).1⟩, ⟨b.drop ra, re⟩) := by
        simp only [seatR, q1, q2, q3, q4, q5]
      clear q1 q2 q3 q4 q5
      generalize (numR ⟨b.drop a, e⟩).1 = cl at *
      generalize (numR ⟨b.drop a1, e1⟩).1 = nu at *
      generalize unzig (numR ⟨b.drop a2, e2⟩).1 = av at *
      generalize (flagR ⟨b.drop a3, e3⟩).1 = kv at *
      generalize (textR 8192 ⟨b.drop a4, e4⟩).1 = tv at *
      refine r_region (id := 16) ?_
      refine o_give (g_move (evv rfl)) rfl rfl ?_
      refine o_give (g_nil (evv rfl)) rfl rfl ?_
      refine o_give (g_fld (evv rfl)) rfl rfl ?_
      refine o_give (g_load (evv rfl) (by rfl) (by rfl)) rfl rfl ?_
      refine o_give (g_bin (evv rfl) (evv rfl) (by rfl)) rfl rfl ?_
      refine o_give (g_move (evv rfl)) rfl rfl ?_
      refine o_lazy rfl (fun hg => g_move (by first | exact evv rfl | exact evg rfl (by rw [hp]; rfl) | exact evg rfl hp | exact evg rfl hg | exact evg rfl (by first | (simp_all; done) | (simp [*]; done) | fail) | fail)) rfl rfl ?_
      refine o_lazy rfl (fun hg => g_move (by first | exact evv rfl | exact evg rfl (by rw [hp]; rfl) | exact evg rfl hp | exact evg rfl hg | exact evg rfl (by first | (simp_all; done) | (simp [*]; done) | fail) | fail)) rfl rfl ?_
      refine o_lazy rfl (fun hg => g_bin (by first | exact evv rfl | exact evg rfl (by rw [hp]; rfl) | exact evg rfl hp | exact evg rfl hg | exact evg rfl (by first | (simp_all; done) | (simp [*]; done) | fail) | fail) (by first | exact evv rfl | exact evg rfl (by rw [hp]; rfl) | exact evg rfl hp | exact evg rfl hg | exact evg rfl (by first | (simp_all; done) | (simp [*]; done) | fail) | fail) (by rfl)) rfl rfl ?_
      refine o_give (g_pick_or (evv rfl) (evv rfl) (fun hp => (by first | exact evv rfl | exact evg rfl (by rw [hp]; rfl) | exact evg rfl hp | exact evg rfl hg | exact evg rfl (by first | (simp_all; done) | (simp [*]; done) | fail) | fail))) rfl rfl ?_
      refine o_give (g_move (evv rfl)) rfl rfl ?_
      refine o_lazy rfl (fun hg => g_move (by first | exact evv rfl | exact evg rfl (by rw [hp]; rfl) | exact evg rfl hp | exact evg rfl hg | exact evg rfl (by first | (simp_all; done) | (simp [*]; done) | fail) | fail)) rfl rfl ?_
      refine o_lazy rfl (fun hg => g_bin (by first | exact evv rfl | exact evg rfl (by rw [hp]; rfl) | exact evg rfl hp | exact evg rfl hg | exact evg rfl (by first | (simp_all; done) | (simp [*]; done) | fail) | fail) (by first | exact evv rfl | exact evg rfl (by rw [hp]; rfl) | exact evg rfl hp | exact evg rfl hg | exact evg rfl (by first | (simp_all; done) | (simp [*]; done) | fail) | fail) (by rfl)) rfl rfl ?_
      refine o_give (g_pick_or (evv rfl) (evv rfl) (fun hp => (by first | exact evv rfl | exact evg rfl (by rw [hp]; rfl) | exact evg rfl hp | exact evg rfl hg | exact evg rfl (by first | (simp_all; done) | (simp [*]; done) | fail) | fail))) rfl rfl ?_
      refine o_give (g_move (evv rfl)) rfl rfl ?_
      refine o_lazy rfl (fun hg => g_move (by first | exact evv rfl | exact evg rfl (by rw [hp]; rfl) | exact evg rfl hp | exact evg rfl hg | exact evg rfl (by first | (simp_all; done) | (simp [*]; done) | fail) | fail)) rfl rfl ?_
      refine o_lazy rfl (fun hg => g_bin (by first | exact evv rfl | exact evg rfl (by rw [hp]; rfl) | exact evg rfl hp | exact evg rfl hg | exact evg rfl (by first | (simp_all; done) | (simp [*]; done) | fail) | fail) (by first | exact evv rfl | exact evg rfl (by rw [hp]; rfl) | exact evg rfl hp | exact evg rfl hg | exact evg rfl (by first | (simp_all; done) | (simp [*]; done) | fail) | fail) (by rfl)) rfl rfl ?_
      refine o_give (g_pick_or (evv rfl) (evv rfl) (fun hp => (by first | exact evv rfl | exact evg rfl (by rw [hp]; rfl) | exact evg rfl hp | exact evg rfl hg | exact evg rfl (by first | (simp_all; done) | (simp [*]; done) | fail) | fail))) rfl rfl ?_
      refine o_give (g_move (evv rfl)) rfl rfl ?_
      refine o_lazy rfl (fun hg => g_move (by first | exact evv rfl | exact evg rfl (by rw [hp]; rfl) | exact evg rfl hp | exact evg rfl hg | exact evg rfl (by first | (simp_all; done) | (simp [*]; done) | fail) | fail)) rfl rfl ?_
      refine o_lazy rfl (fun hg => g_bin (by first | exact evv rfl | exact evg rfl (by rw [hp]; rfl) | exact evg rfl hp | exact evg rfl hg | exact evg rfl (by first | (simp_all; done) | (simp [*]; done) | fail) | fail) (by first | exact evv rfl | exact evg rfl (by rw [hp]; rfl) | exact evg rfl hp | exact evg rfl hg | exact evg rfl (by first | (simp_all; done) | (simp [*]; done) | fail) | fail) (by rfl)) rfl rfl ?_
      refine o_give (g_pick_or (evv rfl) (evv rfl) (fun hp => (by first | exact evv rfl | exact evg rfl (by rw [hp]; rfl) | exact evg rfl hp | exact evg rfl hg | exact evg rfl (by first | (simp_all; done) | (simp [*]; done) | fail) | fail))) rfl rfl ?_
      refine o_give (g_move (evv rfl)) rfl rfl ?_
      refine o_lazy rfl (fun hg => g_move (by first | exact evv rfl | exact evg rfl (by rw [hp]; rfl) | exact evg rfl hp | exact evg rfl hg | exact evg rfl (by first | (simp_all; done) | (simp [*]; done) | fail) | fail)) rfl rfl ?_
      refine o_lazy rfl (fun hg => g_not (by first | exact evv rfl | exact evg rfl (by rw [hp]; rfl) | exact evg rfl hp | exact evg rfl hg | exact evg rfl (by first | (simp_all; done) | (simp [*]; done) | fail) | fail)) rfl rfl ?_
      refine o_lazy rfl (fun hg => g_move (by first | exact evv rfl | exact evg rfl (by rw [hp]; rfl) | exact evg rfl hp | exact evg rfl hg | exact evg rfl (by first | (simp_all; done) | (simp [*]; done) | fail) | fail)) rfl rfl ?_
      refine o_lazy rfl (fun hg => g_move (by first | exact evv rfl | exact evg rfl (by rw [hp]; rfl) | exact evg rfl hp | exact evg rfl hg | exact evg rfl (by first | (simp_all; done) | (simp [*]; done) | fail) | fail)) rfl rfl ?_
      refine o_lazy rfl (fun hg => g_binS (by first | exact evv rfl | exact evg rfl (by rw [hp]; rfl) | exact evg rfl hp | exact evg rfl hg | exact evg rfl (by first | (simp_all; done) | (simp [*]; done) | fail) | fail) (by first | exact evv rfl | exact evg rfl (by rw [hp]; rfl) | exact evg rfl hp | exact evg rfl hg | exact evg rfl (by first | (simp_all; done) | (simp [*]; done) | fail) | fail) (by rfl)) rfl rfl ?_
      refine o_lazy rfl (fun hg => g_pick_and (by first | exact evv rfl | exact evg rfl (by rw [hp]; rfl) | exact evg rfl hp | exact evg rfl hg | exact evg rfl (by first | (simp_all; done) | (simp [*]; done) | fail) | fail) (by first | exact evv rfl | exact evg rfl (by rw [hp]; rfl) | exact evg rfl hp | exact evg rfl hg | exact evg rfl (by first | (simp_all; done) | (simp [*]; done) | fail) | fail) (fun hp => (by first | exact evv rfl | exact evg rfl (by rw [hp]; rfl) | exact evg rfl hp | exact evg rfl hg | exact evg rfl (by first | (simp_all; done) | (simp [*]; done) | fail) | fail))) rfl rfl ?_
      refine o_give (g_pick_or (evv rfl) (evv rfl) (fun hp => (by first | exact evv rfl | exact evg rfl (by rw [hp]; rfl) | exact evg rfl hp | exact evg rfl hg | exact evg rfl (by first | (simp_all; done) | (simp [*]; done) | fail) | fail))) rfl rfl ?_
      refine o_nil ?_
      refine c_code ?_
      refine r_cond rfl (fun hbad => ?_) (fun hbad => ?_) <;> (try simp only [decide_eq_true_eq, decide_eq_false_iff_not, Bool.and_eq_true, Bool.or_eq_true, Bool.not_eq_true', Bool.and_eq_false_iff, Bool.or_eq_false_iff, Bool.not_eq_false', Bool.not_eq_true, Bool.not_eq_false, Bool.true_eq_false, Bool.false_eq_true, Int.not_lt, Int.not_le, not_and, not_or, ne_eq] at hbad)
      · have hF2 : decT b = none := by
          rw [hF]
          by_cases hb2 : badSeat last (seatR ⟨b.drop a, e⟩).1
          · exact fin_bad hb2
          · rw [fin_step hb2]
            simp only [hS, badSeat] at hb2 ⊢
            refine fin_err ?_ (by omega)
            intro h0
            apply hb2
            rcases hbad with ((((h | h) | h) | h) | h) | h
            · exact absurd h0 h
            · exact .inl (by omega)
            · exact .inr (.inl (by omega))
            · exact .inr (.inr (.inl (by omega)))
            · exact .inr (.inr (.inr (.inl (by omega))))
            · exact .inr (.inr (.inr (.inr h)))
        refine r_seq ?_
        refine r_region (id := 17) ?_
        refine o_give (g_assign (evv rfl)) rfl rfl ?_
        refine o_give (g_assign (evv rfl)) rfl rfl ?_
        refine o_nil ?_
        refine c_code ?_
        first | refine r_ret (rs := [.tmp 2, .tmp 3]) rfl rfl _ ((Lay.ent (L' := F))) ?_ | refine c_end (rs := [.tmp 2, .tmp 3]) rfl rfl _ ((Lay.ent (L' := F))) ?_
        exact .inl ⟨hF2, rfl, rfl⟩
      · have hb2 : ¬ badSeat last (seatR ⟨b.drop a, e⟩).1 := by
          rw [hS]
          unfold badSeat
          rintro (h | h | h | h | h)
          · dsimp only at h; omega
          · dsimp only at h; omega
          · dsimp only at h; omega
          · dsimp only at h; omega
          · rcases hbad.2 with g | g
            · dsimp only at h; rw [h.1] at g; cases g
            · exact h.2 g
        rw [fin_step hb2, hS] at hF
        dsimp only at hF
        refine r_skip ?_
        refine c_code ?_
        refine r_seq ?_
        refine r_region (id := 18) ?_
        refine o_give (g_move (evv rfl)) rfl rfl ?_
        refine o_give (g_assign (evv rfl)) rfl rfl ?_
        refine o_nil ?_
        refine c_code ?_
        refine r_region (id := 19) ?_
        refine o_give (g_move (evv rfl)) rfl rfl ?_
        refine o_give (g_move (evv rfl)) rfl rfl ?_
        refine o_give (g_nil (evv rfl)) rfl rfl ?_
        refine o_give (g_fld (evv rfl)) rfl rfl ?_
        refine o_give (g_load (evv rfl) (by rfl) (by rfl)) rfl rfl ?_
        refine o_give (g_move (evv rfl)) rfl rfl ?_
        refine o_giveN (g_conv TyU.h TyU.h (evv rfl)) (by simp only [inR]; omega) rfl ?_
        refine o_give (g_move (evv rfl)) rfl rfl ?_
        refine o_giveN (g_conv TyU.h TyU.h (evv rfl)) (by simp only [inR]; omega) rfl ?_
        refine o_give (g_move (evv rfl)) rfl rfl ?_
        refine o_give (g_move (evv rfl)) rfl rfl ?_
        refine o_give (g_move (evv rfl)) rfl rfl ?_
        refine o_give (g_buildC rfl (by rfl)) rfl rfl ?_
        refine o_litS rfl (by rfl) inferInstance (by rfl) rfl (fun _ => ?_)
        refine o_appF (evv rfl) (evv rfl) (by rfl) (by rfl) (by rfl) (by (try simp only [bsOf, List.length_append, List.length_cons, List.length_nil]); omega) rfl (fun _ => ?_)
        refine o_give (g_nil (evv rfl)) rfl rfl ?_
        refine o_give (g_fld (evv rfl)) rfl rfl ?_
        refine o_store1 (evv rfl) (evv rfl) (by rfl) (by rfl) (by rfl) ?_
        refine o_nil ?_
        refine c_blk ?_
        refine c_code ?_
        rename_i lit u2
        refine r_region (id := 10) ?_
        refine o_give (g_move (evv rfl)) rfl rfl ?_
        refine o_giveN (g_bin (evv rfl) (evv rfl) (by rfl)) (by simp only [inR]; omega) rfl ?_
        refine o_give (g_assign (evv rfl)) rfl rfl ?_
        refine o_nil ?_
        refine c_loop (k + 1, acc ++ [⟨cl, nu, av, kv, tv⟩], cl, u2, ⟨(ra, re), hra⟩) ?_ ?_ (by repeat (first | exact trivial | refine ⟨rfl, ?_⟩ | refine envsub_v rfl (by first | rfl | (refine int_eq ?_; first | omega | (simp; omega) | (simp; done)) | (refine bool_eq ?_; first | (simp [*]; done) | (simp; done)) | (refine str_eq ?_; simp; done) | (refine ptr_eq ?_; omega) | fail) ?_)) ?_ <;> (try dsimp only)
        · refine ⟨by omega, by rw [List.length_append, List.length_singleton]; omega, by omega, ?_, by rw [hm2]; exact hF⟩
          rw [repB_app]
          have e : repB [(⟨cl, nu, av, kv, tv⟩ : Seat)] = tv.length := by simp [repB]
          rw [e]
          omega
        · omega
        · exact Lay.ent
    · have hkn : n - k = 0 := by omega
      rw [hkn] at hF
      simp only [seatsGo, finT, List.append_nil] at hF
      refine r_exit rfl ?_
      refine c_code ?_
      refine r_seq ?_
      refine r_seq ?_
      have hb8 : repB acc ≤ 4611686018427387904 := by omega
      have hl8' : acc.length ≤ 1000 := by omega
      by_cases hE : e = 0 ∧ (b.drop a).length = 0
      · obtain ⟨rfl, hbs⟩ := hE
        repeat (first | refine r_seq ?_ | refine c_code ?_ | refine c_blk ?_ | refine r_block ?_ | refine r_skip ?_)
        refine r_held (id := 20) (blk t (rtB (room : Int) u) :: sl u (frow seatC 5 34 acc) :: blk q (rC v a 0) :: F) Mixed.h ?_
        refine h_give (i := 0) (by kernel_rfl) rfl (g_move (evv rfl)) rfl rfl ?_
        refine h_one (i := 1) (by kernel_rfl) rfl (Ent.refl _) ?_
        (refine o_call rfl _ (Ent.refl _) (Fn.atPick (rLeft_g _ (by assumption) (by assumption) _)) rfl ?_; rintro _ _ ⟨rfl, rfl⟩)
        refine o_nil ?_
        refine h_give (i := 2) (by kernel_rfl) rfl (g_bin (evv rfl) (evv rfl) (by rfl)) rfl rfl ?_
        refine h_give (i := 3) (by kernel_rfl) rfl (g_move (evv rfl)) rfl rfl ?_
        simp only [hbs, Int.natCast_zero, decide_true, Bool.not_true]
        refine h_sure (i := 4) (by kernel_rfl) rfl rfl (g_move (evv rfl)) rfl rfl ?_
        refine h_sure (i := 5) (by kernel_rfl) rfl rfl (g_nil (evv rfl)) rfl rfl ?_
        refine h_sure (i := 6) (by kernel_rfl) rfl rfl (g_fld (evv rfl)) rfl rfl ?_
        refine h_sure (i := 7) (by kernel_rfl) rfl rfl (g_load (evv rfl) (by rfl) (by rfl)) rfl rfl ?_
        refine h_sure (i := 8) (by kernel_rfl) rfl rfl (g_bin (evv rfl) (evv rfl) (by rfl)) rfl rfl ?_
        refine h_give (i := 9) (by kernel_rfl) rfl (g_pick (b := false) (evv rfl) (fun h => by cases h) (fun _ => (evv rfl))) rfl rfl ?_
        refine h_give (i := 10) (by kernel_rfl) rfl (g_move (evv rfl)) rfl rfl ?_
        simp only [decide_true, Bool.not_true, Bool.or_self]
        refine h_sure (i := 11) (by kernel_rfl) rfl rfl (g_move (evv rfl)) rfl rfl ?_
        refine h_sure (i := 13) (by kernel_rfl) rfl rfl (g_move (evv rfl)) rfl rfl ?_
        refine h_sure (i := 14) (by kernel_rfl) rfl rfl (g_nil (evv rfl)) rfl rfl ?_
        refine h_sure (i := 15) (by kernel_rfl) rfl rfl (g_fld (evv rfl)) rfl rfl ?_
        refine h_sure (i := 16) (by kernel_rfl) rfl rfl (g_load (evv rfl) (by rfl) (by rfl)) rfl rfl ?_
        refine h_one (i := 12) (by kernel_rfl) rfl (Ent.refl _) ?_
        refine o_gyes rfl ?_
        (refine o_call rfl _ (Ent.refl _) (Fn.atPick (rBytes_g _ _ (by first | assumption | omega) (by first | assumption | omega))) rfl ?_; rintro _ _ ⟨rfl, rfl⟩)
        refine o_nil ?_
        refine h_sure (i := 17) (by kernel_rfl) rfl rfl (g_bin (evv rfl) (evv rfl) (by rfl)) rfl rfl ?_
        refine h_give (i := 18) (by kernel_rfl) rfl (g_pick (b := false) (evv rfl) (fun h => by cases h) (fun _ => (evv rfl))) rfl rfl ?_
        refine h_done (by kernel_rfl) (Ent.refl _) ?_
        refine c_code ?_
        refine r_cond rfl (fun hr => ?_) (fun hr => ?_) <;> (try simp only [decide_eq_true_eq, decide_eq_false_iff_not, Bool.and_eq_true, Bool.or_eq_true, Bool.not_eq_true', Bool.and_eq_false_iff, Bool.or_eq_false_iff, Bool.not_eq_false', Bool.not_eq_true, Bool.not_eq_false, Bool.true_eq_false, Bool.false_eq_true, Int.not_lt, Int.not_le, not_and, not_or, ne_eq] at hr)
        · rw [if_neg (by omega)] at hF
          refine r_seq ?_
          refine r_region (id := 21) ?_
          refine o_give (g_assign (evv rfl)) rfl rfl ?_
          refine o_give (g_assign (evv rfl)) rfl rfl ?_
          refine o_nil ?_
          refine c_code ?_
          first | refine r_ret (rs := [.tmp 2, .tmp 3]) rfl rfl _ ((Lay.ent (L' := F))) ?_ | refine c_end (rs := [.tmp 2, .tmp 3]) rfl rfl _ ((Lay.ent (L' := F))) ?_
          exact .inl ⟨hF, rfl, rfl⟩
        · rw [if_pos ⟨rfl, hbs, by omega⟩] at hF
          refine r_skip ?_
          refine c_code ?_
          refine r_seq ?_
          refine r_region (id := 22) ?_
          refine o_give (g_move (evv rfl)) rfl rfl ?_
          refine o_give (g_assign (evv rfl)) rfl rfl ?_
          refine o_give (g_assign (evv rfl)) rfl rfl ?_
          refine o_nil ?_
          refine c_code ?_
          first | refine r_ret (rs := [.tmp 2, .tmp 3]) rfl rfl _ ((Lay.ent (L' := blk t (rtB (room : Int) u) :: sl u (frow seatC 5 34 acc) :: F))) ?_ | refine c_end (rs := [.tmp 2, .tmp 3]) rfl rfl _ ((Lay.ent (L' := blk t (rtB (room : Int) u) :: sl u (frow seatC 5 34 acc) :: F))) ?_
          exact .inr ⟨room, acc, t, u, hF, rfl, rfl⟩
      · rw [if_neg (fun h => hE ⟨h.1, h.2.1⟩)] at hF
        by_cases hbs : (b.drop a).length = 0
        · have he : ¬ e = 0 := fun h => hE ⟨h, hbs⟩
          repeat (first | refine r_seq ?_ | refine c_code ?_ | refine c_blk ?_ | refine r_block ?_ | refine r_skip ?_)
          refine r_held (id := 20) (blk t (rtB (room : Int) u) :: sl u (frow seatC 5 34 acc) :: blk q (rC v a e) :: F) Mixed.h ?_
          refine h_give (i := 0) (by kernel_rfl) rfl (g_move (evv rfl)) rfl rfl ?_
          refine h_one (i := 1) (by kernel_rfl) rfl (Ent.refl _) ?_
          (refine o_call rfl _ (Ent.refl _) (Fn.atPick (rLeft_g _ (by assumption) (by assumption) _)) rfl ?_; rintro _ _ ⟨rfl, rfl⟩)
          refine o_nil ?_
          refine h_give (i := 2) (by kernel_rfl) rfl (g_bin (evv rfl) (evv rfl) (by rfl)) rfl rfl ?_
          refine h_give (i := 3) (by kernel_rfl) rfl (g_move (evv rfl)) rfl rfl ?_
          simp only [hbs, Int.natCast_zero, decide_true, Bool.not_true]
          refine h_sure (i := 4) (by kernel_rfl) rfl rfl (g_move (evv rfl)) rfl rfl ?_
          refine h_sure (i := 5) (by kernel_rfl) rfl rfl (g_nil (evv rfl)) rfl rfl ?_
          refine h_sure (i := 6) (by kernel_rfl) rfl rfl (g_fld (evv rfl)) rfl rfl ?_
          refine h_sure (i := 7) (by kernel_rfl) rfl rfl (g_load (evv rfl) (by rfl) (by rfl)) rfl rfl ?_
          refine h_sure (i := 8) (by kernel_rfl) rfl rfl (g_bin (evv rfl) (evv rfl) (by rfl)) rfl rfl ?_
          refine h_give (i := 9) (by kernel_rfl) rfl (g_pick (b := false) (evv rfl) (fun h => by cases h) (fun _ => (evv rfl))) rfl rfl ?_
          refine h_give (i := 10) (by kernel_rfl) rfl (g_move (evv rfl)) rfl rfl ?_
          simp only [he, decide_false, Bool.not_false, Bool.or_true, Bool.false_or]
          refine h_lazy (i := 11) (by kernel_rfl) rfl rfl (fun hg => g_move (by first | exact evv rfl | exact evg rfl (by rw [hp]; rfl) | exact evg rfl hp | exact evg rfl hg | exact evg rfl (by first | (simp_all; done) | (simp [*]; done) | fail) | fail)) rfl rfl ?_
          refine h_lazy (i := 13) (by kernel_rfl) rfl rfl (fun hg => g_move (by first | exact evv rfl | exact evg rfl (by rw [hp]; rfl) | exact evg rfl hp | exact evg rfl hg | exact evg rfl (by first | (simp_all; done) | (simp [*]; done) | fail) | fail)) rfl rfl ?_
          refine h_lazy (i := 14) (by kernel_rfl) rfl rfl (fun hg => g_nil (by first | exact evv rfl | exact evg rfl (by rw [hp]; rfl) | exact evg rfl hp | exact evg rfl hg | exact evg rfl (by first | (simp_all; done) | (simp [*]; done) | fail) | fail)) rfl rfl ?_
          refine h_lazy (i := 15) (by kernel_rfl) rfl rfl (fun hg => g_fld (evg rfl hg)) rfl rfl ?_
          refine h_lazy (i := 16) (by kernel_rfl) rfl rfl (fun hg => g_load (evg rfl hg) (by rfl) (by rfl)) rfl rfl ?_
          refine h_one (i := 12) (by kernel_rfl) rfl (Ent.refl _) ?_
          refine o_lazy (v0 := undef) rfl (fun hg => absurd hg (by first | (simp; done) | fail)) rfl rfl ?_
          refine o_nil ?_
          refine h_lazy (i := 17) (by kernel_rfl) rfl (v0 := undef) rfl (fun hg => absurd hg (by first | (simp; done) | fail)) rfl rfl ?_
          refine h_give (i := 18) (by kernel_rfl) rfl (g_pick (b := true) (evv rfl) (fun _ => (evv rfl)) (fun h => by cases h)) rfl rfl ?_
          refine h_done (by kernel_rfl) (Ent.refl _) ?_
          refine c_code ?_
          refine r_cond_true rfl ?_
          refine r_seq ?_
          refine r_region (id := 21) ?_
          refine o_give (g_assign (evv rfl)) rfl rfl ?_
          refine o_give (g_assign (evv rfl)) rfl rfl ?_
          refine o_nil ?_
          refine c_code ?_
          first | refine r_ret (rs := [.tmp 2, .tmp 3]) rfl rfl _ ((Lay.ent (L' := F))) ?_ | refine c_end (rs := [.tmp 2, .tmp 3]) rfl rfl _ ((Lay.ent (L' := F))) ?_
          exact .inl ⟨hF, rfl, rfl⟩
        · have hbs2 : ¬ (((b.drop a).length : Nat) : Int) = 0 := by omega
          repeat (first | refine r_seq ?_ | refine c_code ?_ | refine c_blk ?_ | refine r_block ?_ | refine r_skip ?_)
          refine r_held (id := 20) (blk t (rtB (room : Int) u) :: sl u (frow seatC 5 34 acc) :: blk q (rC v a e) :: F) Mixed.h ?_
          refine h_give (i := 0) (by kernel_rfl) rfl (g_move (evv rfl)) rfl rfl ?_
          refine h_one (i := 1) (by kernel_rfl) rfl (Ent.refl _) ?_
          (refine o_call rfl _ (Ent.refl _) (Fn.atPick (rLeft_g _ (by assumption) (by assumption) _)) rfl ?_; rintro _ _ ⟨rfl, rfl⟩)
          refine o_nil ?_
          refine h_give (i := 2) (by kernel_rfl) rfl (g_bin (evv rfl) (evv rfl) (by rfl)) rfl rfl ?_
          refine h_give (i := 3) (by kernel_rfl) rfl (g_move (evv rfl)) rfl rfl ?_
          simp only [hbs2, decide_false, Bool.not_false]
          refine h_lazy (i := 4) (by kernel_rfl) rfl rfl (fun hg => g_move (by first | exact evv rfl | exact evg rfl (by rw [hp]; rfl) | exact evg rfl hp | exact evg rfl hg | exact evg rfl (by first | (simp_all; done) | (simp [*]; done) | fail) | fail)) rfl rfl ?_
          refine h_lazy (i := 5) (by kernel_rfl) rfl rfl (fun hg => g_nil (by first | exact evv rfl | exact evg rfl (by rw [hp]; rfl) | exact evg rfl hp | exact evg rfl hg | exact evg rfl (by first | (simp_all; done) | (simp [*]; done) | fail) | fail)) rfl rfl ?_
          refine h_lazy (i := 6) (by kernel_rfl) rfl rfl (fun hg => g_fld (evg rfl hg)) rfl rfl ?_
          refine h_lazy (i := 7) (by kernel_rfl) rfl rfl (fun hg => g_load (evg rfl hg) (by rfl) (by rfl)) rfl rfl ?_
          refine h_lazy (i := 8) (by kernel_rfl) rfl rfl (fun hg => g_bin (by first | exact evv rfl | exact evg rfl (by rw [hp]; rfl) | exact evg rfl hp | exact evg rfl hg | exact evg rfl (by first | (simp_all; done) | (simp [*]; done) | fail) | fail) (by first | exact evv rfl | exact evg rfl (by rw [hp]; rfl) | exact evg rfl hp | exact evg rfl hg | exact evg rfl (by first | (simp_all; done) | (simp [*]; done) | fail) | fail) (by rfl)) rfl rfl ?_
          refine h_give (i := 9) (by kernel_rfl) rfl (g_pick (b := true) (evv rfl) (fun _ => (evv rfl)) (fun h => by cases h)) rfl rfl ?_
          refine h_give (i := 10) (by kernel_rfl) rfl (g_move (evv rfl)) rfl rfl ?_
          simp only [Bool.true_or]
          refine h_lazy (i := 11) (by kernel_rfl) rfl rfl (fun hg => g_move (by first | exact evv rfl | exact evg rfl (by rw [hp]; rfl) | exact evg rfl hp | exact evg rfl hg | exact evg rfl (by first | (simp_all; done) | (simp [*]; done) | fail) | fail)) rfl rfl ?_
          refine h_lazy (i := 13) (by kernel_rfl) rfl rfl (fun hg => g_move (by first | exact evv rfl | exact evg rfl (by rw [hp]; rfl) | exact evg rfl hp | exact evg rfl hg | exact evg rfl (by first | (simp_all; done) | (simp [*]; done) | fail) | fail)) rfl rfl ?_
          refine h_lazy (i := 14) (by kernel_rfl) rfl rfl (fun hg => g_nil (by first | exact evv rfl | exact evg rfl (by rw [hp]; rfl) | exact evg rfl hp | exact evg rfl hg | exact evg rfl (by first | (simp_all; done) | (simp [*]; done) | fail) | fail)) rfl rfl ?_
          refine h_lazy (i := 15) (by kernel_rfl) rfl rfl (fun hg => g_fld (evg rfl hg)) rfl rfl ?_
          refine h_lazy (i := 16) (by kernel_rfl) rfl rfl (fun hg => g_load (evg rfl hg) (by rfl) (by rfl)) rfl rfl ?_
          refine h_one (i := 12) (by kernel_rfl) rfl (Ent.refl _) ?_
          refine o_lazy (v0 := undef) rfl (fun hg => absurd hg (by first | (simp; done) | fail)) rfl rfl ?_
          refine o_nil ?_
          refine h_lazy (i := 17) (by kernel_rfl) rfl (v0 := undef) rfl (fun hg => absurd hg (by first | (simp; done) | fail)) rfl rfl ?_
          refine h_give (i := 18) (by kernel_rfl) rfl (g_pick (b := true) (evv rfl) (fun _ => (evv rfl)) (fun h => by cases h)) rfl rfl ?_
          refine h_done (by kernel_rfl) (Ent.refl _) ?_
          refine c_code ?_
          refine r_cond_true rfl ?_
          refine r_seq ?_
          refine r_region (id := 21) ?_
          refine o_give (g_assign (evv rfl)) rfl rfl ?_
          refine o_give (g_assign (evv rfl)) rfl rfl ?_
          refine o_nil ?_
          refine c_code ?_
          first | refine r_ret (rs := [.tmp 2, .tmp 3]) rfl rfl _ ((Lay.ent (L' := F))) ?_ | refine c_end (rs := [.tmp 2, .tmp 3]) rfl rfl _ ((Lay.ent (L' := F))) ?_
          exact .inl ⟨hF, rfl, rfl⟩
theorem rDecode_n (F : List Atom) (v : Value) (b : List UInt8) (hb : b.length ≤ 140737488355000) (h : decT b = none) [rd : Rd F v (mrow by8 5 b)] :
    Fn Try.prog 21 [v] F fun w L' => w = .tuple #[.pointer none, .bool false] ∧ L' = F := by
  refine (rDecode_c F v b hb).mono ?_
  rintro w L' (⟨_, h1, h2⟩ | ⟨room, L, t, u, h1, _⟩)
  · exact ⟨h1, h2⟩
  · rw [h] at h1; cases h1
theorem rDecode_s (F : List Atom) (v : Value) (b : List UInt8) (room : Nat) (L : List Seat) (hb : b.length ≤ 140737488355000) (h : decT b = some (room, L)) [rd : Rd F v (mrow by8 5 b)] :
    Fn Try.prog 21 [v] F fun w L' => ∃ t u, w = .tuple #[.pointer (some ⟨t, 0, none⟩), .bool true] ∧ L' = blk t (rtB (room : Int) u) :: sl u (frow seatC 5 34 L) :: F := by
  refine (rDecode_c F v b hb).mono ?_
  rintro w L' (⟨h1, _⟩ | ⟨room', L2, t, u, h1, h2, h3⟩)
  · rw [h] at h1; cases h1
  · rw [h] at h1
    cases h1
    exact ⟨t, u, h2, h3⟩
end VK
