/- The table that bytes mean: walked. Conditions: few bytes. -/
import Derived.Test.YtcbhnagihkcafaaSes10
namespace VK
open Go Go.Proofs
set_option linter.unusedSimpArgs false
set_option linter.unusedVariables false
set_option maxRecDepth 100000
set_option maxHeartbeats 40000000
def DecP (F : List Atom) (b : List UInt8) (w : Value) (L' : List Atom) : Prop :=
  (decT b = none ∧ w = .tuple #[.pointer none, .int .i64 21] ∧ L' = F) ∨ (∃ room L tb, decT b = some (room, L) ∧ w = .tuple #[.pointer (some ⟨tb, 0, none⟩), .int .i64 0] ∧ L' = blk tb (tblB (room : Int) (tabOf L)) :: F)
theorem takeR_most (n : Nat) (s : InS) : (takeR n s).1.length ≤ n := takeR_len n s
theorem textR_len (s : InS) : (textR 8192 s).1.length ≤ 8192 := by
  unfold textR
  split
  · split
    · exact Nat.zero_le _
    · have := takeR_len (numR s).1 (numR s).2
      omega
  · exact Nat.zero_le _
theorem Decode_c (F : List Atom) (v : Value) (b : List UInt8) (hb : b.length ≤ 140737488355000) [rd : Rd F v (mrow by8 5 b)] :
    Fn Try.prog 20 [v] F (DecP F b) := by
  refine fn_intro Try.func20 rfl Try.ntmps20 rfl (fun W0 => ?_)
  simp only [argE]
  have hr1 := numR_le ⟨b, 0⟩
  have hr2 := numR_le (numR ⟨b, 0⟩).2
  by_cases h8 : (numR ⟨b, 0⟩).1 ≤ 8192
  · refine r_seq ?_
    refine r_region (id := 0) ?_
    refine o_give (g_assign (evv rfl)) rfl rfl ?_
    refine o_give (g_assign (evv rfl)) rfl rfl ?_
    refine o_nil ?_
    refine c_code ?_
    refine r_seq ?_
    refine r_region (id := 1) ?_
    refine o_give (g_move (evv rfl)) rfl rfl ?_
    (refine o_call rfl _ (Ent.refl _) (Read_c _ _ _ (by (try simp only [bsOf, List.length_append, List.length_cons, List.length_nil]); omega)) rfl ?_; rintro _ _ ⟨i, rfl, rfl⟩)
    refine o_give (g_assign (evv rfl)) rfl rfl ?_
    refine o_nil ?_
    refine c_code ?_
    refine r_seq ?_
    refine r_region (id := 2) ?_
    refine o_give (g_move (evv rfl)) rfl rfl ?_
    (refine o_call rfl _ (Ent.refl _) inNum_l rfl ?_; rintro _ _ ⟨rfl, rfl⟩)
    refine o_give (g_min2 (evv rfl) (evv rfl)) rfl rfl ?_
    refine o_giveN (g_conv TyU.h TyU.h (evv rfl)) (by simp only [inR]; omega) rfl ?_
    (refine o_call rfl _ (Ent.refl _) (Make_ok _ _ (by omega)) rfl ?_; rintro _ _ ⟨tb, rfl, rfl⟩)
    refine o_give (g_move (evv rfl)) rfl rfl ?_
    refine o_give (g_extract (evv rfl) (by rfl)) rfl rfl ?_
    refine o_give (g_extract (evv rfl) (by rfl)) rfl rfl ?_
    refine o_give (g_assign (evv rfl)) rfl rfl ?_
    refine o_give (g_assign (evv rfl)) rfl rfl ?_
    refine o_nil ?_
    refine c_code ?_
    refine r_seq ?_
    refine r_region (id := 3) ?_
    refine o_give (g_move (evv rfl)) rfl rfl ?_
    (refine o_call rfl _ (Ent.refl _) inNum_l rfl ?_; rintro _ _ ⟨rfl, rfl⟩)
    refine o_give (g_assign (evv rfl)) rfl rfl ?_
    refine o_nil ?_
    refine c_code ?_
    refine r_seq ?_
    refine r_seq ?_
    rw [show min (((numR ⟨b, 0⟩).1 : Nat) : Int) 8193 = (((numR ⟨b, 0⟩).1 : Nat) : Int) by omega]
    have hD : ¬ 8 < (numR (numR ⟨b, 0⟩).2).1 → decT b = finT (numR ⟨b, 0⟩).1 [] (seatsGo (numR (numR ⟨b, 0⟩).2).1 0 (numR (numR ⟨b, 0⟩).2).2) := fun h => by
      unfold decT; rw [if_neg (by omega)]
    have hN : 8 < (numR (numR ⟨b, 0⟩).2).1 → decT b = none := fun h => by unfold decT; rw [if_pos (.inr h)]
    generalize (numR ⟨b, 0⟩).1 = room at *
    generalize (numR (numR ⟨b, 0⟩).2).2 = s2 at *
    generalize (numR (numR ⟨b, 0⟩).2).1 = n at *
    refine r_region (id := 4) ?_
    refine o_give (g_move (evv rfl)) rfl rfl ?_
    refine o_give (g_bin (evv rfl) (evv rfl) (by rfl)) rfl rfl ?_
    refine o_give (g_move (evv rfl)) rfl rfl ?_
    refine o_gyes rfl ?_
    refine o_give (g_move (evv rfl)) rfl rfl ?_
    refine o_gyes rfl ?_
    refine o_give (g_bin (evv rfl) (evv rfl) (by rfl)) rfl rfl ?_
    refine o_give (g_pick (b := false) (evv rfl) (fun h => by cases h) (fun _ => (evv rfl))) rfl rfl ?_
    refine o_nil ?_
    refine c_code ?_
    refine r_cond rfl (fun hn => ?_) (fun hn => ?_) <;> (try simp only [decide_eq_true_eq, decide_eq_false_iff_not, Bool.and_eq_true, Bool.or_eq_true, Bool.not_eq_true', Bool.and_eq_false_iff, Bool.or_eq_false_iff, Bool.not_eq_false', Bool.not_eq_true, Bool.not_eq_false, Bool.true_eq_false, Bool.false_eq_true, Int.not_lt, Int.not_le, not_and, not_or, ne_eq] at hn)
    · refine r_seq ?_
      refine r_region (id := 5) ?_
      refine o_give (g_assign (evv rfl)) rfl rfl ?_
      refine o_give (g_assign (evv rfl)) rfl rfl ?_
      refine o_nil ?_
      refine c_code ?_
      first | refine r_ret (rs := [.tmp 2, .tmp 3]) rfl rfl _ ((Lay.ent (L' := F))) ?_ | refine c_end (rs := [.tmp 2, .tmp 3]) rfl rfl _ ((Lay.ent (L' := F))) ?_
      exact .inl ⟨hN (by omega), rfl, rfl⟩
    · have hD := hD (by omega)
      refine r_skip ?_
      refine c_code ?_
      refine r_seq ?_
      refine r_region (id := 6) ?_
      refine o_give (g_assign (evv rfl)) rfl rfl ?_
      refine o_nil ?_
      refine c_code ?_
      refine r_seq ?_
      refine r_seq ?_
      refine r_region (id := 7) ?_
      refine o_give (g_move (evv rfl)) rfl rfl ?_
      refine o_give (g_move (evv rfl)) rfl rfl ?_
      refine o_nil ?_
      refine c_code ?_
      refine r_block ?_
      refine r_loopE (σ := Nat × List Seat × Int × InS) (fun ⟨k, acc, last, s⟩ => k ≤ n ∧ TabI acc last ∧ last ≤ 8 ∧ acc.length ≤ k ∧ repB acc ≤ 8192 * k ∧ decT b = finT room acc (seatsGo (n - k) last s)) (fun ⟨k, acc, last, s⟩ => n - k) (fun ⟨k, acc, last, s⟩ => [(8, .v (.int .i64 last)), (30, .v (.int .u64 k))]) [4, 5, 29] (fun ⟨k, acc, last, s⟩ => inA i s :: blk tb (tblB (room : Int) (tabOf acc)) :: F) (0, [], 0, s2) (by dsimp only [pickE, pick1, lk2, Nat.reduceBEq, Nat.reduceAdd, Nat.zero_add, cond_true, cond_false] <;> exact rfl) ?_ (by repeat (first | exact trivial | refine ⟨rfl, ?_⟩ | refine envsub_v rfl (by first | rfl | (refine int_eq ?_; first | omega | (simp; omega) | (simp; done)) | (refine bool_eq ?_; first | (simp [*]; done) | (simp; done)) | (refine str_eq ?_; simp; done) | (refine ptr_eq ?_; omega) | fail) ?_)) ?_ ?_
      · exact ⟨Nat.zero_le _, TabI.init, by decide, Nat.le_refl _, Nat.le_refl _, hD⟩
      · exact Ent.swap
      rintro ⟨k, acc, last, s⟩ ⟨hk, hT, hl8, hal, har, hF⟩; dsimp only [List.cons_append, List.nil_append]
      have hTl := hT.wf.len
      have hT0 := hT.h0
      have hTr := hT.rep
      refine r_seq ?_
      refine r_region (id := 8) ?_
      refine o_give (g_bin (evv rfl) (evv rfl) (by rfl)) rfl rfl ?_
      refine o_nil ?_
      refine c_code ?_
      refine r_seq ?_
      refine r_cond rfl (fun hc => ?_) (fun hc => ?_) <;> (try simp only [decide_eq_true_eq, decide_eq_false_iff_not, Bool.and_eq_true, Bool.or_eq_true, Bool.not_eq_true', Bool.and_eq_false_iff, Bool.or_eq_false_iff, Bool.not_eq_false', Bool.not_eq_true, Bool.not_eq_false, Bool.true_eq_false, Bool.false_eq_true, Int.not_lt, Int.not_le, not_and, not_or, ne_eq] at hc)
      · obtain ⟨m, hm⟩ : ∃ m, n - k = m + 1 := ⟨n - k - 1, by omega⟩
        have hm2 : n - (k + 1) = m := by omega
        rw [hm] at hF
        have hc1 := numR_le s
        have hc2 := numR_le (numR s).2
        have hc3 := numR_le (numR (numR s).2).2
        have hq1 : (seatR s).1.client = ((numR s).1 : Int) := rfl
        have hq2 : (seatR s).1.number = ((numR (numR s).2).1 : Int) := rfl
        have hq3 : (seatR s).1.at_ = unzig (numR (numR (numR s).2).2).1 := rfl
        have hq4 : (seatR s).1.kept = (flagR (numR (numR (numR s).2).2).2).1 := rfl
        have hq5 : (seatR s).1.reply = (textR 8192 (flagR (numR (numR (numR s).2).2).2).2).1 := rfl
        have hs5 : (seatR s).2 = (textR 8192 (flagR (numR (numR (numR s).2).2).2).2).2 := rfl
        refine r_skip ?_
        refine c_code ?_
        refine r_seq ?_
        refine r_block ?_
        refine r_seq ?_
        refine r_region (id := 9) ?_
        refine o_give (g_move (evv rfl)) rfl rfl ?_
        (refine o_call rfl _ (Ent.refl _) inNum_l rfl ?_; rintro _ _ ⟨rfl, rfl⟩)
        refine o_give (g_min2 (evv rfl) (evv rfl)) rfl rfl ?_
        refine o_giveN (g_conv TyU.h TyU.h (evv rfl)) (by simp only [inR]; omega) rfl ?_
        refine o_give (g_move (evv rfl)) rfl rfl ?_
        (refine o_call rfl _ (Ent.refl _) inNum_l rfl ?_; rintro _ _ ⟨rfl, rfl⟩)
        refine o_give (g_min2 (evv rfl) (evv rfl)) rfl rfl ?_
        refine o_giveN (g_conv TyU.h TyU.h (evv rfl)) (by simp only [inR]; omega) rfl ?_
        refine o_give (g_move (evv rfl)) rfl rfl ?_
        (refine o_call rfl _ (Ent.refl _) inInt_l rfl ?_; rintro _ _ ⟨rfl, rfl⟩)
        refine o_give (g_move (evv rfl)) rfl rfl ?_
        (refine o_call rfl _ (Ent.refl _) inFlag_l rfl ?_; rintro _ _ ⟨rfl, rfl⟩)
        refine o_give (g_move (evv rfl)) rfl rfl ?_
        (refine o_call rfl _ (Ent.refl _) (inText_l _ (by omega)) rfl ?_; rintro _ _ ⟨rfl, rfl⟩)
        refine o_give (g_buildC rfl (by rfl)) rfl rfl ?_
        refine o_alloc rfl rfl (fun _ => ?_)
        refine o_storeW (evv rfl) (evv rfl) (by first | rfl | assumption | (simp [bys, *]; done) | fail) (by first | (intro _ _ _; exact bys_one _) | exact AllOne.h | (intro _ _ _ u hu; simp at hu; rcases hu with rfl | rfl | rfl | rfl | rfl | rfl | rfl | rfl <;> rfl) | fail) (by first | rfl | (simp [bys, *]; done) | (simp only [bys, List.length_map, *]; rfl) | fail) ?_
        refine o_nil ?_
        refine c_code ?_
        refine r_seq ?_
        rw [← hs5]
        by_cases hcl : 1 ≤ (numR s).1 ∧ (numR s).1 ≤ 8
        · rw [show min (((numR s).1 : Nat) : Int) 99 = (((numR s).1 : Nat) : Int) by omega]
          refine r_region (id := 10) ?_
          refine o_give (g_move (evv rfl)) rfl rfl ?_
          refine o_give (g_fld (evv rfl)) rfl rfl ?_
          refine o_give (g_load (evv rfl) (by rfl) (by rfl)) rfl rfl ?_
          (refine o_call rfl _ (Ent.refl _) (seat_in _ _ _ (by omega)) rfl ?_; rintro _ _ ⟨rfl, rfl⟩)
          refine o_give (g_assign (evv rfl)) rfl rfl ?_
          refine o_nil ?_
          refine c_code ?_
          refine r_seq ?_
          refine r_seq ?_
          refine r_region (id := 11) ?_
          refine o_give (g_move (evv rfl)) rfl rfl ?_
          refine o_give (g_pnil TyU.h (evv rfl) (evv rfl) (by simp) (by rfl)) rfl rfl ?_
          refine o_give (g_move (evv rfl)) rfl rfl ?_
          refine o_gyes rfl ?_
          refine o_give (g_fld (evv rfl)) rfl rfl ?_
          refine o_gyes rfl ?_
          refine o_give (g_load (evv rfl) (by rfl) (by rfl)) rfl rfl ?_
          refine o_gyes rfl ?_
          refine o_give (g_move (evv rfl)) rfl rfl ?_
          refine o_gyes rfl ?_
          refine o_give (g_bin (evv rfl) (evv rfl) (by rfl)) rfl rfl ?_
          refine o_give (g_pick (b := false) (evv rfl) (fun h => by cases h) (fun _ => (evv rfl))) rfl rfl ?_
          refine o_give (g_move (evv rfl)) rfl rfl ?_
          refine o_lazy rfl (fun hg => g_fld (evv rfl)) rfl rfl ?_
          refine o_lazy rfl (fun hg => g_load (evg rfl hg) (by rfl) (by rfl)) rfl rfl ?_
          refine o_lazy rfl (fun hg => g_bin (by first | exact evv rfl | exact evg rfl (by rw [hp]; rfl) | exact evg rfl hp | exact evg rfl hg | exact evg rfl (by first | (simp_all; done) | (simp [*]; done) | fail) | fail) (by first | exact evv rfl | exact evg rfl (by rw [hp]; rfl) | exact evg rfl hp | exact evg rfl hg | exact evg rfl (by first | (simp_all; done) | (simp [*]; done) | fail) | fail) (by rfl)) rfl rfl ?_
          refine o_give (g_pick_or (evv rfl) (evv rfl) (fun hp => (by first | exact evv rfl | exact evg rfl (by rw [hp]; rfl) | exact evg rfl hp | exact evg rfl hg | exact evg rfl (by first | (simp_all; done) | (simp [*]; done) | fail) | fail))) rfl rfl ?_
          refine o_give (g_move (evv rfl)) rfl rfl ?_
          refine o_lazy rfl (fun hg => g_fld (evv rfl)) rfl rfl ?_
          refine o_lazy rfl (fun hg => g_load (evg rfl hg) (by rfl) (by rfl)) rfl rfl ?_
          refine o_lazy rfl (fun hg => g_bin (by first | exact evv rfl | exact evg rfl (by rw [hp]; rfl) | exact evg rfl hp | exact evg rfl hg | exact evg rfl (by first | (simp_all; done) | (simp [*]; done) | fail) | fail) (by first | exact evv rfl | exact evg rfl (by rw [hp]; rfl) | exact evg rfl hp | exact evg rfl hg | exact evg rfl (by first | (simp_all; done) | (simp [*]; done) | fail) | fail) (by rfl)) rfl rfl ?_
          refine o_give (g_pick_or (evv rfl) (evv rfl) (fun hp => (by first | exact evv rfl | exact evg rfl (by rw [hp]; rfl) | exact evg rfl hp | exact evg rfl hg | exact evg rfl (by first | (simp_all; done) | (simp [*]; done) | fail) | fail))) rfl rfl ?_
          refine o_give (g_move (evv rfl)) rfl rfl ?_
          refine o_lazy rfl (fun hg => g_fld (evv rfl)) rfl rfl ?_
          refine o_lazy rfl (fun hg => g_load (evg rfl hg) (by rfl) (by rfl)) rfl rfl ?_
          refine o_lazy rfl (fun hg => g_not (by first | exact evv rfl | exact evg rfl (by rw [hp]; rfl) | exact evg rfl hp | exact evg rfl hg | exact evg rfl (by first | (simp_all; done) | (simp [*]; done) | fail) | fail)) rfl rfl ?_
          refine o_lazy rfl (fun hg => g_move (by first | exact evv rfl | exact evg rfl (by rw [hp]; rfl) | exact evg rfl hp | exact evg rfl hg | exact evg rfl (by first | (simp_all; done) | (simp [*]; done) | fail) | fail)) rfl rfl ?_
          refine o_lazy rfl (fun hg => g_fld (evv rfl)) rfl rfl ?_
          refine o_lazy rfl (fun hg => g_load (evg rfl hg) (by rfl) (by rfl)) rfl rfl ?_
          refine o_lazy rfl (fun hg => g_binS (by first | exact evv rfl | exact evg rfl (by rw [hp]; rfl) | exact evg rfl hp | exact evg rfl hg | exact evg rfl (by first | (simp_all; done) | (simp [*]; done) | fail) | fail) (by first | exact evv rfl | exact evg rfl (by rw [hp]; rfl) | exact evg rfl hp | exact evg rfl hg | exact evg rfl (by first | (simp_all; done) | (simp [*]; done) | fail) | fail) (by rfl)) rfl rfl ?_
          refine o_lazy rfl (fun hg => g_pick_and (by first | exact evv rfl | exact evg rfl (by rw [hp]; rfl) | exact evg rfl hp | exact evg rfl hg | exact evg rfl (by first | (simp_all; done) | (simp [*]; done) | fail) | fail) (by first | exact evv rfl | exact evg rfl (by rw [hp]; rfl) | exact evg rfl hp | exact evg rfl hg | exact evg rfl (by first | (simp_all; done) | (simp [*]; done) | fail) | fail) (fun hp => (by first | exact evv rfl | exact evg rfl (by rw [hp]; rfl) | exact evg rfl hp | exact evg rfl hg | exact evg rfl (by first | (simp_all; done) | (simp [*]; done) | fail) | fail))) rfl rfl ?_
          refine o_give (g_pick_or (evv rfl) (evv rfl) (fun hp => (by first | exact evv rfl | exact evg rfl (by rw [hp]; rfl) | exact evg rfl hp | exact evg rfl hg | exact evg rfl (by first | (simp_all; done) | (simp [*]; done) | fail) | fail))) rfl rfl ?_
          refine o_nil ?_
          refine c_code ?_
          refine r_cond rfl (fun hbad => ?_) (fun hbad => ?_) <;> (try simp only [decide_eq_true_eq, decide_eq_false_iff_not, Bool.and_eq_true, Bool.or_eq_true, Bool.not_eq_true', Bool.and_eq_false_iff, Bool.or_eq_false_iff, Bool.not_eq_false', Bool.not_eq_true, Bool.not_eq_false, Bool.true_eq_false, Bool.false_eq_true, Int.not_lt, Int.not_le, not_and, not_or, ne_eq] at hbad)
          · have hb2 : badSeat last (seatR s).1 := by
              unfold badSeat
              rw [hq1, hq2, hq4, hq5]
              rcases hbad with ((h | h) | h) | h
              · exact .inl h
              · exact .inr (.inr (.inl (by omega)))
              · exact .inr (.inr (.inr (.inl (by omega))))
              · exact .inr (.inr (.inr (.inr h)))
            rw [fin_bad hb2] at hF
            refine r_seq ?_
            refine r_region (id := 12) ?_
            refine o_give (g_assign (evv rfl)) rfl rfl ?_
            refine o_give (g_assign (evv rfl)) rfl rfl ?_
            refine o_nil ?_
            refine c_code ?_
            first | refine r_ret (rs := [.tmp 2, .tmp 3]) rfl rfl _ ((Lay.ent (L' := F))) ?_ | refine c_end (rs := [.tmp 2, .tmp 3]) rfl rfl _ ((Lay.ent (L' := F))) ?_
            exact .inl ⟨hF, rfl, rfl⟩
          · have hb2 : ¬ badSeat last (seatR s).1 := by
              unfold badSeat
              rw [hq1, hq2, hq4, hq5]
              rintro (h | h | h | h | h)
              · omega
              · omega
              · omega
              · omega
              · rcases hbad.2 with g | g
                · rw [h.1] at g; cases g
                · exact h.2 g
            rw [fin_step hb2] at hF
            have hT2 := hT.step hb2
            have htx : (textR 8192 (flagR (numR (numR (numR s).2).2).2).2).1.length ≤ 8192 := textR_len _
            have hnn : min (((numR (numR s).2).1 : Nat) : Int) 1099511627777 = (((numR (numR s).2).1 : Nat) : Int) := by omega
            rw [hnn]
            rename_i bx
            refine r_ent (blk bx ⟨seatC (seatR s).1, 34⟩ :: inA i (seatR s).2 :: blk tb (tblB (room : Int) (tabOf acc)) :: F) (Ent.refl _) ?_
            repeat (first | refine r_seq ?_ | refine c_code ?_ | refine c_blk ?_ | refine r_block ?_ | refine r_skip ?_)
            refine r_held (id := 13) [blk bx ⟨seatC (seatR s).1, 34⟩] Mixed.h ?_
            refine h_give (i := 0) (by kernel_rfl) rfl (g_move (evv rfl)) rfl rfl ?_
            refine h_give (i := 1) (by kernel_rfl) rfl (g_loadF (evv rfl) (by rfl) (by rfl)) rfl rfl ?_
            refine h_give (i := 2) (by kernel_rfl) rfl (g_fld (evv rfl)) rfl rfl ?_
            refine h_give (i := 3) (by kernel_rfl) rfl (g_load (evv rfl) (by rfl) (by rfl)) rfl rfl ?_
            refine h_give (i := 4) (by kernel_rfl) rfl (g_nil (evv rfl)) rfl rfl ?_
            refine h_one (i := 5) (by kernel_rfl) rfl (Lay.ent) ?_
            refine o_storeFlA (evv rfl) (evv rfl) (by rfl) (by first | exact AllOne.h | fail) (by rfl) (by intro; rfl) (by first | omega | (have := of_decide_eq_true hg; omega) | (simp at hg; omega) | (simp only [List.length_set, List.length_append, List.length_cons, List.length_nil, List.length_map, List.length_take, List.length_drop, List.length_replicate]; omega)) ?_
            refine o_nil ?_
            refine h_give (i := 6) (by kernel_rfl) rfl (g_assign (evv rfl)) rfl rfl ?_
            refine h_done (by kernel_rfl) (Lay.ent) ?_
            refine c_blk ?_
            refine c_code ?_
            refine r_region (id := 14) ?_
            refine o_giveN (g_bin (evv rfl) (evv rfl) (by rfl)) (by simp only [inR]; omega) rfl ?_
            refine o_give (g_move (evv rfl)) rfl rfl ?_
            refine o_nil ?_
            refine c_loop (k + 1, acc ++ [(seatR s).1], (((numR s).1 : Nat) : Int), (seatR s).2) ?_ ?_ (by repeat (first | exact trivial | refine ⟨rfl, ?_⟩ | refine envsub_v rfl (by first | rfl | (refine int_eq ?_; first | omega | (simp; omega) | (simp; done)) | (refine bool_eq ?_; first | (simp [*]; done) | (simp; done)) | (refine str_eq ?_; simp; done) | (refine ptr_eq ?_; omega) | fail) ?_)) ?_ <;> (try dsimp only)
            · refine ⟨by omega, hT2, by omega, by rw [List.length_append, List.length_singleton]; omega, ?_, by rw [hm2]; exact hF⟩
              rw [repB_app]
              have e : repB [(seatR s).1] = (seatR s).1.reply.length := by simp [repB]
              rw [e, hq5]
              omega
            · omega
            · rw [tab_snoc]
              exact Ent.drop
        · have hbad : badSeat last (seatR s).1 := by unfold badSeat; rw [hq1]; omega
          rw [fin_bad hbad] at hF
          refine r_region (id := 10) ?_
          refine o_give (g_move (evv rfl)) rfl rfl ?_
          refine o_give (g_fld (evv rfl)) rfl rfl ?_
          refine o_give (g_load (evv rfl) (by rfl) (by rfl)) rfl rfl ?_
          (refine o_call rfl _ (Ent.refl _) (seat_c _ _ _ (by first | assumption | (simp only [inR]; omega))) rfl ?_; rintro _ _ ⟨rfl, rfl⟩)
          refine o_give (g_assign (evv rfl)) rfl rfl ?_
          refine o_nil ?_
          refine c_code ?_
          refine r_seq ?_
          refine r_seq ?_
          rw [show seatP tb (min (((numR s).1 : Nat) : Int) 99) = .pointer none from if_neg (by omega)]
          skip
          refine r_region (id := 11) ?_
          refine o_give (g_move (evv rfl)) rfl rfl ?_
          refine o_give (g_pnil TyU.h (evv rfl) (evv rfl) (by simp) (by rfl)) rfl rfl ?_
          refine o_give (g_move (evv rfl)) rfl rfl ?_
          refine o_lazy rfl (fun hg => g_fld (evv rfl)) rfl rfl ?_
          refine o_lazy rfl (fun hg => g_load (evg rfl hg) (by rfl) (by rfl)) rfl rfl ?_
          refine o_lazy rfl (fun hg => g_move (by first | exact evv rfl | exact evg rfl (by rw [hp]; rfl) | exact evg rfl hp | exact evg rfl hg | exact evg rfl (by first | (simp_all; done) | (simp [*]; done) | fail) | fail)) rfl rfl ?_
          refine o_lazy rfl (fun hg => g_bin (by first | exact evv rfl | exact evg rfl (by rw [hp]; rfl) | exact evg rfl hp | exact evg rfl hg | exact evg rfl (by first | (simp_all; done) | (simp [*]; done) | fail) | fail) (by first | exact evv rfl | exact evg rfl (by rw [hp]; rfl) | exact evg rfl hp | exact evg rfl hg | exact evg rfl (by first | (simp_all; done) | (simp [*]; done) | fail) | fail) (by rfl)) rfl rfl ?_
          refine o_give (g_pick (b := true) (evv rfl) (fun _ => (evv rfl)) (fun h => by cases h)) rfl rfl ?_
          refine o_give (g_move (evv rfl)) rfl rfl ?_
          refine o_lazy rfl (fun hg => g_fld (evv rfl)) rfl rfl ?_
          refine o_lazy rfl (fun hg => g_load (evg rfl hg) (by rfl) (by rfl)) rfl rfl ?_
          refine o_lazy rfl (fun hg => g_bin (by first | exact evv rfl | exact evg rfl (by rw [hp]; rfl) | exact evg rfl hp | exact evg rfl hg | exact evg rfl (by first | (simp_all; done) | (simp [*]; done) | fail) | fail) (by first | exact evv rfl | exact evg rfl (by rw [hp]; rfl) | exact evg rfl hp | exact evg rfl hg | exact evg rfl (by first | (simp_all; done) | (simp [*]; done) | fail) | fail) (by rfl)) rfl rfl ?_
          refine o_give (g_pick (b := true) (evv rfl) (fun _ => (evv rfl)) (fun h => by cases h)) rfl rfl ?_
          refine o_give (g_move (evv rfl)) rfl rfl ?_
          refine o_lazy rfl (fun hg => g_fld (evv rfl)) rfl rfl ?_
          refine o_lazy rfl (fun hg => g_load (evg rfl hg) (by rfl) (by rfl)) rfl rfl ?_
          refine o_lazy rfl (fun hg => g_bin (by first | exact evv rfl | exact evg rfl (by rw [hp]; rfl) | exact evg rfl hp | exact evg rfl hg | exact evg rfl (by first | (simp_all; done) | (simp [*]; done) | fail) | fail) (by first | exact evv rfl | exact evg rfl (by rw [hp]; rfl) | exact evg rfl hp | exact evg rfl hg | exact evg rfl (by first | (simp_all; done) | (simp [*]; done) | fail) | fail) (by rfl)) rfl rfl ?_
          refine o_give (g_pick (b := true) (evv rfl) (fun _ => (evv rfl)) (fun h => by cases h)) rfl rfl ?_
          refine o_give (g_move (evv rfl)) rfl rfl ?_
          refine o_lazy rfl (fun hg => g_fld (evv rfl)) rfl rfl ?_
          refine o_lazy rfl (fun hg => g_load (evg rfl hg) (by rfl) (by rfl)) rfl rfl ?_
          refine o_lazy rfl (fun hg => g_not (by first | exact evv rfl | exact evg rfl (by rw [hp]; rfl) | exact evg rfl hp | exact evg rfl hg | exact evg rfl (by first | (simp_all; done) | (simp [*]; done) | fail) | fail)) rfl rfl ?_
          refine o_lazy rfl (fun hg => g_move (by first | exact evv rfl | exact evg rfl (by rw [hp]; rfl) | exact evg rfl hp | exact evg rfl hg | exact evg rfl (by first | (simp_all; done) | (simp [*]; done) | fail) | fail)) rfl rfl ?_
          refine o_lazy rfl (fun hg => g_fld (evv rfl)) rfl rfl ?_
          refine o_lazy rfl (fun hg => g_load (evg rfl hg) (by rfl) (by rfl)) rfl rfl ?_
          refine o_lazy rfl (fun hg => g_binS (by first | exact evv rfl | exact evg rfl (by rw [hp]; rfl) | exact evg rfl hp | exact evg rfl hg | exact evg rfl (by first | (simp_all; done) | (simp [*]; done) | fail) | fail) (by first | exact evv rfl | exact evg rfl (by rw [hp]; rfl) | exact evg rfl hp | exact evg rfl hg | exact evg rfl (by first | (simp_all; done) | (simp [*]; done) | fail) | fail) (by rfl)) rfl rfl ?_
          refine o_lazy rfl (fun hg => g_pick_and (by first | exact evv rfl | exact evg rfl (by rw [hp]; rfl) | exact evg rfl hp | exact evg rfl hg | exact evg rfl (by first | (simp_all; done) | (simp [*]; done) | fail) | fail) (by first | exact evv rfl | exact evg rfl (by rw [hp]; rfl) | exact evg rfl hp | exact evg rfl hg | exact evg rfl (by first | (simp_all; done) | (simp [*]; done) | fail) | fail) (fun hp => (by first | exact evv rfl | exact evg rfl (by rw [hp]; rfl) | exact evg rfl hp | exact evg rfl hg | exact evg rfl (by first | (simp_all; done) | (simp [*]; done) | fail) | fail))) rfl rfl ?_
          refine o_give (g_pick (b := true) (evv rfl) (fun _ => (evv rfl)) (fun h => by cases h)) rfl rfl ?_
          refine o_nil ?_
          refine c_code ?_
          refine r_cond_true rfl ?_
          refine r_seq ?_
          refine r_region (id := 12) ?_
          refine o_give (g_assign (evv rfl)) rfl rfl ?_
          refine o_give (g_assign (evv rfl)) rfl rfl ?_
          refine o_nil ?_
          refine c_code ?_
          first | refine r_ret (rs := [.tmp 2, .tmp 3]) rfl rfl _ ((Lay.ent (L' := F))) ?_ | refine c_end (rs := [.tmp 2, .tmp 3]) rfl rfl _ ((Lay.ent (L' := F))) ?_
          exact .inl ⟨hF, rfl, rfl⟩
      · have hkn : n - k = 0 := by omega
        rw [hkn] at hF
        obtain ⟨bs, e⟩ := s
        by_cases hE : e = 0 ∧ bs.length = 0
        · obtain ⟨rfl, hbs⟩ := hE
          simp only [seatsGo, finT, hbs, true_and, List.append_nil] at hF
          have hb8 : repB (tabOf acc) ≤ 4611686018427387904 := by rw [hTr]; omega
          refine r_exit rfl ?_
          refine c_code ?_
          refine r_seq ?_
          refine r_seq ?_
          repeat (first | refine r_seq ?_ | refine c_code ?_ | refine c_blk ?_ | refine r_block ?_ | refine r_skip ?_)
          refine r_held (id := 15) (inA i ⟨bs, 0⟩ :: blk tb (tblB (room : Int) (tabOf acc)) :: F) Mixed.h ?_
          refine h_give (i := 0) (by kernel_rfl) rfl (g_move (evv rfl)) rfl rfl ?_
          refine h_one (i := 1) (by kernel_rfl) rfl (Ent.refl _) ?_
          (refine o_call rfl _ (Ent.refl _) inEnd_l rfl ?_; rintro _ _ ⟨rfl, rfl⟩)
          refine o_nil ?_
          refine h_give (i := 2) (by kernel_rfl) rfl (g_not (evv rfl)) rfl rfl ?_
          refine h_give (i := 3) (by kernel_rfl) rfl (g_move (evv rfl)) rfl rfl ?_
          simp only [hbs, and_self, decide_true, Bool.not_true]
          refine h_sure (i := 4) (by kernel_rfl) rfl rfl (g_move (evv rfl)) rfl rfl ?_
          refine h_sure (i := 6) (by kernel_rfl) rfl rfl (g_move (evv rfl)) rfl rfl ?_
          refine h_sure (i := 7) (by kernel_rfl) rfl rfl (g_nil (evv rfl)) rfl rfl ?_
          refine h_sure (i := 8) (by kernel_rfl) rfl rfl (g_fld (evv rfl)) rfl rfl ?_
          refine h_sure (i := 9) (by kernel_rfl) rfl rfl (g_load (evv rfl) (by rfl) (by rfl)) rfl rfl ?_
          refine h_one (i := 5) (by kernel_rfl) rfl (Ent.refl _) ?_
          refine o_gyes rfl ?_
          (refine o_call rfl _ (Ent.refl _) (Fn.atPick (bytes_g _ _ (by assumption) (by assumption))) rfl ?_; rintro _ _ ⟨rfl, rfl⟩)
          refine o_nil ?_
          refine h_sure (i := 10) (by kernel_rfl) rfl rfl (g_bin (evv rfl) (evv rfl) (by rfl)) rfl rfl ?_
          refine h_give (i := 11) (by kernel_rfl) rfl (g_pick (b := false) (evv rfl) (fun h => by cases h) (fun _ => (evv rfl))) rfl rfl ?_
          refine h_done (by kernel_rfl) (Ent.refl _) ?_
          refine c_code ?_
          rw [hTr]
          refine r_cond rfl (fun hr => ?_) (fun hr => ?_) <;> (try simp only [decide_eq_true_eq, decide_eq_false_iff_not, Bool.and_eq_true, Bool.or_eq_true, Bool.not_eq_true', Bool.and_eq_false_iff, Bool.or_eq_false_iff, Bool.not_eq_false', Bool.not_eq_true, Bool.not_eq_false, Bool.true_eq_false, Bool.false_eq_true, Int.not_lt, Int.not_le, not_and, not_or, ne_eq] at hr)
          · rw [if_neg (by omega)] at hF
            refine r_seq ?_
            refine r_region (id := 16) ?_
            refine o_give (g_assign (evv rfl)) rfl rfl ?_
            refine o_give (g_assign (evv rfl)) rfl rfl ?_
            refine o_nil ?_
            refine c_code ?_
            first | refine r_ret (rs := [.tmp 2, .tmp 3]) rfl rfl _ ((Lay.ent (L' := F))) ?_ | refine c_end (rs := [.tmp 2, .tmp 3]) rfl rfl _ ((Lay.ent (L' := F))) ?_
            exact .inl ⟨hF, rfl, rfl⟩
          · rw [if_pos (by omega)] at hF
            refine r_skip ?_
            refine c_code ?_
            refine r_seq ?_
            refine r_region (id := 17) ?_
            refine o_give (g_move (evv rfl)) rfl rfl ?_
            refine o_give (g_assign (evv rfl)) rfl rfl ?_
            refine o_give (g_assign (evv rfl)) rfl rfl ?_
            refine o_nil ?_
            refine c_code ?_
            first | refine r_ret (rs := [.tmp 2, .tmp 3]) rfl rfl _ ((Ent.drop)) ?_ | refine c_end (rs := [.tmp 2, .tmp 3]) rfl rfl _ ((Ent.drop)) ?_
            exact .inr ⟨room, acc, tb, hF, rfl, rfl⟩
        · have hF : decT b = none := by
            rw [hF]
            simp only [seatsGo, finT, List.append_nil]
            exact if_neg fun h => hE ⟨h.1, h.2.1⟩
          refine r_exit rfl ?_
          refine c_code ?_
          refine r_seq ?_
          refine r_seq ?_
          repeat (first | refine r_seq ?_ | refine c_code ?_ | refine c_blk ?_ | refine r_block ?_ | refine r_skip ?_)
          refine r_held (id := 15) (inA i ⟨bs, e⟩ :: blk tb (tblB (room : Int) (tabOf acc)) :: F) Mixed.h ?_
          refine h_give (i := 0) (by kernel_rfl) rfl (g_move (evv rfl)) rfl rfl ?_
          refine h_one (i := 1) (by kernel_rfl) rfl (Ent.refl _) ?_
          (refine o_call rfl _ (Ent.refl _) inEnd_l rfl ?_; rintro _ _ ⟨rfl, rfl⟩)
          refine o_nil ?_
          refine h_give (i := 2) (by kernel_rfl) rfl (g_not (evv rfl)) rfl rfl ?_
          refine h_give (i := 3) (by kernel_rfl) rfl (g_move (evv rfl)) rfl rfl ?_
          simp only [hE, decide_false, Bool.not_false]
          refine h_lazy (i := 4) (by kernel_rfl) rfl rfl (fun hg => g_move (by first | exact evv rfl | exact evg rfl (by rw [hp]; rfl) | exact evg rfl hp | exact evg rfl hg | exact evg rfl (by first | (simp_all; done) | (simp [*]; done) | fail) | fail)) rfl rfl ?_
          refine h_lazy (i := 6) (by kernel_rfl) rfl rfl (fun hg => g_move (by first | exact evv rfl | exact evg rfl (by rw [hp]; rfl) | exact evg rfl hp | exact evg rfl hg | exact evg rfl (by first | (simp_all; done) | (simp [*]; done) | fail) | fail)) rfl rfl ?_
          refine h_lazy (i := 7) (by kernel_rfl) rfl rfl (fun hg => g_nil (by first | exact evv rfl | exact evg rfl (by rw [hp]; rfl) | exact evg rfl hp | exact evg rfl hg | exact evg rfl (by first | (simp_all; done) | (simp [*]; done) | fail) | fail)) rfl rfl ?_
          refine h_lazy (i := 8) (by kernel_rfl) rfl rfl (fun hg => g_fld (evg rfl hg)) rfl rfl ?_
          refine h_lazy (i := 9) (by kernel_rfl) rfl rfl (fun hg => g_load (evg rfl hg) (by rfl) (by rfl)) rfl rfl ?_
          refine h_one (i := 5) (by kernel_rfl) rfl (Ent.refl _) ?_
          refine o_lazy (v0 := undef) rfl (fun hg => absurd hg (by first | (simp; done) | fail)) rfl rfl ?_
          refine o_nil ?_
          refine h_lazy (i := 10) (by kernel_rfl) rfl (v0 := undef) rfl (fun hg => absurd hg (by first | (simp; done) | fail)) rfl rfl ?_
          refine h_give (i := 11) (by kernel_rfl) rfl (g_pick (b := true) (evv rfl) (fun _ => (evv rfl)) (fun h => by cases h)) rfl rfl ?_
          refine h_done (by kernel_rfl) (Ent.refl _) ?_
          refine c_code ?_
          refine r_cond_true rfl ?_
          refine r_seq ?_
          refine r_region (id := 16) ?_
          refine o_give (g_assign (evv rfl)) rfl rfl ?_
          refine o_give (g_assign (evv rfl)) rfl rfl ?_
          refine o_nil ?_
          refine c_code ?_
          first | refine r_ret (rs := [.tmp 2, .tmp 3]) rfl rfl _ ((Lay.ent (L' := F))) ?_ | refine c_end (rs := [.tmp 2, .tmp 3]) rfl rfl _ ((Lay.ent (L' := F))) ?_
          exact .inl ⟨hF, rfl, rfl⟩
  · refine r_seq ?_
    refine r_region (id := 0) ?_
    refine o_give (g_assign (evv rfl)) rfl rfl ?_
    refine o_give (g_assign (evv rfl)) rfl rfl ?_
    refine o_nil ?_
    refine c_code ?_
    refine r_seq ?_
    refine r_region (id := 1) ?_
    refine o_give (g_move (evv rfl)) rfl rfl ?_
    (refine o_call rfl _ (Ent.refl _) (Read_c _ _ _ (by (try simp only [bsOf, List.length_append, List.length_cons, List.length_nil]); omega)) rfl ?_; rintro _ _ ⟨i, rfl, rfl⟩)
    refine o_give (g_assign (evv rfl)) rfl rfl ?_
    refine o_nil ?_
    refine c_code ?_
    refine r_seq ?_
    refine r_region (id := 2) ?_
    refine o_give (g_move (evv rfl)) rfl rfl ?_
    (refine o_call rfl _ (Ent.refl _) inNum_l rfl ?_; rintro _ _ ⟨rfl, rfl⟩)
    refine o_give (g_min2 (evv rfl) (evv rfl)) rfl rfl ?_
    refine o_giveN (g_conv TyU.h TyU.h (evv rfl)) (by simp only [inR]; omega) rfl ?_
    (refine o_call rfl _ (Ent.refl _) (Make_bad _ _ (by omega)) rfl ?_; rintro _ _ ⟨rfl, rfl⟩)
    refine o_give (g_move (evv rfl)) rfl rfl ?_
    refine o_give (g_extract (evv rfl) (by rfl)) rfl rfl ?_
    refine o_give (g_extract (evv rfl) (by rfl)) rfl rfl ?_
    refine o_give (g_assign (evv rfl)) rfl rfl ?_
    refine o_give (g_assign (evv rfl)) rfl rfl ?_
    refine o_nil ?_
    refine c_code ?_
    refine r_seq ?_
    refine r_region (id := 3) ?_
    refine o_give (g_move (evv rfl)) rfl rfl ?_
    (refine o_call rfl _ (Ent.refl _) inNum_l rfl ?_; rintro _ _ ⟨rfl, rfl⟩)
    refine o_give (g_assign (evv rfl)) rfl rfl ?_
    refine o_nil ?_
    refine c_code ?_
    refine r_seq ?_
    refine r_seq ?_
    refine r_region (id := 4) ?_
    refine o_give (g_move (evv rfl)) rfl rfl ?_
    refine o_give (g_bin (evv rfl) (evv rfl) (by rfl)) rfl rfl ?_
    refine o_give (g_move (evv rfl)) rfl rfl ?_
    refine o_lazy rfl (fun hg => g_move (by first | exact evv rfl | exact evg rfl (by rw [hp]; rfl) | exact evg rfl hp | exact evg rfl hg | exact evg rfl (by first | (simp_all; done) | (simp [*]; done) | fail) | fail)) rfl rfl ?_
    refine o_lazy rfl (fun hg => g_bin (by first | exact evv rfl | exact evg rfl (by rw [hp]; rfl) | exact evg rfl hp | exact evg rfl hg | exact evg rfl (by first | (simp_all; done) | (simp [*]; done) | fail) | fail) (by first | exact evv rfl | exact evg rfl (by rw [hp]; rfl) | exact evg rfl hp | exact evg rfl hg | exact evg rfl (by first | (simp_all; done) | (simp [*]; done) | fail) | fail) (by rfl)) rfl rfl ?_
    refine o_give (g_pick (b := true) (evv rfl) (fun _ => (evv rfl)) (fun h => by cases h)) rfl rfl ?_
    refine o_nil ?_
    refine c_code ?_
    refine r_cond_true rfl ?_
    refine r_seq ?_
    refine r_region (id := 5) ?_
    refine o_give (g_assign (evv rfl)) rfl rfl ?_
    refine o_give (g_assign (evv rfl)) rfl rfl ?_
    refine o_nil ?_
    refine c_code ?_
    first | refine r_ret (rs := [.tmp 2, .tmp 3]) rfl rfl _ ((Lay.ent (L' := F))) ?_ | refine c_end (rs := [.tmp 2, .tmp 3]) rfl rfl _ ((Lay.ent (L' := F))) ?_
    exact .inl ⟨by unfold decT; rw [if_pos (.inl (by omega))], rfl, rfl⟩
theorem Decode_n (F : List Atom) (v : Value) (b : List UInt8) (hb : b.length ≤ 140737488355000) (h : decT b = none) [rd : Rd F v (mrow by8 5 b)] :
    Fn Try.prog 20 [v] F fun w L' => w = .tuple #[.pointer none, .int .i64 21] ∧ L' = F := by
  refine (Decode_c F v b hb).mono ?_
  rintro w L' (⟨_, h1, h2⟩ | ⟨room, L, tb, h1, _⟩)
  · exact ⟨h1, h2⟩
  · rw [h] at h1; cases h1
theorem Decode_s (F : List Atom) (v : Value) (b : List UInt8) (room : Nat) (L : List Seat) (hb : b.length ≤ 140737488355000) (h : decT b = some (room, L)) [rd : Rd F v (mrow by8 5 b)] :
    Fn Try.prog 20 [v] F fun w L' => ∃ tb, w = .tuple #[.pointer (some ⟨tb, 0, none⟩), .int .i64 0] ∧ L' = blk tb (tblB (room : Int) (tabOf L)) :: F := by
  refine (Decode_c F v b hb).mono ?_
  rintro w L' (⟨h1, _⟩ | ⟨room', L2, tb, h1, h2, h3⟩)
  · rw [h] at h1; cases h1
  · rw [h] at h1
    cases h1
    exact ⟨tb, h2, h3⟩
end VK
