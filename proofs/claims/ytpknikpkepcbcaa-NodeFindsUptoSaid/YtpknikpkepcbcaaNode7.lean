/- What bytes mean: the reference's Decode. Conditions: bytes of a machine's size. -/
import Derived.Test.YtpknikpkepcbcaaNode6
import Derived.Test.YtpknikpkepcbcaaNode2
import Derived.Test.YtpknikpkepcbcaaRIn
namespace VK
open Go Go.Proofs
set_option linter.unusedSimpArgs false
set_option linter.unusedVariables false
set_option maxRecDepth 100000
set_option maxHeartbeats 40000000
theorem decN_of {b : List UInt8} {n : NodeS} {s : InS} (h : readN ⟨b, 0⟩ = (n, s)) : decN b = if s.err = 0 ∧ s.bs.length = 0 ∧ nodeOk n then some n else none := by unfold decN; rw [h]
theorem decN_none {b : List UInt8} {n : NodeS} {s : InS} (h : readN ⟨b, 0⟩ = (n, s)) (hn : ¬ nodeOk n) : decN b = none := by rw [decN_of h, if_neg (fun h => hn h.2.2)]
def Step (b : List UInt8) (x : NodeS × Nat × Int) : Prop := x.2.1 ≤ b.length ∧ x.1.ok ∧ decN b = if x.2.2 = 0 ∧ (b.drop x.2.1).length = 0 ∧ nodeOk x.1 then some x.1 else none
theorem RnDec_c (L : List Atom) (v : Value) (b : List UInt8) (hb : b.length ≤ 140737488355000) [rd : Rd L v (mrow by8 5 b)] : Fn Try.prog 11 [v] L fun w L' => ∃ pv iv, w = .tuple #[agg (nodV (decM b) pv iv), .bool (decide (decN b ≠ none))] ∧ L' = sl pv (frow digC 32 52 (decM b).parts) :: sl iv (frow itmC 34 54 (decM b).items) :: L := by
  have ha0 : 0 ≤ b.length := Nat.zero_le _
  have hN := numR_le ⟨b, 0⟩
  refine fn_intro Try.func11 rfl Try.ntmps11 rfl (fun W0 => ?_)
  simp only [argE]
  refine r_seq ?_
  refine r_region (id := 0) ?_
  refine o_alloc rfl rfl (fun _ => ?_)
  refine o_give (g_assign (evv rfl)) rfl rfl ?_
  refine o_nil ?_
  refine c_code ?_
  refine r_seq ?_
  refine r_region (id := 1) ?_
  refine o_give (g_move (evv rfl)) rfl rfl ?_
  refine o_give (g_buildC rfl (by rfl)) rfl rfl ?_
  refine o_boxA (evv rfl) rfl (fun _ => ?_)
  refine o_give (g_assign (evv rfl)) rfl rfl ?_
  refine o_nil ?_
  refine c_code ?_
  refine r_seq ?_
  refine r_region (id := 2) ?_
  refine o_give (v := agg [(Go.Value.int Go.IntKind.i64 0), (Go.Value.string { data := #[] }), (Go.Value.int Go.IntKind.i64 0), (Go.Value.slice none 0 0), (Go.Value.slice none 0 0)]) (g_buildC rfl (by rfl)) rfl rfl ?_
  refine o_alloc rfl rfl (fun _ => ?_)
  refine o_storeW (evv rfl) (evv rfl) (by first | rfl | assumption | exact LenC.h _ | (simp [bys, *]; done) | fail) (by first | (intro _ _ _; exact bys_one _) | exact AllOne.h | (intro _ _ _ u hu; simp at hu; rcases hu with rfl | rfl | rfl | rfl | rfl | rfl | rfl | rfl <;> rfl) | fail) (by first | rfl | exact (LenC.h _).trans rfl | exact (LenC.h _).trans (LenC.h _).symm | (simp [bys, *]; done) | (simp only [bys, List.length_map, *]; rfl) | fail) ?_
  refine o_nil ?_
  refine c_code ?_
  refine r_seq ?_
  refine r_region (id := 3) ?_
  refine o_give (g_move (evv rfl)) rfl rfl ?_
  (refine o_call rfl _ (Ent.refl _) (Fn.atPick (rNum_g _ (by assumption) (by assumption) _)) rfl ?_; rintro _ _ ⟨ra, re, hra, rfl, hrs, rfl⟩)
  refine o_give (g_assign (evv rfl)) rfl rfl ?_
  refine o_nil ?_
  refine c_code ?_
  refine r_seq ?_
  refine r_seq ?_
  refine r_region (id := 4) ?_
  refine o_give (g_move (evv rfl)) rfl rfl ?_
  refine o_nil ?_
  refine c_code ?_
  rename_i z y q
  rw [List.drop_zero] at hrs ⊢
  generalize hZ : cellsL _ = Z
  have hZl : Z.length = 5 := by rw [← hZ]; rfl
  repeat (first | refine r_seq ?_ | refine c_code ?_ | refine c_blk ?_ | refine r_skip ?_)
  refine r_cutE (σ := {x : NodeS × Nat × Int // Step b x} × Value × Value) (fun (x, pv, iv) => []) [2,4,5] (fun (x, pv, iv) => blk q ⟨nodV x.1.1 pv iv, 27⟩ :: sl pv (frow digC 32 52 x.1.1.parts) :: sl iv (frow itmC 34 54 x.1.1.items) :: blk y (rC v x.1.2.1 x.1.2.2) :: blk z ⟨Z, 27⟩ :: L) (by dsimp only [pickE, pick1, lk2, Nat.reduceBEq, Nat.reduceAdd, Nat.zero_add, cond_true, cond_false] <;> exact rfl) ?_ ?_
  · have hnil : ∀ {A : List Atom}, Ent A (sl (.slice none 0 0) (frow digC 32 52 []) :: sl (.slice none 0 0) (frow itmC 34 54 []) :: A) := fun {A} => (Ent.nilsl 54 34).trans (Ent.nilsl 52 32)
    by_cases k1 : (numR ⟨b, 0⟩).1 = 1
    · rw [k1]
      obtain ⟨ra0, hra0⟩ : ∃ x, x = ra := ⟨_, rfl⟩
      obtain ⟨re0, hre0⟩ : ∃ x, x = re := ⟨_, rfl⟩
      rw [← hra0, ← hre0] at hrs ⊢
      rw [← hra0] at hra
      clear hra0 hre0
      have hrs0 := hrs
      refine r_block ?_
      refine r_seq ?_
      refine r_region (id := 5) ?_
      refine o_give (g_bin (evv rfl) (evv rfl) (by rfl)) rfl rfl ?_
      refine o_give (g_assign (evv rfl)) rfl rfl ?_
      refine o_nil ?_
      refine c_code ?_
      refine r_cond_true rfl ?_
      refine r_seq ?_
      refine r_region (id := 6) ?_
      refine o_give (g_fld (evv rfl)) rfl rfl ?_
      refine o_store1 (evv rfl) (evv rfl) (by rfl) (by rfl) (by rfl) ?_
      refine o_nil ?_
      refine c_code ?_
      refine r_region (id := 7) ?_
      refine o_give (g_move (evv rfl)) rfl rfl ?_
      (refine o_call rfl _ (Ent.refl _) (Fn.atPick (rText_g _ (by assumption) (by assumption) _ _ (by omega))) rfl ?_; rintro _ _ ⟨ra, re, hra, rfl, hrs, rfl⟩)
      refine o_give (g_fld (evv rfl)) rfl rfl ?_
      refine o_store1 (evv rfl) (evv rfl) (by rfl) (by rfl) (by rfl) ?_
      refine o_nil ?_
      refine c_blk ?_
      have hr : readN ⟨b, 0⟩ = (⟨1, (textR 64 ⟨b.drop ra0, re0⟩).1, 0, [], []⟩, ⟨b.drop ra, re⟩) := by
        unfold readN; dsimp only; rw [if_pos (by omega), hrs0, hrs]
      have hl := textR_len 64 ⟨b.drop ra0, re0⟩
      have hS : Step b (⟨1, (textR 64 ⟨b.drop ra0, re0⟩).1, 0, [], []⟩, ra, re) := ⟨hra, ⟨by simp only [inR]; omega, by dsimp only; omega, by simp only [inR]; omega, by simp⟩, decN_of hr⟩
      skip
      refine c_cut (⟨(⟨1, (textR 64 ⟨b.drop ra0, re0⟩).1, 0, [], []⟩, ra, re), hS⟩, .slice none 0 0, .slice none 0 0) (by repeat (first | exact trivial | refine ⟨rfl, ?_⟩ | refine envsub_v rfl (by first | rfl | (refine int_eq ?_; first | omega | (simp; omega) | (simp; done)) | (refine bool_eq ?_; first | (simp [*]; done) | (simp; done)) | (refine str_eq ?_; simp; done) | (refine ptr_eq ?_; omega) | fail) ?_)) ?_
      refine hnil.trans ?_
      dsimp only
      exact Lay.ent
    · by_cases k2 : (numR ⟨b, 0⟩).1 = 2
      · rw [k2]
        obtain ⟨ra0, hra0⟩ : ∃ x, x = ra := ⟨_, rfl⟩
        obtain ⟨re0, hre0⟩ : ∃ x, x = re := ⟨_, rfl⟩
        rw [← hra0, ← hre0] at hrs ⊢
        rw [← hra0] at hra
        clear hra0 hre0
        have hrs0 := hrs
        have hM := numR_le ⟨b.drop ra0, re0⟩
        refine r_block ?_
        refine r_seq ?_
        refine r_region (id := 5) ?_
        refine o_give (g_bin (evv rfl) (evv rfl) (by rfl)) rfl rfl ?_
        refine o_give (g_assign (evv rfl)) rfl rfl ?_
        refine o_nil ?_
        refine c_code ?_
        refine r_cond_false rfl ?_
        refine r_seq ?_
        refine r_region (id := 8) ?_
        refine o_give (g_bin (evv rfl) (evv rfl) (by rfl)) rfl rfl ?_
        refine o_give (g_assign (evv rfl)) rfl rfl ?_
        refine o_nil ?_
        refine c_code ?_
        refine r_cond_true rfl ?_
        refine r_seq ?_
        refine r_region (id := 9) ?_
        refine o_give (g_fld (evv rfl)) rfl rfl ?_
        refine o_store1 (evv rfl) (evv rfl) (by rfl) (by rfl) (by rfl) ?_
        refine o_nil ?_
        refine c_code ?_
        refine r_seq ?_
        refine r_region (id := 10) ?_
        refine o_give (g_move (evv rfl)) rfl rfl ?_
        (refine o_call rfl _ (Ent.refl _) (Fn.atPick (rNum_g _ (by assumption) (by assumption) _)) rfl ?_; rintro _ _ ⟨ra, re, hra, rfl, hrs, rfl⟩)
        refine o_give (g_assign (evv rfl)) rfl rfl ?_
        refine o_nil ?_
        refine c_code ?_
        refine r_seq ?_
        refine r_seq ?_
        refine r_region (id := 11) ?_
        refine o_give (g_move (evv rfl)) rfl rfl ?_
        refine o_give (g_bin (evv rfl) (evv rfl) (by rfl)) rfl rfl ?_
        refine o_nil ?_
        refine c_code ?_
        have hr : readN ⟨b, 0⟩ = (⟨2, [], ((min (numR ⟨b.drop ra0, re0⟩).1 1025 : Nat) : Int), (partsGo (cnt ((min (numR ⟨b.drop ra0, re0⟩).1 1025 : Nat) : Int)) ⟨b.drop ra, re⟩).1, []⟩, (partsGo (cnt ((min (numR ⟨b.drop ra0, re0⟩).1 1025 : Nat) : Int)) ⟨b.drop ra, re⟩).2) := by
          unfold readN; dsimp only; rw [if_neg (by omega), if_pos (by omega), hrs0, hrs]
        refine r_cond rfl (fun hbig => ?_) (fun hbig => ?_) <;> (try simp only [decide_eq_true_eq, decide_eq_false_iff_not, Bool.and_eq_true, Bool.or_eq_true, Bool.not_eq_true', Bool.and_eq_false_iff, Bool.or_eq_false_iff, Bool.not_eq_false', Bool.not_eq_true, Bool.not_eq_false, Bool.true_eq_false, Bool.false_eq_true, Int.not_lt, Int.not_le, not_and, not_or, ne_eq] at hbig)
        · have hd := decN_none hr (fun h => by
            rcases h with h | ⟨_, _, _, h, _⟩ | h
            · exact absurd h.1 (show ¬ (2 : Int) = 1 by decide)
            · dsimp only at h; omega
            · exact absurd h.1 (show ¬ (2 : Int) = 3 by decide))
          have hMz : decM b = zeroNode := by rw [decM, hd]; rfl
          rw [hMz, hd]
          refine r_seq ?_
          refine r_region (id := 12) ?_
          refine o_give (v := agg [(Go.Value.int Go.IntKind.i64 0), (Go.Value.string { data := #[] }), (Go.Value.int Go.IntKind.i64 0), (Go.Value.slice none 0 0), (Go.Value.slice none 0 0)]) (g_buildC rfl (by rfl)) rfl rfl ?_
          refine o_storeW (evv rfl) (evv rfl) (by first | rfl | assumption | exact LenC.h _ | (simp [bys, *]; done) | fail) (by first | (intro _ _ _; exact bys_one _) | exact AllOne.h | (intro _ _ _ u hu; simp at hu; rcases hu with rfl | rfl | rfl | rfl | rfl | rfl | rfl | rfl <;> rfl) | fail) (by first | rfl | exact (LenC.h _).trans rfl | exact (LenC.h _).trans (LenC.h _).symm | (simp [bys, *]; done) | (simp only [bys, List.length_map, *]; rfl) | fail) ?_
          refine o_give (g_assign (evv rfl)) rfl rfl ?_
          refine o_nil ?_
          refine c_code ?_
          first | refine r_retC (rs := [.cell 2 27, .tmp 3]) rfl (by first | exact ro_agg rfl rfl (by first | rfl | exact LenC.h _ | (simp [bys, *]; done)) (ro_tmp rfl ro_nil) | exact ro_cell rfl rfl rfl (ro_tmp rfl ro_nil)) _ (((Lay.ent (L' := L)).trans hnil)) ?_ | refine c_endC (rs := [.cell 2 27, .tmp 3]) rfl (by first | exact ro_agg rfl rfl (by first | rfl | exact LenC.h _ | (simp [bys, *]; done)) (ro_tmp rfl ro_nil) | exact ro_cell rfl rfl rfl (ro_tmp rfl ro_nil)) _ (((Lay.ent (L' := L)).trans hnil)) ?_
          exact ⟨_, _, rfl, rfl⟩
        · rw [show min (numR ⟨b.drop ra0, re0⟩).1 1025 = (numR ⟨b.drop ra0, re0⟩).1 by omega] at hr
          clear hrs hrs0
          generalize (numR ⟨b.drop ra0, re0⟩).1 = M at *
          have hC2 : cnt (M : Int) ≤ 20 := by unfold cnt; omega
          have hCd : ∀ k : Nat, (0 < (M : Int) - 64 * k ↔ k < cnt (M : Int)) := fun k => by unfold cnt; omega
          generalize hC : cnt (M : Int) = C at *
          refine r_skip ?_
          refine c_code ?_
          refine r_seq ?_
          refine r_region (id := 13) ?_
          refine o_give (g_move (evv rfl)) rfl rfl ?_
          refine o_giveN (g_conv TyU.h TyU.h (evv rfl)) (by simp only [inR]; omega) rfl ?_
          refine o_give (g_fld (evv rfl)) rfl rfl ?_
          refine o_store1 (evv rfl) (evv rfl) (by rfl) (by rfl) (by rfl) ?_
          refine o_nil ?_
          refine c_code ?_
          refine r_seq ?_
          refine r_region (id := 14) ?_
          refine o_give (g_fld (evv rfl)) rfl rfl ?_
          refine o_give (g_load (evv rfl) (by rfl) (by rfl)) rfl rfl ?_
          refine o_give (g_assign (evv rfl)) rfl rfl ?_
          refine o_nil ?_
          refine c_code ?_
          refine r_block ?_
          refine r_loopE (σ := (Nat × List Dig) × (Nat × Int) × Value) (fun ⟨⟨k, acc⟩, ⟨a, e⟩, nv⟩ => a ≤ b.length ∧ k ≤ C ∧ acc.length = k ∧ partsGo C ⟨b.drop ra, re⟩ = partsT acc (C - k) ⟨b.drop a, e⟩) (fun ⟨⟨k, acc⟩, ⟨a, e⟩, nv⟩ => C - k) (fun ⟨⟨k, acc⟩, ⟨a, e⟩, nv⟩ => [(8, .v (.int .i64 ((M : Int) - 64 * k)))]) [2, 4, 5, 19] (fun ⟨⟨k, acc⟩, ⟨a, e⟩, nv⟩ => blk q ⟨[.int .i64 2, str [], .int .i64 M, nv, .slice none 0 0], 27⟩ :: sl nv (frow digC 32 52 acc) :: blk y (rC v a e) :: blk z ⟨Z, 27⟩ :: L) ((0, []), (ra, re), .slice none 0 0) (by dsimp only [pickE, pick1, lk2, Nat.reduceBEq, Nat.reduceAdd, Nat.zero_add, cond_true, cond_false] <;> exact rfl) ?_ (by repeat (first | exact trivial | refine ⟨rfl, ?_⟩ | refine envsub_v rfl (by first | rfl | (refine int_eq ?_; first | omega | (simp; omega) | (simp; done)) | (refine bool_eq ?_; first | (simp [*]; done) | (simp; done)) | (refine str_eq ?_; simp; done) | (refine ptr_eq ?_; omega) | fail) ?_)) ?_ ?_
          · exact ⟨hra, Nat.zero_le _, rfl, by simp [partsT]⟩
          · refine (Ent.nilsl 52 32).trans ?_
            dsimp only
            exact Lay.ent (L := sl (.slice none 0 0) (frow digC 32 52 []) :: blk q ⟨[.int .i64 2, str [], .int .i64 M, .slice none 0 0, .slice none 0 0], 27⟩ :: blk y (rC v ra re) :: blk z ⟨Z, 27⟩ :: L)
          rintro ⟨⟨k, acc⟩, ⟨a, e⟩, nv⟩ ⟨ha, hk, hal, hT⟩; dsimp only [List.cons_append, List.nil_append]
          refine r_seq ?_
          refine r_seq ?_
          refine r_region (id := 15) ?_
          refine o_give (g_move (evv rfl)) rfl rfl ?_
          refine o_give (g_bin (evv rfl) (evv rfl) (by rfl)) rfl rfl ?_
          refine o_nil ?_
          refine c_code ?_
          refine r_cond rfl (fun hc => ?_) (fun hc => ?_) <;> (try simp only [decide_eq_true_eq, decide_eq_false_iff_not, Bool.and_eq_true, Bool.or_eq_true, Bool.not_eq_true', Bool.and_eq_false_iff, Bool.or_eq_false_iff, Bool.not_eq_false', Bool.not_eq_true, Bool.not_eq_false, Bool.true_eq_false, Bool.false_eq_true, Int.not_lt, Int.not_le, not_and, not_or, ne_eq] at hc)
          · have hkC := (hCd k).1 (by omega)
            obtain ⟨m, hm⟩ : ∃ m, C - k = m + 1 := ⟨C - k - 1, by omega⟩
            have hm2 : C - (k + 1) = m := by omega
            rw [hm, partsT_step] at hT
            repeat (first | refine r_seq ?_ | refine c_code ?_ | refine c_blk ?_ | refine r_block ?_ | refine r_skip ?_)
            refine r_cutE (σ := {x : Nat × Int // x.1 ≤ b.length ∧ (digestR ⟨b.drop a, e⟩).2 = ⟨b.drop x.1, x.2⟩} × Value) (fun (x, nv') => []) [2, 4, 5, 8, 19, 39, 40] (fun (x, nv') => blk q ⟨[.int .i64 2, str [], .int .i64 M, nv', .slice none 0 0], 27⟩ :: sl nv' (frow digC 32 52 (acc ++ [digG ⟨b.drop a, e⟩])) :: blk y (rC v x.1.1 x.1.2) :: blk z ⟨Z, 27⟩ :: L) (by dsimp only [pickE, pick1, lk2, Nat.reduceBEq, Nat.reduceAdd, Nat.zero_add, cond_true, cond_false] <;> exact rfl) ?_ ?_
            · refine r_held (id := 17) [] Mixed.h ?_
              (refine h_give (i := 0) (by kernel_rfl) rfl (g_fld (evv rfl)) rfl rfl ?_)
              (refine h_give (i := 2) (by kernel_rfl) rfl (g_move (evv rfl)) rfl rfl ?_)
              refine h_two (i := 1) (j := 3) (by kernel_rfl) rfl rfl (Ent.nil _) ?_ ?_
              · (refine o_give (g_load (evv rfl) (by rfl) (by rfl)) rfl rfl ?_); refine o_nil ?_
                refine h_one (i := 3) (by kernel_rfl) rfl (Ent.nil _) ?_
                ((refine o_call rfl _ (Ent.refl _) (Fn.atPick (rDigest_g _ (by assumption) (by assumption) _)) rfl ?_; rintro _ _ ⟨ra, re, hra, rfl, hrs, rfl⟩)); refine o_nil ?_
                refine h_one (i := 4) (by kernel_rfl) rfl (Ent.nil _) ?_
                (refine o_litS rfl (by rfl) inferInstance (by rfl) rfl (fun _ => ?_)); refine o_nil ?_
                refine h_one (i := 5) (by kernel_rfl) rfl (Ent.nil _) ?_
                (refine o_appF (evv rfl) (evv rfl) (by rfl) (by rfl) (by rfl) (by (try simp only [bsOf, List.length_append, List.length_cons, List.length_nil, List.length_take, List.length_drop, List.length_map, List.length_range]); omega) rfl (fun _ => ?_)); refine o_nil ?_
                (refine h_give (i := 6) (by kernel_rfl) rfl (g_fld (evv rfl)) rfl rfl ?_)
                refine h_one (i := 7) (by kernel_rfl) rfl (Ent.nil _) ?_
                (refine o_store1 (evv rfl) (evv rfl) (by rfl) (by rfl) (by rfl) ?_); refine o_nil ?_
                refine h_done (by kernel_rfl) (Ent.nil _) ?_
                exact c_cut (⟨(ra, re), hra, hrs⟩, (by assumption)) (by repeat (first | exact trivial | refine ⟨rfl, ?_⟩ | refine envsub_v rfl (by first | rfl | (refine int_eq ?_; first | omega | (simp; omega) | (simp; done)) | (refine bool_eq ?_; first | (simp [*]; done) | (simp; done)) | (refine str_eq ?_; simp; done) | (refine ptr_eq ?_; omega) | fail) ?_)) (Lay.ent)
              · ((refine o_call rfl _ (Ent.refl _) (Fn.atPick (rDigest_g _ (by assumption) (by assumption) _)) rfl ?_; rintro _ _ ⟨ra, re, hra, rfl, hrs, rfl⟩)); refine o_nil ?_
                refine h_two (i := 1) (j := 4) (by kernel_rfl) rfl rfl (Ent.nil _) ?_ ?_
                · (refine o_give (g_load (evv rfl) (by rfl) (by rfl)) rfl rfl ?_); refine o_nil ?_
                  refine h_one (i := 4) (by kernel_rfl) rfl (Ent.nil _) ?_
                  (refine o_litS rfl (by rfl) inferInstance (by rfl) rfl (fun _ => ?_)); refine o_nil ?_
                  refine h_one (i := 5) (by kernel_rfl) rfl (Ent.nil _) ?_
                  (refine o_appF (evv rfl) (evv rfl) (by rfl) (by rfl) (by rfl) (by (try simp only [bsOf, List.length_append, List.length_cons, List.length_nil, List.length_take, List.length_drop, List.length_map, List.length_range]); omega) rfl (fun _ => ?_)); refine o_nil ?_
                  (refine h_give (i := 6) (by kernel_rfl) rfl (g_fld (evv rfl)) rfl rfl ?_)
                  refine h_one (i := 7) (by kernel_rfl) rfl (Ent.nil _) ?_
                  (refine o_store1 (evv rfl) (evv rfl) (by rfl) (by rfl) (by rfl) ?_); refine o_nil ?_
                  refine h_done (by kernel_rfl) (Ent.nil _) ?_
                  exact c_cut (⟨(ra, re), hra, hrs⟩, (by assumption)) (by repeat (first | exact trivial | refine ⟨rfl, ?_⟩ | refine envsub_v rfl (by first | rfl | (refine int_eq ?_; first | omega | (simp; omega) | (simp; done)) | (refine bool_eq ?_; first | (simp [*]; done) | (simp; done)) | (refine str_eq ?_; simp; done) | (refine ptr_eq ?_; omega) | fail) ?_)) (Lay.ent)
                · (refine o_litS rfl (by rfl) inferInstance (by rfl) rfl (fun _ => ?_)); refine o_nil ?_
                  refine h_one (i := 1) (by kernel_rfl) rfl (Ent.nil _) ?_
                  (refine o_give (g_load (evv rfl) (by rfl) (by rfl)) rfl rfl ?_); refine o_nil ?_
                  refine h_one (i := 5) (by kernel_rfl) rfl (Ent.nil _) ?_
                  (refine o_appF (evv rfl) (evv rfl) (by rfl) (by rfl) (by rfl) (by (try simp only [bsOf, List.length_append, List.length_cons, List.length_nil, List.length_take, List.length_drop, List.length_map, List.length_range]); omega) rfl (fun _ => ?_)); refine o_nil ?_
                  (refine h_give (i := 6) (by kernel_rfl) rfl (g_fld (evv rfl)) rfl rfl ?_)
                  refine h_one (i := 7) (by kernel_rfl) rfl (Ent.nil _) ?_
                  (refine o_store1 (evv rfl) (evv rfl) (by rfl) (by rfl) (by rfl) ?_); refine o_nil ?_
                  refine h_done (by kernel_rfl) (Ent.nil _) ?_
                  exact c_cut (⟨(ra, re), hra, hrs⟩, (by assumption)) (by repeat (first | exact trivial | refine ⟨rfl, ?_⟩ | refine envsub_v rfl (by first | rfl | (refine int_eq ?_; first | omega | (simp; omega) | (simp; done)) | (refine bool_eq ?_; first | (simp [*]; done) | (simp; done)) | (refine str_eq ?_; simp; done) | (refine ptr_eq ?_; omega) | fail) ?_)) (Lay.ent)
            rintro ⟨⟨⟨a', e'⟩, hx1, hx2⟩, nv'⟩
            dsimp only [List.cons_append, List.nil_append] at hx1 hx2 ⊢
            rw [hx2] at hT
            refine c_blk ?_
            refine c_code ?_
            refine r_region (id := 16) ?_
            refine o_give (g_move (evv rfl)) rfl rfl ?_
            refine o_giveN (g_bin (evv rfl) (evv rfl) (by rfl)) (by simp only [inR]; omega) rfl ?_
            refine o_give (g_assign (evv rfl)) rfl rfl ?_
            refine o_nil ?_
            refine c_loop ((k + 1, acc ++ [digG ⟨b.drop a, e⟩]), (a', e'), nv') ?_ ?_ (by repeat (first | exact trivial | refine ⟨rfl, ?_⟩ | refine envsub_v rfl (by first | rfl | (refine int_eq ?_; first | omega | (simp; omega) | (simp; done)) | (refine bool_eq ?_; first | (simp [*]; done) | (simp; done)) | (refine str_eq ?_; simp; done) | (refine ptr_eq ?_; omega) | fail) ?_)) ?_ <;> (try dsimp only)
            · exact ⟨hx1, by omega, by simp [hal], by rw [hm2]; exact hT⟩
            · omega
            · exact Lay.ent
          · have hkC : ¬ k < C := fun h => by have := (hCd k).2 h; omega
            have hkN : C - k = 0 := by omega
            rw [hkN, show partsT acc 0 ⟨b.drop a, e⟩ = (acc, ⟨b.drop a, e⟩) by simp [partsT, partsGo]] at hT
            rw [hT] at hr
            have hS : Step b (⟨2, [], M, acc, []⟩, a, e) := ⟨ha, ⟨by simp only [inR]; omega, by simp, by simp only [inR]; omega, by simp⟩, decN_of hr⟩
            refine r_exit rfl ?_
            refine c_blk ?_
            refine c_cut (⟨(⟨2, [], M, acc, []⟩, a, e), hS⟩, nv, .slice none 0 0) (by repeat (first | exact trivial | refine ⟨rfl, ?_⟩ | refine envsub_v rfl (by first | rfl | (refine int_eq ?_; first | omega | (simp; omega) | (simp; done)) | (refine bool_eq ?_; first | (simp [*]; done) | (simp; done)) | (refine str_eq ?_; simp; done) | (refine ptr_eq ?_; omega) | fail) ?_)) ?_
            refine (Ent.nilsl 54 34).trans ?_
            dsimp only
            exact Lay.ent (L := sl (.slice none 0 0) (frow itmC 34 54 []) :: blk q ⟨[.int .i64 2, str [], .int .i64 M, nv, .slice none 0 0], 27⟩ :: sl nv (frow digC 32 52 acc) :: blk y (rC v a e) :: blk z ⟨Z, 27⟩ :: L)
      · by_cases k3 : (numR ⟨b, 0⟩).1 = 3
        · rw [k3]
          obtain ⟨ra0, hra0⟩ : ∃ x, x = ra := ⟨_, rfl⟩
          obtain ⟨re0, hre0⟩ : ∃ x, x = re := ⟨_, rfl⟩
          rw [← hra0, ← hre0] at hrs ⊢
          rw [← hra0] at hra
          clear hra0 hre0
          have hrs0 := hrs
          have hM := numR_le ⟨b.drop ra0, re0⟩
          refine r_block ?_
          refine r_seq ?_
          refine r_region (id := 5) ?_
          refine o_give (g_bin (evv rfl) (evv rfl) (by rfl)) rfl rfl ?_
          refine o_give (g_assign (evv rfl)) rfl rfl ?_
          refine o_nil ?_
          refine c_code ?_
          refine r_cond_false rfl ?_
          refine r_seq ?_
          refine r_region (id := 8) ?_
          refine o_give (g_bin (evv rfl) (evv rfl) (by rfl)) rfl rfl ?_
          refine o_give (g_assign (evv rfl)) rfl rfl ?_
          refine o_nil ?_
          refine c_code ?_
          refine r_cond_false rfl ?_
          refine r_seq ?_
          refine r_region (id := 18) ?_
          refine o_give (g_bin (evv rfl) (evv rfl) (by rfl)) rfl rfl ?_
          refine o_give (g_assign (evv rfl)) rfl rfl ?_
          refine o_nil ?_
          refine c_code ?_
          refine r_cond_true rfl ?_
          refine r_seq ?_
          refine r_region (id := 19) ?_
          refine o_give (g_fld (evv rfl)) rfl rfl ?_
          refine o_store1 (evv rfl) (evv rfl) (by rfl) (by rfl) (by rfl) ?_
          refine o_nil ?_
          refine c_code ?_
          refine r_seq ?_
          refine r_region (id := 20) ?_
          refine o_give (g_move (evv rfl)) rfl rfl ?_
          (refine o_call rfl _ (Ent.refl _) (Fn.atPick (rNum_g _ (by assumption) (by assumption) _)) rfl ?_; rintro _ _ ⟨ra, re, hra, rfl, hrs, rfl⟩)
          refine o_give (g_assign (evv rfl)) rfl rfl ?_
          refine o_nil ?_
          refine c_code ?_
          refine r_seq ?_
          refine r_seq ?_
          refine r_region (id := 21) ?_
          refine o_give (g_move (evv rfl)) rfl rfl ?_
          refine o_give (g_bin (evv rfl) (evv rfl) (by rfl)) rfl rfl ?_
          refine o_nil ?_
          refine c_code ?_
          have hr : readN ⟨b, 0⟩ = (⟨3, [], 0, [], (itmsGo (min (numR ⟨b.drop ra0, re0⟩).1 65) ⟨b.drop ra, re⟩).1⟩, (itmsGo (min (numR ⟨b.drop ra0, re0⟩).1 65) ⟨b.drop ra, re⟩).2) := by
            unfold readN; dsimp only; rw [if_neg (by omega), if_neg (by omega), if_pos (by omega), hrs0, hrs]
          have hno : ¬ ((itmsGo (min (numR ⟨b.drop ra0, re0⟩).1 65) ⟨b.drop ra, re⟩).1.length ≤ 64 ∧ rises (itmsGo (min (numR ⟨b.drop ra0, re0⟩).1 65) ⟨b.drop ra, re⟩).1) → decN b = none := fun hh => decN_none hr (fun h => by
            rcases h with h | h | ⟨_, _, _, _, h5, h6⟩
            · exact absurd h.1 (show ¬ (3 : Int) = 1 by decide)
            · exact absurd h.1 (show ¬ (3 : Int) = 2 by decide)
            · exact hh ⟨h5, h6⟩)
          refine r_cond rfl (fun hbig => ?_) (fun hbig => ?_) <;> (try simp only [decide_eq_true_eq, decide_eq_false_iff_not, Bool.and_eq_true, Bool.or_eq_true, Bool.not_eq_true', Bool.and_eq_false_iff, Bool.or_eq_false_iff, Bool.not_eq_false', Bool.not_eq_true, Bool.not_eq_false, Bool.true_eq_false, Bool.false_eq_true, Int.not_lt, Int.not_le, not_and, not_or, ne_eq] at hbig)
          · have hd := hno (fun h => by have := h.1; rw [itmsGo_len] at this; omega)
            have hMz : decM b = zeroNode := by rw [decM, hd]; rfl
            rw [hMz, hd]
            refine r_seq ?_
            refine r_region (id := 22) ?_
            refine o_give (v := agg [(Go.Value.int Go.IntKind.i64 0), (Go.Value.string { data := #[] }), (Go.Value.int Go.IntKind.i64 0), (Go.Value.slice none 0 0), (Go.Value.slice none 0 0)]) (g_buildC rfl (by rfl)) rfl rfl ?_
            refine o_storeW (evv rfl) (evv rfl) (by first | rfl | assumption | exact LenC.h _ | (simp [bys, *]; done) | fail) (by first | (intro _ _ _; exact bys_one _) | exact AllOne.h | (intro _ _ _ u hu; simp at hu; rcases hu with rfl | rfl | rfl | rfl | rfl | rfl | rfl | rfl <;> rfl) | fail) (by first | rfl | exact (LenC.h _).trans rfl | exact (LenC.h _).trans (LenC.h _).symm | (simp [bys, *]; done) | (simp only [bys, List.length_map, *]; rfl) | fail) ?_
            refine o_give (g_assign (evv rfl)) rfl rfl ?_
            refine o_nil ?_
            refine c_code ?_
            first | refine r_retC (rs := [.cell 2 27, .tmp 3]) rfl (by first | exact ro_agg rfl rfl (by first | rfl | exact LenC.h _ | (simp [bys, *]; done)) (ro_tmp rfl ro_nil) | exact ro_cell rfl rfl rfl (ro_tmp rfl ro_nil)) _ (((Lay.ent (L' := L)).trans hnil)) ?_ | refine c_endC (rs := [.cell 2 27, .tmp 3]) rfl (by first | exact ro_agg rfl rfl (by first | rfl | exact LenC.h _ | (simp [bys, *]; done)) (ro_tmp rfl ro_nil) | exact ro_cell rfl rfl rfl (ro_tmp rfl ro_nil)) _ (((Lay.ent (L' := L)).trans hnil)) ?_
            exact ⟨_, _, rfl, rfl⟩
          · have hmin : min (numR ⟨b.drop ra0, re0⟩).1 65 = (numR ⟨b.drop ra0, re0⟩).1 := by omega
            rw [hmin] at hr hno
            clear hrs hrs0 hmin
            generalize (numR ⟨b.drop ra0, re0⟩).1 = C at *
            have hC64 : C ≤ 64 := by omega
            refine r_skip ?_
            refine c_code ?_
            refine r_seq ?_
            refine r_region (id := 23) ?_
            refine o_give (g_assign (evv rfl)) rfl rfl ?_
            refine o_nil ?_
            refine c_code ?_
            refine r_block ?_
            refine r_loopE (σ := (Nat × List Itm) × (Nat × Int) × Value) (fun ⟨⟨k, acc⟩, ⟨a, e⟩, nv⟩ => a ≤ b.length ∧ k ≤ C ∧ acc.length = k ∧ itmsGo C ⟨b.drop ra, re⟩ = itmsT acc (C - k) ⟨b.drop a, e⟩) (fun ⟨⟨k, acc⟩, ⟨a, e⟩, nv⟩ => C - k) (fun ⟨⟨k, acc⟩, ⟨a, e⟩, nv⟩ => [(10, .v (.int .i64 k))]) [2, 4, 5, 9] (fun ⟨⟨k, acc⟩, ⟨a, e⟩, nv⟩ => blk q ⟨[.int .i64 3, str [], .int .i64 0, .slice none 0 0, nv], 27⟩ :: sl nv (frow itmC 34 54 acc) :: blk y (rC v a e) :: blk z ⟨Z, 27⟩ :: L) ((0, []), (ra, re), .slice none 0 0) (by dsimp only [pickE, pick1, lk2, Nat.reduceBEq, Nat.reduceAdd, Nat.zero_add, cond_true, cond_false] <;> exact rfl) ?_ (by repeat (first | exact trivial | refine ⟨rfl, ?_⟩ | refine envsub_v rfl (by first | rfl | (refine int_eq ?_; first | omega | (simp; omega) | (simp; done)) | (refine bool_eq ?_; first | (simp [*]; done) | (simp; done)) | (refine str_eq ?_; simp; done) | (refine ptr_eq ?_; omega) | fail) ?_)) ?_ ?_
            · exact ⟨hra, Nat.zero_le _, rfl, by simp [itmsT]⟩
            · refine (Ent.nilsl 54 34).trans ?_
              dsimp only
              exact Lay.ent (L := sl (.slice none 0 0) (frow itmC 34 54 []) :: blk q ⟨[.int .i64 3, str [], .int .i64 0, .slice none 0 0, .slice none 0 0], 27⟩ :: blk y (rC v ra re) :: blk z ⟨Z, 27⟩ :: L)
            rintro ⟨⟨k, acc⟩, ⟨a, e⟩, nv⟩ ⟨ha, hk, hal, hT⟩; dsimp only [List.cons_append, List.nil_append]
            refine r_seq ?_
            refine r_seq ?_
            refine r_region (id := 24) ?_
            refine o_give (g_move (evv rfl)) rfl rfl ?_
            refine o_give (g_move (evv rfl)) rfl rfl ?_
            refine o_giveN (g_conv TyU.h TyU.h (evv rfl)) (by simp only [inR]; omega) rfl ?_
            refine o_give (g_bin (evv rfl) (evv rfl) (by rfl)) rfl rfl ?_
            refine o_nil ?_
            refine c_code ?_
            refine r_cond rfl (fun hc => ?_) (fun hc => ?_) <;> (try simp only [decide_eq_true_eq, decide_eq_false_iff_not, Bool.and_eq_true, Bool.or_eq_true, Bool.not_eq_true', Bool.and_eq_false_iff, Bool.or_eq_false_iff, Bool.not_eq_false', Bool.not_eq_true, Bool.not_eq_false, Bool.true_eq_false, Bool.false_eq_true, Int.not_lt, Int.not_le, not_and, not_or, ne_eq] at hc)
            · obtain ⟨m, hm⟩ : ∃ m, C - k = m + 1 := ⟨C - k - 1, by omega⟩
              have hm2 : C - (k + 1) = m := by omega
              rw [hm, itmsT_step] at hT
              refine r_skip ?_
              refine c_code ?_
              refine r_seq ?_
              refine r_block ?_
              refine r_seq ?_
              refine r_region (id := 26) ?_
              refine o_give (g_move (evv rfl)) rfl rfl ?_
              (refine o_call rfl _ (Ent.refl _) (Fn.atPick (rText_g _ (by assumption) (by assumption) _ _ (by omega))) rfl ?_; rintro _ _ ⟨ra, re, hra, rfl, hrs, rfl⟩)
              refine o_give (g_assign (evv rfl)) rfl rfl ?_
              refine o_nil ?_
              refine c_code ?_
              refine r_seq ?_
              refine r_region (id := 27) ?_
              refine o_give (g_move (evv rfl)) rfl rfl ?_
              (refine o_call rfl _ (Ent.refl _) (Fn.atPick (rNum_g _ (by assumption) (by assumption) _)) rfl ?_; rintro _ _ ⟨ra, re, hra, rfl, hrs, rfl⟩)
              refine o_give (g_assign (evv rfl)) rfl rfl ?_
              refine o_nil ?_
              refine c_code ?_
              refine r_seq ?_
              refine r_seq ?_
              refine r_region (id := 28) ?_
              refine o_give (g_move (evv rfl)) rfl rfl ?_
              refine o_give (g_bin (evv rfl) (evv rfl) (by rfl)) rfl rfl ?_
              refine o_nil ?_
              refine c_code ?_
              rename_i a1 e1 h1 s1
              revert ra re
              intro a2 e2 h2 s2
              have hK := numR_le ⟨b.drop a1, e1⟩
              have hmem : (itmG ⟨b.drop a, e⟩).1 ∈ (itmsGo C ⟨b.drop ra, re⟩).1 := by rw [hT]; simp [itmsT]
              refine r_cond rfl (fun hbig2 => ?_) (fun hbig2 => ?_) <;> (try simp only [decide_eq_true_eq, decide_eq_false_iff_not, Bool.and_eq_true, Bool.or_eq_true, Bool.not_eq_true', Bool.and_eq_false_iff, Bool.or_eq_false_iff, Bool.not_eq_false', Bool.not_eq_true, Bool.not_eq_false, Bool.true_eq_false, Bool.false_eq_true, Int.not_lt, Int.not_le, not_and, not_or, ne_eq] at hbig2)
              · have hd := hno (fun h => by
                  have h3 := (rises_mem h.2 hmem).2
                  simp only [itmG, s1] at h3
                  omega)
                have hMz : decM b = zeroNode := by rw [decM, hd]; rfl
                rw [hMz, hd]
                refine r_seq ?_
                refine r_region (id := 29) ?_
                refine o_give (v := agg [(Go.Value.int Go.IntKind.i64 0), (Go.Value.string { data := #[] }), (Go.Value.int Go.IntKind.i64 0), (Go.Value.slice none 0 0), (Go.Value.slice none 0 0)]) (g_buildC rfl (by rfl)) rfl rfl ?_
                refine o_storeW (evv rfl) (evv rfl) (by first | rfl | assumption | exact LenC.h _ | (simp [bys, *]; done) | fail) (by first | (intro _ _ _; exact bys_one _) | exact AllOne.h | (intro _ _ _ u hu; simp at hu; rcases hu with rfl | rfl | rfl | rfl | rfl | rfl | rfl | rfl <;> rfl) | fail) (by first | rfl | exact (LenC.h _).trans rfl | exact (LenC.h _).trans (LenC.h _).symm | (simp [bys, *]; done) | (simp only [bys, List.length_map, *]; rfl) | fail) ?_
                refine o_give (g_assign (evv rfl)) rfl rfl ?_
                refine o_nil ?_
                refine c_code ?_
                first | refine r_retC (rs := [.cell 2 27, .tmp 3]) rfl (by first | exact ro_agg rfl rfl (by first | rfl | exact LenC.h _ | (simp [bys, *]; done)) (ro_tmp rfl ro_nil) | exact ro_cell rfl rfl rfl (ro_tmp rfl ro_nil)) _ (((Lay.ent (L' := L)).trans hnil)) ?_ | refine c_endC (rs := [.cell 2 27, .tmp 3]) rfl (by first | exact ro_agg rfl rfl (by first | rfl | exact LenC.h _ | (simp [bys, *]; done)) (ro_tmp rfl ro_nil) | exact ro_cell rfl rfl rfl (ro_tmp rfl ro_nil)) _ (((Lay.ent (L' := L)).trans hnil)) ?_
                exact ⟨_, _, rfl, rfl⟩
              · have hI : itmG ⟨b.drop a, e⟩ = (⟨(textR 16 ⟨b.drop a, e⟩).1, ((numR ⟨b.drop a1, e1⟩).1 : Int), digG ⟨b.drop a2, e2⟩⟩, (digestR ⟨b.drop a2, e2⟩).2) := by
                  simp only [itmG, s1, s2, show min (numR ⟨b.drop a1, e1⟩).1 9 = (numR ⟨b.drop a1, e1⟩).1 by omega]
                rw [hI] at hT
                repeat (first | refine r_seq ?_ | refine c_code ?_ | refine c_blk ?_ | refine r_block ?_ | refine r_skip ?_)
                refine r_cutE (σ := {x : Nat × Int // x.1 ≤ b.length ∧ (digestR ⟨b.drop a2, e2⟩).2 = ⟨b.drop x.1, x.2⟩} × Value) (fun (x, nv') => []) [2, 4, 5, 9, 10, 11, 12, 58, 59, 60, 61, 64, 65, 66, 67, 68, 69, 70] (fun (x, nv') => blk q ⟨[.int .i64 3, str [], .int .i64 0, .slice none 0 0, nv'], 27⟩ :: sl nv' (frow itmC 34 54 (acc ++ [⟨(textR 16 ⟨b.drop a, e⟩).1, ((numR ⟨b.drop a1, e1⟩).1 : Int), digG ⟨b.drop a2, e2⟩⟩])) :: blk y (rC v x.1.1 x.1.2) :: blk z ⟨Z, 27⟩ :: L) (by dsimp only [pickE, pick1, lk2, Nat.reduceBEq, Nat.reduceAdd, Nat.zero_add, cond_true, cond_false] <;> exact rfl) ?_ ?_
                · refine r_held (id := 30) [] Mixed.h ?_
                  (refine h_give (i := 0) (by kernel_rfl) rfl (g_fld (evv rfl)) rfl rfl ?_)
                  (refine h_give (i := 2) (by kernel_rfl) rfl (g_move (evv rfl)) rfl rfl ?_)
                  (refine h_give (i := 3) (by kernel_rfl) rfl (g_move (evv rfl)) rfl rfl ?_)
                  (refine h_giveN (i := 4) (by kernel_rfl) rfl (g_conv TyU.h TyU.h (evv rfl)) (by simp only [inR]; omega) rfl ?_)
                  (refine h_give (i := 5) (by kernel_rfl) rfl (g_move (evv rfl)) rfl rfl ?_)
                  refine h_two (i := 1) (j := 6) (by kernel_rfl) rfl rfl (Ent.nil _) ?_ ?_
                  · (refine o_give (g_load (evv rfl) (by rfl) (by rfl)) rfl rfl ?_); refine o_nil ?_
                    refine h_one (i := 6) (by kernel_rfl) rfl (Ent.nil _) ?_
                    ((refine o_call rfl _ (Ent.refl _) (Fn.atPick (rDigest_g _ (by assumption) (by assumption) _)) rfl ?_; rintro _ _ ⟨ra, re, hra, rfl, hrs, rfl⟩)); refine o_nil ?_
                    refine h_one (i := 7) (by kernel_rfl) rfl (Ent.nil _) ?_
                    (refine o_give (g_buildX (is := [0, 1, 2]) rfl rfl (show cellsL _ = ((Go.Value.string { data := #[] }) :: (Go.Value.int Go.IntKind.i64 0) :: bys (List.replicate 32 0)) from rfl)) rfl rfl ?_); refine o_nil ?_
                    refine h_one (i := 8) (by kernel_rfl) rfl (Ent.nil _) ?_
                    (refine o_litS rfl (by rfl) inferInstance (by rfl) rfl (fun _ => ?_)); refine o_nil ?_
                    refine h_one (i := 9) (by kernel_rfl) rfl (Ent.nil _) ?_
                    (refine o_appF (evv rfl) (evv rfl) (by rfl) (by rfl) (by rfl) (by (try simp only [bsOf, List.length_append, List.length_cons, List.length_nil, List.length_take, List.length_drop, List.length_map, List.length_range]); omega) rfl (fun _ => ?_)); refine o_nil ?_
                    (refine h_give (i := 10) (by kernel_rfl) rfl (g_fld (evv rfl)) rfl rfl ?_)
                    refine h_one (i := 11) (by kernel_rfl) rfl (Ent.nil _) ?_
                    (refine o_store1 (evv rfl) (evv rfl) (by rfl) (by rfl) (by rfl) ?_); refine o_nil ?_
                    refine h_done (by kernel_rfl) (Ent.nil _) ?_
                    exact c_cut (⟨(ra, re), hra, hrs⟩, (by assumption)) (by repeat (first | exact trivial | refine ⟨rfl, ?_⟩ | refine envsub_v rfl (by first | rfl | (refine int_eq ?_; first | omega | (simp; omega) | (simp; done)) | (refine bool_eq ?_; first | (simp [*]; done) | (simp; done)) | (refine str_eq ?_; simp; done) | (refine ptr_eq ?_; omega) | fail) ?_)) (Lay.ent)
                  · ((refine o_call rfl _ (Ent.refl _) (Fn.atPick (rDigest_g _ (by assumption) (by assumption) _)) rfl ?_; rintro _ _ ⟨ra, re, hra, rfl, hrs, rfl⟩)); refine o_nil ?_
                    refine h_two (i := 1) (j := 7) (by kernel_rfl) rfl rfl (Ent.nil _) ?_ ?_
                    · (refine o_give (g_load (evv rfl) (by rfl) (by rfl)) rfl rfl ?_); refine o_nil ?_
                      refine h_one (i := 7) (by kernel_rfl) rfl (Ent.nil _) ?_
                      (refine o_give (g_buildX (is := [0, 1, 2]) rfl rfl (show cellsL _ = ((Go.Value.string { data := #[] }) :: (Go.Value.int Go.IntKind.i64 0) :: bys (List.replicate 32 0)) from rfl)) rfl rfl ?_); refine o_nil ?_
                      refine h_one (i := 8) (by kernel_rfl) rfl (Ent.nil _) ?_
                      (refine o_litS rfl (by rfl) inferInstance (by rfl) rfl (fun _ => ?_)); refine o_nil ?_
                      refine h_one (i := 9) (by kernel_rfl) rfl (Ent.nil _) ?_
                      (refine o_appF (evv rfl) (evv rfl) (by rfl) (by rfl) (by rfl) (by (try simp only [bsOf, List.length_append, List.length_cons, List.length_nil, List.length_take, List.length_drop, List.length_map, List.length_range]); omega) rfl (fun _ => ?_)); refine o_nil ?_
                      (refine h_give (i := 10) (by kernel_rfl) rfl (g_fld (evv rfl)) rfl rfl ?_)
                      refine h_one (i := 11) (by kernel_rfl) rfl (Ent.nil _) ?_
                      (refine o_store1 (evv rfl) (evv rfl) (by rfl) (by rfl) (by rfl) ?_); refine o_nil ?_
                      refine h_done (by kernel_rfl) (Ent.nil _) ?_
                      exact c_cut (⟨(ra, re), hra, hrs⟩, (by assumption)) (by repeat (first | exact trivial | refine ⟨rfl, ?_⟩ | refine envsub_v rfl (by first | rfl | (refine int_eq ?_; first | omega | (simp; omega) | (simp; done)) | (refine bool_eq ?_; first | (simp [*]; done) | (simp; done)) | (refine str_eq ?_; simp; done) | (refine ptr_eq ?_; omega) | fail) ?_)) (Lay.ent)
                    · (refine o_give (g_buildX (is := [0, 1, 2]) rfl rfl (show cellsL _ = ((Go.Value.string { data := #[] }) :: (Go.Value.int Go.IntKind.i64 0) :: bys (List.replicate 32 0)) from rfl)) rfl rfl ?_); refine o_nil ?_
                      refine h_two (i := 1) (j := 8) (by kernel_rfl) rfl rfl (Ent.nil _) ?_ ?_
                      · (refine o_give (g_load (evv rfl) (by rfl) (by rfl)) rfl rfl ?_); refine o_nil ?_
                        refine h_one (i := 8) (by kernel_rfl) rfl (Ent.nil _) ?_
                        (refine o_litS rfl (by rfl) inferInstance (by rfl) rfl (fun _ => ?_)); refine o_nil ?_
                        refine h_one (i := 9) (by kernel_rfl) rfl (Ent.nil _) ?_
                        (refine o_appF (evv rfl) (evv rfl) (by rfl) (by rfl) (by rfl) (by (try simp only [bsOf, List.length_append, List.length_cons, List.length_nil, List.length_take, List.length_drop, List.length_map, List.length_range]); omega) rfl (fun _ => ?_)); refine o_nil ?_
                        (refine h_give (i := 10) (by kernel_rfl) rfl (g_fld (evv rfl)) rfl rfl ?_)
                        refine h_one (i := 11) (by kernel_rfl) rfl (Ent.nil _) ?_
                        (refine o_store1 (evv rfl) (evv rfl) (by rfl) (by rfl) (by rfl) ?_); refine o_nil ?_
                        refine h_done (by kernel_rfl) (Ent.nil _) ?_
                        exact c_cut (⟨(ra, re), hra, hrs⟩, (by assumption)) (by repeat (first | exact trivial | refine ⟨rfl, ?_⟩ | refine envsub_v rfl (by first | rfl | (refine int_eq ?_; first | omega | (simp; omega) | (simp; done)) | (refine bool_eq ?_; first | (simp [*]; done) | (simp; done)) | (refine str_eq ?_; simp; done) | (refine ptr_eq ?_; omega) | fail) ?_)) (Lay.ent)
                      · (refine o_litS rfl (by rfl) inferInstance (by rfl) rfl (fun _ => ?_)); refine o_nil ?_
                        refine h_one (i := 1) (by kernel_rfl) rfl (Ent.nil _) ?_
                        (refine o_give (g_load (evv rfl) (by rfl) (by rfl)) rfl rfl ?_); refine o_nil ?_
                        refine h_one (i := 9) (by kernel_rfl) rfl (Ent.nil _) ?_
                        (refine o_appF (evv rfl) (evv rfl) (by rfl) (by rfl) (by rfl) (by (try simp only [bsOf, List.length_append, List.length_cons, List.length_nil, List.length_take, List.length_drop, List.length_map, List.length_range]); omega) rfl (fun _ => ?_)); refine o_nil ?_
                        (refine h_give (i := 10) (by kernel_rfl) rfl (g_fld (evv rfl)) rfl rfl ?_)
                        refine h_one (i := 11) (by kernel_rfl) rfl (Ent.nil _) ?_
                        (refine o_store1 (evv rfl) (evv rfl) (by rfl) (by rfl) (by rfl) ?_); refine o_nil ?_
                        refine h_done (by kernel_rfl) (Ent.nil _) ?_
                        exact c_cut (⟨(ra, re), hra, hrs⟩, (by assumption)) (by repeat (first | exact trivial | refine ⟨rfl, ?_⟩ | refine envsub_v rfl (by first | rfl | (refine int_eq ?_; first | omega | (simp; omega) | (simp; done)) | (refine bool_eq ?_; first | (simp [*]; done) | (simp; done)) | (refine str_eq ?_; simp; done) | (refine ptr_eq ?_; omega) | fail) ?_)) (Lay.ent)
                rintro ⟨⟨⟨a', e'⟩, hx1, hx2⟩, nv'⟩
                dsimp only [List.cons_append, List.nil_append] at hx1 hx2 ⊢
                rw [hx2] at hT
                refine c_blk ?_
                refine c_code ?_
                refine r_region (id := 25) ?_
                refine o_give (g_move (evv rfl)) rfl rfl ?_
                refine o_giveN (g_bin (evv rfl) (evv rfl) (by rfl)) (by simp only [inR]; omega) rfl ?_
                refine o_give (g_assign (evv rfl)) rfl rfl ?_
                refine o_nil ?_
                refine c_loop ((k + 1, acc ++ [⟨(textR 16 ⟨b.drop a, e⟩).1, ((numR ⟨b.drop a1, e1⟩).1 : Int), digG ⟨b.drop a2, e2⟩⟩]), (a', e'), nv') ?_ ?_ (by repeat (first | exact trivial | refine ⟨rfl, ?_⟩ | refine envsub_v rfl (by first | rfl | (refine int_eq ?_; first | omega | (simp; omega) | (simp; done)) | (refine bool_eq ?_; first | (simp [*]; done) | (simp; done)) | (refine str_eq ?_; simp; done) | (refine ptr_eq ?_; omega) | fail) ?_)) ?_ <;> (try dsimp only)
                · exact ⟨hx1, by omega, by simp [hal], by rw [hm2]; exact hT⟩
                · omega
                · exact Lay.ent
            · have hkN : C - k = 0 := by omega
              rw [hkN, show itmsT acc 0 ⟨b.drop a, e⟩ = (acc, ⟨b.drop a, e⟩) by simp [itmsT, itmsGo]] at hT
              rw [hT] at hr
              have hS : Step b (⟨3, [], 0, [], acc⟩, a, e) := ⟨ha, by have := readN_ok ⟨b, 0⟩; rw [hr] at this; exact this, decN_of hr⟩
              refine r_exit rfl ?_
              refine c_blk ?_
              refine c_cut (⟨(⟨3, [], 0, [], acc⟩, a, e), hS⟩, .slice none 0 0, nv) (by repeat (first | exact trivial | refine ⟨rfl, ?_⟩ | refine envsub_v rfl (by first | rfl | (refine int_eq ?_; first | omega | (simp; omega) | (simp; done)) | (refine bool_eq ?_; first | (simp [*]; done) | (simp; done)) | (refine str_eq ?_; simp; done) | (refine ptr_eq ?_; omega) | fail) ?_)) ?_
              refine (Ent.nilsl 52 32).trans ?_
              dsimp only
              exact Lay.ent (L := sl (.slice none 0 0) (frow digC 32 52 []) :: blk q ⟨[.int .i64 3, str [], .int .i64 0, .slice none 0 0, nv], 27⟩ :: sl nv (frow itmC 34 54 acc) :: blk y (rC v a e) :: blk z ⟨Z, 27⟩ :: L)
        · have hne : ∀ {n : NodeS}, n.kind = ((min (numR ⟨b, 0⟩).1 9 : Nat) : Int) → ¬ nodeOk n := fun hk h => by rcases h with h | h | h <;> have := h.1 <;> omega
          have hr : readN ⟨b, 0⟩ = (⟨((min (numR ⟨b, 0⟩).1 9 : Nat) : Int), [], 0, [], []⟩, (numR ⟨b, 0⟩).2) := by
            unfold readN; dsimp only; rw [if_neg (by omega), if_neg (by omega), if_neg (by omega)]
          have hd := decN_none hr (hne rfl)
          have hS : Step b (zeroNode, ra, re) := ⟨hra, ⟨by simp only [inR, zeroNode]; omega, by simp [zeroNode], by simp only [inR, zeroNode]; omega, by simp [zeroNode]⟩, by rw [hd, if_neg (fun h => absurd h.2.2 (show ¬ nodeOk zeroNode by decide))]⟩
          refine r_block ?_
          refine r_seq ?_
          refine r_region (id := 5) ?_
          refine o_give (g_bin (evv rfl) (evv rfl) (by rfl)) rfl rfl ?_
          refine o_give (g_assign (evv rfl)) rfl rfl ?_
          refine o_nil ?_
          refine c_code ?_
          rw [decide_eq_false (show ¬ ((numR ⟨b, 0⟩).1 : Int) = 1 by omega)]
          refine r_cond_false rfl ?_
          refine r_seq ?_
          refine r_region (id := 8) ?_
          refine o_give (g_bin (evv rfl) (evv rfl) (by rfl)) rfl rfl ?_
          refine o_give (g_assign (evv rfl)) rfl rfl ?_
          refine o_nil ?_
          refine c_code ?_
          rw [decide_eq_false (show ¬ ((numR ⟨b, 0⟩).1 : Int) = 2 by omega)]
          refine r_cond_false rfl ?_
          refine r_seq ?_
          refine r_region (id := 18) ?_
          refine o_give (g_bin (evv rfl) (evv rfl) (by rfl)) rfl rfl ?_
          refine o_give (g_assign (evv rfl)) rfl rfl ?_
          refine o_nil ?_
          refine c_code ?_
          rw [decide_eq_false (show ¬ ((numR ⟨b, 0⟩).1 : Int) = 3 by omega)]
          refine r_cond_false rfl ?_
          refine r_skip ?_
          refine c_blk ?_
          refine c_cut (⟨(zeroNode, ra, re), hS⟩, .slice none 0 0, .slice none 0 0) (by repeat (first | exact trivial | refine ⟨rfl, ?_⟩ | refine envsub_v rfl (by first | rfl | (refine int_eq ?_; first | omega | (simp; omega) | (simp; done)) | (refine bool_eq ?_; first | (simp [*]; done) | (simp; done)) | (refine str_eq ?_; simp; done) | (refine ptr_eq ?_; omega) | fail) ?_)) ?_
          refine hnil.trans ?_
          dsimp only [zeroNode, nodV]
          exact Lay.ent (L := sl (.slice none 0 0) (frow digC 32 52 []) :: sl (.slice none 0 0) (frow itmC 34 54 []) :: blk q ⟨[.int .i64 0, str [], .int .i64 0, .slice none 0 0, .slice none 0 0], 27⟩ :: blk y (rC v ra re) :: blk z ⟨Z, 27⟩ :: L)
  · rintro ⟨⟨⟨n, a, e⟩, ha, hok, hd⟩, pv, iv⟩
    dsimp only [List.cons_append, List.nil_append] at ha hok hd ⊢
    have hnil : ∀ {A : List Atom}, Ent A (sl (.slice none 0 0) (frow digC 32 52 []) :: sl (.slice none 0 0) (frow itmC 34 54 []) :: A) := fun {A} => (Ent.nilsl 54 34).trans (Ent.nilsl 52 32)
    have hno : ¬ (e = 0 ∧ (b.drop a).length = 0 ∧ nodeOk n) → decN b = none := fun h => hd.trans (if_neg h)
    have hMz : decN b = none → decM b = zeroNode := fun h => by rw [decM, h]; rfl
    refine c_code ?_
    refine r_seq ?_
    refine r_seq ?_
    refine r_region (id := 31) ?_
    refine o_give (g_move (evv rfl)) rfl rfl ?_
    refine o_give (g_nil (evv rfl)) rfl rfl ?_
    refine o_give (g_fld (evv rfl)) rfl rfl ?_
    refine o_give (g_load (evv rfl) (by rfl) (by rfl)) rfl rfl ?_
    refine o_give (g_bin (evv rfl) (evv rfl) (by rfl)) rfl rfl ?_
    refine o_give (g_move (evv rfl)) rfl rfl ?_
    refine o_lazy rfl (fun hg => g_move (by first | exact evv rfl | exact evg rfl (by rw [hp]; rfl) | exact evg rfl hp | exact evg rfl hg | exact evg rfl (by first | (simp_all; done) | (simp [*]; done) | fail) | fail)) rfl rfl ?_
    by_cases h0 : e = 0
    · subst h0
      simp only [decide_true, Bool.not_true, Bool.not_false]
      refine o_sure (t := 88) rfl rfl ?_
      refine o_gyes rfl ?_
      (refine o_call rfl _ (Ent.refl _) (Fn.atPick (rLeft_g _ (by assumption) (by assumption) _)) rfl ?_; rintro _ _ ⟨rfl, rfl⟩)
      refine o_gyes rfl ?_
      refine o_give (g_bin (evv rfl) (evv rfl) (by rfl)) rfl rfl ?_
      refine o_give (g_pick (b := false) (evv rfl) (fun h => by cases h) (fun _ => (evv rfl))) rfl rfl ?_
      refine o_give (g_move (evv rfl)) rfl rfl ?_
      refine o_lazy rfl (fun hg => g_loadF (evv rfl) (by rfl) (by rfl)) rfl rfl ?_
      by_cases hl : (b.drop a).length = 0
      · have hl2 : ((b.drop a).length : Int) = 0 := by omega
        rw [decide_eq_true hl2]
        refine o_sure (t := 93) rfl rfl ?_
        refine o_gyes rfl ?_
        (refine o_call rfl _ (Ent.refl _) (RCheckN_c _ _ _ _ (by assumption)) rfl ?_; rintro _ _ ⟨rfl, hLz⟩; obtain rfl := hLz.symm; clear hLz)
        refine o_gyes rfl ?_
        refine o_give (g_not (evv rfl)) rfl rfl ?_
        refine o_give (g_pick (b := false) (evv rfl) (fun h => by cases h) (fun _ => (evv rfl))) rfl rfl ?_
        refine o_nil ?_
        refine c_code ?_
        refine r_cond rfl (fun hn => ?_) (fun hn => ?_) <;> (try simp only [decide_eq_true_eq, decide_eq_false_iff_not, Bool.and_eq_true, Bool.or_eq_true, Bool.not_eq_true', Bool.and_eq_false_iff, Bool.or_eq_false_iff, Bool.not_eq_false', Bool.not_eq_true, Bool.not_eq_false, Bool.true_eq_false, Bool.false_eq_true, Int.not_lt, Int.not_le, not_and, not_or, ne_eq] at hn)
        · have hd := hno (fun h => by exact hn h.2.2)
          rw [hMz hd, hd]
          refine r_seq ?_
          refine r_region (id := 32) ?_
          refine o_give (v := agg [(Go.Value.int Go.IntKind.i64 0), (Go.Value.string { data := #[] }), (Go.Value.int Go.IntKind.i64 0), (Go.Value.slice none 0 0), (Go.Value.slice none 0 0)]) (g_buildC rfl (by rfl)) rfl rfl ?_
          refine o_storeW (evv rfl) (evv rfl) (by first | rfl | assumption | exact LenC.h _ | (simp [bys, *]; done) | fail) (by first | (intro _ _ _; exact bys_one _) | exact AllOne.h | (intro _ _ _ u hu; simp at hu; rcases hu with rfl | rfl | rfl | rfl | rfl | rfl | rfl | rfl <;> rfl) | fail) (by first | rfl | exact (LenC.h _).trans rfl | exact (LenC.h _).trans (LenC.h _).symm | (simp [bys, *]; done) | (simp only [bys, List.length_map, *]; rfl) | fail) ?_
          refine o_give (g_assign (evv rfl)) rfl rfl ?_
          refine o_nil ?_
          refine c_code ?_
          first | refine r_retC (rs := [.cell 2 27, .tmp 3]) rfl (by first | exact ro_agg rfl rfl (by first | rfl | exact LenC.h _ | (simp [bys, *]; done)) (ro_tmp rfl ro_nil) | exact ro_cell rfl rfl rfl (ro_tmp rfl ro_nil)) _ (((Lay.ent (L' := L)).trans hnil)) ?_ | refine c_endC (rs := [.cell 2 27, .tmp 3]) rfl (by first | exact ro_agg rfl rfl (by first | rfl | exact LenC.h _ | (simp [bys, *]; done)) (ro_tmp rfl ro_nil) | exact ro_cell rfl rfl rfl (ro_tmp rfl ro_nil)) _ (((Lay.ent (L' := L)).trans hnil)) ?_
          exact ⟨_, _, rfl, rfl⟩
        · have hd : decN b = some n := hd.trans (if_pos ⟨rfl, hl, hn⟩)
          have hM : decM b = n := by rw [decM, hd]; rfl
          rw [hM, hd]
          refine r_skip ?_
          refine c_code ?_
          refine r_seq ?_
          refine r_region (id := 33) ?_
          refine o_give (g_loadF (evv rfl) (by rfl) (by rfl)) rfl rfl ?_
          refine o_storeW (evv rfl) (evv rfl) (by first | rfl | assumption | exact LenC.h _ | (simp [bys, *]; done) | fail) (by first | (intro _ _ _; exact bys_one _) | exact AllOne.h | (intro _ _ _ u hu; simp at hu; rcases hu with rfl | rfl | rfl | rfl | rfl | rfl | rfl | rfl <;> rfl) | fail) (by first | rfl | exact (LenC.h _).trans rfl | exact (LenC.h _).trans (LenC.h _).symm | (simp [bys, *]; done) | (simp only [bys, List.length_map, *]; rfl) | fail) ?_
          refine o_give (g_assign (evv rfl)) rfl rfl ?_
          refine o_nil ?_
          refine c_code ?_
          first | refine r_retC (rs := [.cell 2 27, .tmp 3]) rfl (by first | exact ro_agg rfl rfl (by first | rfl | exact LenC.h _ | (simp [bys, *]; done)) (ro_tmp rfl ro_nil) | exact ro_cell rfl rfl rfl (ro_tmp rfl ro_nil)) _ ((Lay.ent (L' := sl pv (frow digC 32 52 n.parts) :: sl iv (frow itmC 34 54 n.items) :: L))) ?_ | refine c_endC (rs := [.cell 2 27, .tmp 3]) rfl (by first | exact ro_agg rfl rfl (by first | rfl | exact LenC.h _ | (simp [bys, *]; done)) (ro_tmp rfl ro_nil) | exact ro_cell rfl rfl rfl (ro_tmp rfl ro_nil)) _ ((Lay.ent (L' := sl pv (frow digC 32 52 n.parts) :: sl iv (frow itmC 34 54 n.items) :: L))) ?_
          exact ⟨_, _, rfl, rfl⟩
      · have hd := hno (fun h => hl h.2.1)
        rw [decide_eq_false (show ¬ ((b.drop a).length : Int) = 0 by omega)]
        refine o_lazy (v0 := undef) rfl (fun hg => absurd hg (by first | (simp; done) | fail)) rfl rfl ?_
        refine o_lazy (v0 := undef) rfl (fun hg => absurd hg (by first | (simp; done) | fail)) rfl rfl ?_
        refine o_give (g_pick (b := true) (evv rfl) (fun _ => (evv rfl)) (fun h => by cases h)) rfl rfl ?_
        refine o_nil ?_
        refine c_code ?_
        refine r_cond_true rfl ?_
        refine r_seq ?_
        rw [hMz hd, hd]
        refine r_region (id := 32) ?_
        refine o_give (v := agg [(Go.Value.int Go.IntKind.i64 0), (Go.Value.string { data := #[] }), (Go.Value.int Go.IntKind.i64 0), (Go.Value.slice none 0 0), (Go.Value.slice none 0 0)]) (g_buildC rfl (by rfl)) rfl rfl ?_
        refine o_storeW (evv rfl) (evv rfl) (by first | rfl | assumption | exact LenC.h _ | (simp [bys, *]; done) | fail) (by first | (intro _ _ _; exact bys_one _) | exact AllOne.h | (intro _ _ _ u hu; simp at hu; rcases hu with rfl | rfl | rfl | rfl | rfl | rfl | rfl | rfl <;> rfl) | fail) (by first | rfl | exact (LenC.h _).trans rfl | exact (LenC.h _).trans (LenC.h _).symm | (simp [bys, *]; done) | (simp only [bys, List.length_map, *]; rfl) | fail) ?_
        refine o_give (g_assign (evv rfl)) rfl rfl ?_
        refine o_nil ?_
        refine c_code ?_
        first | refine r_retC (rs := [.cell 2 27, .tmp 3]) rfl (by first | exact ro_agg rfl rfl (by first | rfl | exact LenC.h _ | (simp [bys, *]; done)) (ro_tmp rfl ro_nil) | exact ro_cell rfl rfl rfl (ro_tmp rfl ro_nil)) _ (((Lay.ent (L' := L)).trans hnil)) ?_ | refine c_endC (rs := [.cell 2 27, .tmp 3]) rfl (by first | exact ro_agg rfl rfl (by first | rfl | exact LenC.h _ | (simp [bys, *]; done)) (ro_tmp rfl ro_nil) | exact ro_cell rfl rfl rfl (ro_tmp rfl ro_nil)) _ (((Lay.ent (L' := L)).trans hnil)) ?_
        exact ⟨_, _, rfl, rfl⟩
    · have hd := hno (fun h => h0 h.1)
      rw [decide_eq_false h0]
      refine o_lazy (v0 := undef) rfl (fun hg => absurd hg (by first | (simp; done) | fail)) rfl rfl ?_
      refine o_lazy (v0 := undef) rfl (fun hg => absurd hg (by first | (simp; done) | fail)) rfl rfl ?_
      refine o_give (g_pick (b := true) (evv rfl) (fun _ => (evv rfl)) (fun h => by cases h)) rfl rfl ?_
      refine o_give (g_move (evv rfl)) rfl rfl ?_
      refine o_lazy rfl (fun hg => g_loadF (evv rfl) (by rfl) (by rfl)) rfl rfl ?_
      refine o_lazy (v0 := undef) rfl (fun hg => absurd hg (by first | (simp; done) | fail)) rfl rfl ?_
      refine o_lazy (v0 := undef) rfl (fun hg => absurd hg (by first | (simp; done) | fail)) rfl rfl ?_
      refine o_give (g_pick (b := true) (evv rfl) (fun _ => (evv rfl)) (fun h => by cases h)) rfl rfl ?_
      refine o_nil ?_
      refine c_code ?_
      refine r_cond_true rfl ?_
      refine r_seq ?_
      rw [hMz hd, hd]
      refine r_region (id := 32) ?_
      refine o_give (v := agg [(Go.Value.int Go.IntKind.i64 0), (Go.Value.string { data := #[] }), (Go.Value.int Go.IntKind.i64 0), (Go.Value.slice none 0 0), (Go.Value.slice none 0 0)]) (g_buildC rfl (by rfl)) rfl rfl ?_
      refine o_storeW (evv rfl) (evv rfl) (by first | rfl | assumption | exact LenC.h _ | (simp [bys, *]; done) | fail) (by first | (intro _ _ _; exact bys_one _) | exact AllOne.h | (intro _ _ _ u hu; simp at hu; rcases hu with rfl | rfl | rfl | rfl | rfl | rfl | rfl | rfl <;> rfl) | fail) (by first | rfl | exact (LenC.h _).trans rfl | exact (LenC.h _).trans (LenC.h _).symm | (simp [bys, *]; done) | (simp only [bys, List.length_map, *]; rfl) | fail) ?_
      refine o_give (g_assign (evv rfl)) rfl rfl ?_
      refine o_nil ?_
      refine c_code ?_
      first | refine r_retC (rs := [.cell 2 27, .tmp 3]) rfl (by first | exact ro_agg rfl rfl (by first | rfl | exact LenC.h _ | (simp [bys, *]; done)) (ro_tmp rfl ro_nil) | exact ro_cell rfl rfl rfl (ro_tmp rfl ro_nil)) _ (((Lay.ent (L' := L)).trans hnil)) ?_ | refine c_endC (rs := [.cell 2 27, .tmp 3]) rfl (by first | exact ro_agg rfl rfl (by first | rfl | exact LenC.h _ | (simp [bys, *]; done)) (ro_tmp rfl ro_nil) | exact ro_cell rfl rfl rfl (ro_tmp rfl ro_nil)) _ (((Lay.ent (L' := L)).trans hnil)) ?_
      exact ⟨_, _, rfl, rfl⟩
end VK
