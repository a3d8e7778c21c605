/- same, and WireReads, walked. Conditions: few bytes. -/
import Derived.Test.YtdgenjdphmclhaaInNil
import Derived.Test.YtdgenjdphmclhaaV2
namespace VK
open Go Go.Proofs
set_option linter.unusedSimpArgs false
set_option linter.unusedVariables false
set_option maxRecDepth 100000
set_option maxHeartbeats 40000000
theorem same_c (F : List Atom) (i r : Nat) (u : Value) (B : List UInt8) (a : Nat) (e : Int) (f : Fld) (hf : f.ok) (ha : a ≤ B.length) (hB : B.length ≤ 140737488355000) [rd : Rd F u (mrow by8 5 B)] :
    Fn Try.prog 25 [.pointer (some ⟨i, 0, none⟩), .pointer (some ⟨r, 0, none⟩), agg (fldC f)] (inA i ⟨B.drop a, e⟩ :: blk r (rC u a e) :: F) fun v L' => ∃ x : { x : Nat × Int // x.1 ≤ B.length }, v = .bool true ∧ L' = inA i ⟨B.drop x.1.1, x.1.2⟩ :: blk r (rC u x.1.1 x.1.2) :: F := by
  have hf' := hf
  obtain ⟨h1, h2, h3⟩ := hf'
  refine fn_intro Try.func25 rfl Try.ntmps25 rfl (fun W0 => ?_)
  simp only [argE]
  refine r_seq ?_
  refine r_region (id := 0) ?_
  refine o_boxA (evv rfl) rfl (fun _ => ?_)
  refine o_give (g_assign (evv rfl)) rfl rfl ?_
  refine o_nil ?_
  refine c_code ?_
  refine r_seq ?_
  refine r_region (id := 1) ?_
  refine o_give (g_assign (evv rfl)) rfl rfl ?_
  refine o_nil ?_
  refine c_code ?_
  refine r_seq ?_
  refine r_seq ?_
  refine r_region (id := 2) ?_
  refine o_give (g_loadF (evv rfl) (by rfl) (by rfl)) rfl rfl ?_
  (refine o_call rfl _ (Ent.refl _) (kind_c _ _ (by assumption)) rfl ?_; rintro _ _ ⟨rfl, hLz⟩; obtain rfl := hLz.symm; clear hLz)
  refine o_nil ?_
  refine c_code ?_
  rename_i b
  repeat (first | refine r_seq ?_ | refine c_code ?_ | refine c_blk ?_ | refine r_skip ?_)
  refine r_cutE (σ := { x : Nat × Int // x.1 ≤ B.length }) (fun x => [(7, .v (.bool true))]) [0,1] (fun x => inA i ⟨B.drop x.1.1, x.1.2⟩ :: blk r (rC u x.1.1 x.1.2) :: F) (by dsimp only [pickE, pick1, lk2, Nat.reduceBEq, Nat.reduceAdd, Nat.zero_add, cond_true, cond_false] <;> exact rfl) ?_ ?_
  · refine r_block ?_
    refine r_seq ?_
    refine r_region (id := 4) ?_
    refine o_give (g_bin (evv rfl) (evv rfl) (by rfl)) rfl rfl ?_
    refine o_give (g_assign (evv rfl)) rfl rfl ?_
    refine o_nil ?_
    refine c_code ?_
    refine r_cond rfl (fun hc => ?_) (fun hc => ?_) <;> (try simp only [decide_eq_true_eq, decide_eq_false_iff_not, Bool.and_eq_true, Bool.or_eq_true, Bool.not_eq_true', Bool.and_eq_false_iff, Bool.or_eq_false_iff, Bool.not_eq_false', Bool.not_eq_true, Bool.not_eq_false, Bool.true_eq_false, Bool.false_eq_true, Int.not_lt, Int.not_le, not_and, not_or, ne_eq] at hc)
    · refine r_region (id := 5) ?_
      refine o_give (g_move (evv rfl)) rfl rfl ?_
      (refine o_call rfl _ (Ent.refl _) inNum_l rfl ?_; rintro _ _ ⟨rfl, rfl⟩)
      refine o_give (g_move (evv rfl)) rfl rfl ?_
      (refine o_call rfl _ (Ent.refl _) (Fn.atPick (rNum_g _ (by assumption) (by assumption) _)) rfl ?_; rintro _ _ ⟨ra, re, hra, rfl, hrs, rfl⟩)
      refine o_give (g_bin (evv rfl) (evv rfl) (by rfl)) rfl rfl ?_
      refine o_give (g_assign (evv rfl)) rfl rfl ?_
      refine o_nil ?_
      refine c_blk ?_
      simp only [hrs, decide_true]
      exact c_cut ⟨(ra, re), hra⟩ (by repeat (first | exact trivial | refine ⟨rfl, ?_⟩ | refine envsub_v rfl (by first | rfl | (refine int_eq ?_; first | omega | (simp; omega) | (simp; done)) | (refine bool_eq ?_; first | (simp [*]; done) | (simp; done)) | (refine str_eq ?_; simp; done) | (refine ptr_eq ?_; omega) | fail) ?_)) (Lay.ent)
    · refine r_seq ?_
      refine r_region (id := 6) ?_
      refine o_give (g_bin (evv rfl) (evv rfl) (by rfl)) rfl rfl ?_
      refine o_give (g_assign (evv rfl)) rfl rfl ?_
      refine o_nil ?_
      refine c_code ?_
      refine r_cond rfl (fun hd => ?_) (fun hd => ?_) <;> (try simp only [decide_eq_true_eq, decide_eq_false_iff_not, Bool.and_eq_true, Bool.or_eq_true, Bool.not_eq_true', Bool.and_eq_false_iff, Bool.or_eq_false_iff, Bool.not_eq_false', Bool.not_eq_true, Bool.not_eq_false, Bool.true_eq_false, Bool.false_eq_true, Int.not_lt, Int.not_le, not_and, not_or, ne_eq] at hd)
      · refine r_region (id := 7) ?_
        refine o_give (g_move (evv rfl)) rfl rfl ?_
        (refine o_call rfl _ (Ent.refl _) inInt_l rfl ?_; rintro _ _ ⟨rfl, rfl⟩)
        refine o_give (g_move (evv rfl)) rfl rfl ?_
        (refine o_call rfl _ (Ent.refl _) (Fn.atPick (rIntN_g _ (by assumption) (by assumption) _)) rfl ?_; rintro _ _ ⟨ra, re, hra, rfl, hrs, rfl⟩)
        refine o_give (g_bin (evv rfl) (evv rfl) (by rfl)) rfl rfl ?_
        refine o_give (g_assign (evv rfl)) rfl rfl ?_
        refine o_nil ?_
        refine c_blk ?_
        simp only [hrs, decide_true]
        exact c_cut ⟨(ra, re), hra⟩ (by repeat (first | exact trivial | refine ⟨rfl, ?_⟩ | refine envsub_v rfl (by first | rfl | (refine int_eq ?_; first | omega | (simp; omega) | (simp; done)) | (refine bool_eq ?_; first | (simp [*]; done) | (simp; done)) | (refine str_eq ?_; simp; done) | (refine ptr_eq ?_; omega) | fail) ?_)) (Lay.ent)
      · refine r_seq ?_
        refine r_region (id := 8) ?_
        refine o_give (g_bin (evv rfl) (evv rfl) (by rfl)) rfl rfl ?_
        refine o_give (g_assign (evv rfl)) rfl rfl ?_
        refine o_nil ?_
        refine c_code ?_
        refine r_cond rfl (fun he => ?_) (fun he => ?_) <;> (try simp only [decide_eq_true_eq, decide_eq_false_iff_not, Bool.and_eq_true, Bool.or_eq_true, Bool.not_eq_true', Bool.and_eq_false_iff, Bool.or_eq_false_iff, Bool.not_eq_false', Bool.not_eq_true, Bool.not_eq_false, Bool.true_eq_false, Bool.false_eq_true, Int.not_lt, Int.not_le, not_and, not_or, ne_eq] at he)
        · repeat (first | refine r_seq ?_ | refine c_code ?_ | refine c_blk ?_ | refine r_block ?_ | refine r_skip ?_)
          refine r_held (id := 9) [blk b ⟨fldC f, 31⟩] Mixed.h ?_
          refine h_give (i := 0) (by kernel_rfl) rfl (g_move (evv rfl)) rfl rfl ?_
          refine h_give (i := 1) (by kernel_rfl) rfl (g_fld (evv rfl)) rfl rfl ?_
          refine h_give (i := 2) (by kernel_rfl) rfl (g_load (evv rfl) (by rfl) (by rfl)) rfl rfl ?_
          refine h_give (i := 4) (by kernel_rfl) rfl (g_move (evv rfl)) rfl rfl ?_
          refine h_give (i := 5) (by kernel_rfl) rfl (g_fld (evv rfl)) rfl rfl ?_
          refine h_give (i := 6) (by kernel_rfl) rfl (g_load (evv rfl) (by rfl) (by rfl)) rfl rfl ?_
          refine h_one (i := 3) (by kernel_rfl) rfl (Lay.ent) ?_
          (refine o_call rfl _ (Ent.refl _) (inText_l _ (by omega)) rfl ?_; rintro _ _ ⟨rfl, rfl⟩)
          refine o_nil ?_
          refine h_one (i := 7) (by kernel_rfl) rfl (Lay.ent) ?_
          (refine o_call rfl _ (Ent.refl _) (Fn.atPick (rText_g _ (by assumption) (by assumption) _ _ (by omega))) rfl ?_; rintro _ _ ⟨ra, re, hra, rfl, hrs, rfl⟩)
          refine o_nil ?_
          refine h_give (i := 8) (by kernel_rfl) rfl (g_binS (evv rfl) (evv rfl) (by rfl)) rfl rfl ?_
          refine h_give (i := 9) (by kernel_rfl) rfl (g_assign (evv rfl)) rfl rfl ?_
          refine h_done (by kernel_rfl) (Lay.ent) ?_
          refine c_blk ?_
          simp only [hrs, decide_true]
          exact c_cut ⟨(ra, re), hra⟩ (by repeat (first | exact trivial | refine ⟨rfl, ?_⟩ | refine envsub_v rfl (by first | rfl | (refine int_eq ?_; first | omega | (simp; omega) | (simp; done)) | (refine bool_eq ?_; first | (simp [*]; done) | (simp; done)) | (refine str_eq ?_; simp; done) | (refine ptr_eq ?_; omega) | fail) ?_)) (Lay.ent)
        · refine r_seq ?_
          refine r_region (id := 10) ?_
          refine o_give (g_bin (evv rfl) (evv rfl) (by rfl)) rfl rfl ?_
          refine o_give (g_assign (evv rfl)) rfl rfl ?_
          refine o_nil ?_
          refine c_code ?_
          refine r_cond rfl (fun hg => ?_) (fun hg => ?_) <;> (try simp only [decide_eq_true_eq, decide_eq_false_iff_not, Bool.and_eq_true, Bool.or_eq_true, Bool.not_eq_true', Bool.and_eq_false_iff, Bool.or_eq_false_iff, Bool.not_eq_false', Bool.not_eq_true, Bool.not_eq_false, Bool.true_eq_false, Bool.false_eq_true, Int.not_lt, Int.not_le, not_and, not_or, ne_eq] at hg)
          · refine r_region (id := 11) ?_
            refine o_give (g_move (evv rfl)) rfl rfl ?_
            (refine o_call rfl _ (Ent.refl _) inFlag_l rfl ?_; rintro _ _ ⟨rfl, rfl⟩)
            refine o_give (g_move (evv rfl)) rfl rfl ?_
            (refine o_call rfl _ (Ent.refl _) (Fn.atPick (rFlag_g _ (by assumption) (by assumption) _)) rfl ?_; rintro _ _ ⟨ra, re, hra, rfl, hrs, rfl⟩)
            refine o_give (g_binB TyU.h (evv rfl) (evv rfl) (by rfl)) rfl rfl ?_
            refine o_give (g_assign (evv rfl)) rfl rfl ?_
            refine o_nil ?_
            refine c_blk ?_
            simp only [hrs, decide_true]
            exact c_cut ⟨(ra, re), hra⟩ (by repeat (first | exact trivial | refine ⟨rfl, ?_⟩ | refine envsub_v rfl (by first | rfl | (refine int_eq ?_; first | omega | (simp; omega) | (simp; done)) | (refine bool_eq ?_; first | (simp [*]; done) | (simp; done)) | (refine str_eq ?_; simp; done) | (refine ptr_eq ?_; omega) | fail) ?_)) (Lay.ent)
          · refine r_region (id := 3) ?_
            refine o_give (g_move (evv rfl)) rfl rfl ?_
            (refine o_call rfl _ (Ent.refl _) inDigest_l rfl ?_; rintro _ _ ⟨rfl, rfl⟩)
            refine o_give (g_move (evv rfl)) rfl rfl ?_
            (refine o_call rfl _ (Ent.refl _) (Fn.atPick (rDigest_g _ (by assumption) (by assumption) _)) rfl ?_; rintro _ _ ⟨ra, re, hra, rfl, hrs, rfl⟩)
            refine o_give (g_eqB (by kernel_rfl) (evv rfl) (evv rfl) (by rfl) (by rfl)) rfl rfl ?_
            refine o_give (g_assign (evv rfl)) rfl rfl ?_
            refine o_nil ?_
            refine c_blk ?_
            simp only [hrs, decide_true]
            exact c_cut ⟨(ra, re), hra⟩ (by repeat (first | exact trivial | refine ⟨rfl, ?_⟩ | refine envsub_v rfl (by first | rfl | (refine int_eq ?_; first | omega | (simp; omega) | (simp; done)) | (refine bool_eq ?_; first | (simp [*]; done) | (simp; done)) | (refine str_eq ?_; simp; done) | (refine ptr_eq ?_; omega) | fail) ?_)) (Lay.ent)
  rintro ⟨⟨a, e⟩, ha⟩
  dsimp only [List.cons_append, List.nil_append] at ha ⊢
  have hdl : (B.drop a).length = B.length - a := by simp
  by_cases h0 : e = 0
  · subst h0
    repeat (first | refine r_seq ?_ | refine c_code ?_ | refine c_blk ?_ | refine r_block ?_ | refine r_skip ?_)
    refine r_held (id := 12) (inA i ⟨B.drop a, 0⟩ :: blk r (rC u a 0) :: F) Mixed.h ?_
    refine h_give (i := 0) (by kernel_rfl) rfl (g_move (evv rfl)) rfl rfl ?_
    refine h_give (i := 1) (by kernel_rfl) rfl (g_move (evv rfl)) rfl rfl ?_
    refine h_sure (i := 2) (by kernel_rfl) rfl rfl (g_move (evv rfl)) rfl rfl ?_
    refine h_sure (i := 4) (by kernel_rfl) rfl rfl (g_move (evv rfl)) rfl rfl ?_
    refine h_sure (i := 5) (by kernel_rfl) rfl rfl (g_nil (evv rfl)) rfl rfl ?_
    refine h_sure (i := 6) (by kernel_rfl) rfl rfl (g_fld (evv rfl)) rfl rfl ?_
    refine h_sure (i := 7) (by kernel_rfl) rfl rfl (g_load (evv rfl) (by rfl) (by rfl)) rfl rfl ?_
    refine h_one (i := 3) (by kernel_rfl) rfl (Ent.refl _) ?_
    refine o_gyes rfl ?_
    (refine o_call rfl _ (Ent.refl _) inErr_l rfl ?_; rintro _ _ ⟨rfl, rfl⟩)
    refine o_nil ?_
    refine h_sure (i := 8) (by kernel_rfl) rfl rfl (g_bin (evv rfl) (evv rfl) (by rfl)) rfl rfl ?_
    refine h_give (i := 9) (by kernel_rfl) rfl (g_pick (b := true) (evv rfl) (fun _ => (evv rfl)) (fun h => by cases h)) rfl rfl ?_
    simp only [decide_true]
    refine h_give (i := 10) (by kernel_rfl) rfl (g_move (evv rfl)) rfl rfl ?_
    refine h_sure (i := 11) (by kernel_rfl) rfl rfl (g_move (evv rfl)) rfl rfl ?_
    refine h_sure (i := 13) (by kernel_rfl) rfl rfl (g_move (evv rfl)) rfl rfl ?_
    refine h_one (i := 12) (by kernel_rfl) rfl (Ent.refl _) ?_
    refine o_gyes rfl ?_
    (refine o_call rfl _ (Ent.refl _) inLeft_l rfl ?_; rintro _ _ ⟨rfl, rfl⟩)
    refine o_nil ?_
    refine h_one (i := 14) (by kernel_rfl) rfl (Ent.refl _) ?_
    refine o_gyes rfl ?_
    (refine o_call rfl _ (Ent.refl _) (Fn.atPick (rLeft_g _ (by assumption) (by assumption) _)) rfl ?_; rintro _ _ ⟨rfl, rfl⟩)
    refine o_nil ?_
    refine h_sure (i := 15) (by kernel_rfl) rfl rfl (g_bin (evv rfl) (evv rfl) (by rfl)) rfl rfl ?_
    refine h_give (i := 16) (by kernel_rfl) rfl (g_pick (b := true) (evv rfl) (fun _ => (evv rfl)) (fun h => by cases h)) rfl rfl ?_
    simp only [decide_true]
    refine h_give (i := 17) (by kernel_rfl) rfl (g_move (evv rfl)) rfl rfl ?_
    refine h_sure (i := 18) (by kernel_rfl) rfl rfl (g_move (evv rfl)) rfl rfl ?_
    refine h_sure (i := 20) (by kernel_rfl) rfl rfl (g_move (evv rfl)) rfl rfl ?_
    refine h_sure (i := 21) (by kernel_rfl) rfl rfl (g_nil (evv rfl)) rfl rfl ?_
    refine h_sure (i := 22) (by kernel_rfl) rfl rfl (g_fld (evv rfl)) rfl rfl ?_
    refine h_sure (i := 23) (by kernel_rfl) rfl rfl (g_load (evv rfl) (by rfl) (by rfl)) rfl rfl ?_
    refine h_sure (i := 24) (by kernel_rfl) rfl rfl (g_bin (evv rfl) (evv rfl) (by rfl)) rfl rfl ?_
    refine h_one (i := 19) (by kernel_rfl) rfl (Ent.refl _) ?_
    refine o_gyes rfl ?_
    (refine o_call rfl _ (Ent.refl _) inEnd_l rfl ?_; rintro _ _ ⟨rfl, rfl⟩)
    refine o_nil ?_
    refine h_sure (i := 25) (by kernel_rfl) rfl rfl (g_move (evv rfl)) rfl rfl ?_
    simp only [decide_true]
    refine h_sure (i := 26) (by kernel_rfl) rfl rfl (g_move (evv rfl)) rfl rfl ?_
    refine h_one (i := 27) (by kernel_rfl) rfl (Ent.refl _) ?_
    refine o_gyes rfl ?_
    (refine o_call rfl _ (Ent.refl _) (Fn.atPick (rLeft_g _ (by assumption) (by assumption) _)) rfl ?_; rintro _ _ ⟨rfl, rfl⟩)
    refine o_nil ?_
    refine h_sure (i := 28) (by kernel_rfl) rfl rfl (g_bin (evv rfl) (evv rfl) (by rfl)) rfl rfl ?_
    refine h_sure (i := 29) (by kernel_rfl) rfl rfl (g_pick (b := true) (evv rfl) (fun _ => (evv rfl)) (fun h => by cases h)) rfl rfl ?_
    refine h_sure (i := 30) (by kernel_rfl) rfl rfl (g_binB TyU.h (evv rfl) (evv rfl) (by rfl)) rfl rfl ?_
    refine h_give (i := 31) (by kernel_rfl) rfl (g_pick (b := true) (evv rfl) (fun _ => (evv rfl)) (fun h => by cases h)) rfl rfl ?_
    refine h_give (i := 32) (by kernel_rfl) rfl (g_assign (evv rfl)) rfl rfl ?_
    refine h_done (by kernel_rfl) (Ent.refl _) ?_
    refine c_code ?_
    first | refine r_ret (rs := [.tmp 6]) rfl rfl _ (Ent.refl _) ?_ | refine c_end (rs := [.tmp 6]) rfl rfl _ (Ent.refl _) ?_
    exact ⟨⟨(a, 0), ha⟩, bool_eq (by generalize (B.drop a).length = n; simp), rfl⟩
  · repeat (first | refine r_seq ?_ | refine c_code ?_ | refine c_blk ?_ | refine r_block ?_ | refine r_skip ?_)
    refine r_held (id := 12) (inA i ⟨B.drop a, e⟩ :: blk r (rC u a e) :: F) Mixed.h ?_
    refine h_give (i := 0) (by kernel_rfl) rfl (g_move (evv rfl)) rfl rfl ?_
    refine h_give (i := 1) (by kernel_rfl) rfl (g_move (evv rfl)) rfl rfl ?_
    refine h_sure (i := 2) (by kernel_rfl) rfl rfl (g_move (evv rfl)) rfl rfl ?_
    refine h_sure (i := 4) (by kernel_rfl) rfl rfl (g_move (evv rfl)) rfl rfl ?_
    refine h_sure (i := 5) (by kernel_rfl) rfl rfl (g_nil (evv rfl)) rfl rfl ?_
    refine h_sure (i := 6) (by kernel_rfl) rfl rfl (g_fld (evv rfl)) rfl rfl ?_
    refine h_sure (i := 7) (by kernel_rfl) rfl rfl (g_load (evv rfl) (by rfl) (by rfl)) rfl rfl ?_
    refine h_one (i := 3) (by kernel_rfl) rfl (Ent.refl _) ?_
    refine o_gyes rfl ?_
    (refine o_call rfl _ (Ent.refl _) inErr_l rfl ?_; rintro _ _ ⟨rfl, rfl⟩)
    refine o_nil ?_
    refine h_sure (i := 8) (by kernel_rfl) rfl rfl (g_bin (evv rfl) (evv rfl) (by rfl)) rfl rfl ?_
    refine h_give (i := 9) (by kernel_rfl) rfl (g_pick (b := true) (evv rfl) (fun _ => (evv rfl)) (fun h => by cases h)) rfl rfl ?_
    simp only [decide_true]
    refine h_give (i := 10) (by kernel_rfl) rfl (g_move (evv rfl)) rfl rfl ?_
    refine h_sure (i := 11) (by kernel_rfl) rfl rfl (g_move (evv rfl)) rfl rfl ?_
    refine h_sure (i := 13) (by kernel_rfl) rfl rfl (g_move (evv rfl)) rfl rfl ?_
    refine h_one (i := 12) (by kernel_rfl) rfl (Ent.refl _) ?_
    refine o_gyes rfl ?_
    (refine o_call rfl _ (Ent.refl _) inLeft_l rfl ?_; rintro _ _ ⟨rfl, rfl⟩)
    refine o_nil ?_
    refine h_one (i := 14) (by kernel_rfl) rfl (Ent.refl _) ?_
    refine o_gyes rfl ?_
    (refine o_call rfl _ (Ent.refl _) (Fn.atPick (rLeft_g _ (by assumption) (by assumption) _)) rfl ?_; rintro _ _ ⟨rfl, rfl⟩)
    refine o_nil ?_
    refine h_sure (i := 15) (by kernel_rfl) rfl rfl (g_bin (evv rfl) (evv rfl) (by rfl)) rfl rfl ?_
    refine h_give (i := 16) (by kernel_rfl) rfl (g_pick (b := true) (evv rfl) (fun _ => (evv rfl)) (fun h => by cases h)) rfl rfl ?_
    simp only [decide_true]
    refine h_give (i := 17) (by kernel_rfl) rfl (g_move (evv rfl)) rfl rfl ?_
    refine h_sure (i := 18) (by kernel_rfl) rfl rfl (g_move (evv rfl)) rfl rfl ?_
    refine h_sure (i := 20) (by kernel_rfl) rfl rfl (g_move (evv rfl)) rfl rfl ?_
    refine h_sure (i := 21) (by kernel_rfl) rfl rfl (g_nil (evv rfl)) rfl rfl ?_
    refine h_sure (i := 22) (by kernel_rfl) rfl rfl (g_fld (evv rfl)) rfl rfl ?_
    refine h_sure (i := 23) (by kernel_rfl) rfl rfl (g_load (evv rfl) (by rfl) (by rfl)) rfl rfl ?_
    refine h_sure (i := 24) (by kernel_rfl) rfl rfl (g_bin (evv rfl) (evv rfl) (by rfl)) rfl rfl ?_
    refine h_one (i := 19) (by kernel_rfl) rfl (Ent.refl _) ?_
    refine o_gyes rfl ?_
    (refine o_call rfl _ (Ent.refl _) inEnd_l rfl ?_; rintro _ _ ⟨rfl, rfl⟩)
    refine o_nil ?_
    refine h_sure (i := 25) (by kernel_rfl) rfl rfl (g_move (evv rfl)) rfl rfl ?_
    simp only [decide_eq_false h0]
    refine h_lazy (i := 26) (by kernel_rfl) rfl rfl (fun hg => g_move (by first | exact evv rfl | exact evg rfl (by rw [hp]; rfl) | exact evg rfl hp | exact evg rfl hg | exact evg rfl (by first | (simp_all; done) | (simp [*]; done) | fail) | fail)) rfl rfl ?_
    refine h_one (i := 27) (by kernel_rfl) rfl (Ent.refl _) ?_
    refine o_lazy (v0 := undef) rfl (fun hg => absurd hg (by first | (simp; done) | fail)) rfl rfl ?_
    refine o_nil ?_
    refine h_lazy (i := 28) (by kernel_rfl) rfl (v0 := undef) rfl (fun hg => absurd hg (by first | (simp; done) | fail)) rfl rfl ?_
    refine h_sure (i := 29) (by kernel_rfl) rfl rfl (g_pick (b := false) (evv rfl) (fun h => by cases h) (fun _ => (evv rfl))) rfl rfl ?_
    refine h_sure (i := 30) (by kernel_rfl) rfl rfl (g_binB TyU.h (evv rfl) (evv rfl) (by rfl)) rfl rfl ?_
    refine h_give (i := 31) (by kernel_rfl) rfl (g_pick (b := true) (evv rfl) (fun _ => (evv rfl)) (fun h => by cases h)) rfl rfl ?_
    refine h_give (i := 32) (by kernel_rfl) rfl (g_assign (evv rfl)) rfl rfl ?_
    refine h_done (by kernel_rfl) (Ent.refl _) ?_
    refine c_code ?_
    first | refine r_ret (rs := [.tmp 6]) rfl rfl _ (Ent.refl _) ?_ | refine c_end (rs := [.tmp 6]) rfl rfl _ (Ent.refl _) ?_
    exact ⟨⟨(a, e), ha⟩, bool_eq (by simp [h0]), rfl⟩
theorem same_l {L F : List Atom} {i r : Nat} {u : Value} {B : List UInt8} {a : Nat} {e : Int} {f : Fld} (hL : L = inA i ⟨B.drop a, e⟩ :: blk r (rC u a e) :: F) (hf : f.ok) (ha : a ≤ B.length) (hB : B.length ≤ 140737488355000) [rd : Rd F u (mrow by8 5 B)] :
    Fn Try.prog 25 [.pointer (some ⟨i, 0, none⟩), .pointer (some ⟨r, 0, none⟩), agg (fldC f)] L fun v L' => ∃ x : { x : Nat × Int // x.1 ≤ B.length }, v = .bool true ∧ L' = inA i ⟨B.drop x.1.1, x.1.2⟩ :: blk r (rC u x.1.1 x.1.2) :: F := by
  subst hL
  exact same_c F i r u B a e f hf ha hB
theorem WireReads_c (W : World) (v w : Value) (B : List UInt8) (l : List Fld) (hB : B.length ≤ 1048576) (hok : ∀ f ∈ l, f.ok) [rd : Rd [base W] v (mrow by8 5 B)] [rl : Rd [base W] w (frow fldC 4 31 l)] :
    Fn Try.prog 7 [v, w] [base W] fun w L' => w = .bool true ∧ L' = [base W] := by
  have hB' : B.length ≤ 140737488355000 := by omega
  refine fn_lenF rl fun hll => ?_
  have hll : l.length ≤ 2 ^ 63 - 1 := hll
  refine fn_intro Try.func7 rfl Try.ntmps7 rfl (fun W0 => ?_)
  simp only [argE]
  refine r_seq ?_
  refine r_region (id := 0) ?_
  refine o_give (g_assign (evv rfl)) rfl rfl ?_
  refine o_nil ?_
  refine c_code ?_
  refine r_seq ?_
  refine r_seq ?_
  refine r_region (id := 1) ?_
  (refine o_call rfl _ (Ent.refl _) (awake_c _) rfl ?_; rintro _ _ ⟨rfl, hLz⟩; obtain rfl := hLz.symm; clear hLz)
  refine o_give (g_not (evv rfl)) rfl rfl ?_
  refine o_nil ?_
  refine c_code ?_
  refine r_cond_false rfl ?_
  refine r_skip ?_
  refine c_code ?_
  refine r_seq ?_
  refine r_region (id := 3) ?_
  refine o_lit0 by8 (by rfl) rfl (fun _ => ?_)
  refine o_give (g_move (evv rfl)) rfl rfl ?_
  refine o_appM (evv rfl) (evv rfl) (by rfl) (by rfl) (by rfl) (by (try simp only [bsOf, List.length_append, List.length_cons, List.length_nil]); omega) rfl (fun _ => ?_)
  refine o_litB rfl (by rfl) (by omega) (by first | omega | exact Int.ofNat_le.2 (Nat.le_of_lt_succ (Nat.or_lt_two_pow (n := 8) (by omega) (by omega))) | exact Int.ofNat_le.2 (Nat.le_of_lt_succ (Nat.xor_lt_two_pow (n := 8) (by omega) (by omega)))) rfl (fun _ => ?_)
  refine o_appM (evv rfl) (evv rfl) (by rfl) (by rfl) (by rfl) (by (try simp only [bsOf, List.length_append, List.length_cons, List.length_nil]); omega) rfl (fun _ => ?_)
  refine o_give (g_assign (evv rfl)) rfl rfl ?_
  refine o_nil ?_
  refine c_code ?_
  refine r_seq ?_
  rename_i room0 lit room
  rw [show [] ++ B ++ [UInt8.ofNat (Int.toNat 5)] = B ++ [5] from rfl]
  have hrl : (B ++ [(5 : UInt8)]).length = B.length + 1 := by simp
  have het : List.take (B.length - 0) (List.drop 0 (B ++ [(5 : UInt8)])) = B.drop 0 := by simp
  have hel : (List.take (B.length - 0) (List.drop 0 (B ++ [(5 : UInt8)]))).length ≤ 140737488355000 := by rw [het]; exact hB'
  refine r_region (id := 4) ?_
  refine o_give (g_move (evv rfl)) rfl rfl ?_
  refine o_give (g_move (evv rfl)) rfl rfl ?_
  refine o_give (g_lenM (evv rfl)) rfl rfl ?_
  refine o_give (g_subM (evv rfl) _ _ bnd_none (bnd_some (evv rfl) rfl) (by rfl) (by omega) (by omega)) rfl rfl ?_
  (refine o_call rfl _ (Ent.refl _) (Read_c _ _ _ (by (try simp only [bsOf, List.length_append, List.length_cons, List.length_nil]); omega)) rfl ?_; rintro _ _ ⟨i, rfl, rfl⟩)
  refine o_give (g_assign (evv rfl)) rfl rfl ?_
  refine o_nil ?_
  refine c_code ?_
  refine r_seq ?_
  refine r_seq ?_
  rw [het]
  refine r_region (id := 5) ?_
  refine o_give (g_assign (evv rfl)) rfl rfl ?_
  refine o_nil ?_
  refine c_code ?_
  refine r_block ?_
  refine r_loopE (σ := Nat × List UInt8) (fun ⟨k, m⟩ => k ≤ m.length ∧ m.length = B.length + 1) (fun ⟨k, m⟩ => m.length - k) (fun ⟨k, m⟩ => [(7, .v (.int .i64 k))]) [0, 1, 5, 6] (fun ⟨k, m⟩ => inA i ⟨B.drop 0, 0⟩ :: sl room (mrow by8 5 m) :: [base W]) (0, B ++ [5]) (by dsimp only [pickE, pick1, lk2, Nat.reduceBEq, Nat.reduceAdd, Nat.zero_add, cond_true, cond_false] <;> exact rfl) ?_ (by repeat (first | exact trivial | refine ⟨rfl, ?_⟩ | refine envsub_v rfl (by first | rfl | (refine int_eq ?_; first | omega | (simp; omega) | (simp; done)) | (refine bool_eq ?_; first | (simp [*]; done) | (simp; done)) | (refine str_eq ?_; simp; done) | (refine ptr_eq ?_; omega) | fail) ?_)) ?_ ?_
  · exact ⟨Nat.zero_le _, hrl⟩
  · exact Lay.ent
  rintro ⟨k, m⟩ ⟨hk, hm⟩; dsimp only [List.cons_append, List.nil_append]
  refine r_seq ?_
  refine r_seq ?_
  refine r_region (id := 6) ?_
  refine o_give (g_move (evv rfl)) rfl rfl ?_
  refine o_give (g_move (evv rfl)) rfl rfl ?_
  refine o_give (g_lenM (evv rfl)) rfl rfl ?_
  refine o_give (g_bin (evv rfl) (evv rfl) (by rfl)) rfl rfl ?_
  refine o_nil ?_
  refine c_code ?_
  refine r_cond rfl (fun hc => ?_) (fun hc => ?_) <;> (try simp only [decide_eq_true_eq, decide_eq_false_iff_not, Bool.and_eq_true, Bool.or_eq_true, Bool.not_eq_true', Bool.and_eq_false_iff, Bool.or_eq_false_iff, Bool.not_eq_false', Bool.not_eq_true, Bool.not_eq_false, Bool.true_eq_false, Bool.false_eq_true, Int.not_lt, Int.not_le, not_and, not_or, ne_eq] at hc)
  · have hkl : k < m.length := by omega
    refine r_skip ?_
    refine c_code ?_
    refine r_seq ?_
    refine r_block ?_
    refine r_region (id := 8) ?_
    refine o_give (g_move (evv rfl)) rfl rfl ?_
    refine o_give (g_move (evv rfl)) rfl rfl ?_
    refine o_give (g_idxMN (evv rfl) (evv rfl) (by rfl) (by first | omega | (have := of_decide_eq_true hg; omega) | (simp at hg; omega) | (simp only [List.length_set, List.length_append, List.length_cons, List.length_nil, List.length_map, List.length_take, List.length_drop, List.length_replicate]; omega))) rfl rfl ?_
    refine o_storeM (238 : UInt8) (evv rfl) (evv rfl) rfl (by rfl) hkl ?_
    refine o_nil ?_
    refine c_blk ?_
    refine c_code ?_
    refine r_region (id := 7) ?_
    refine o_give (g_move (evv rfl)) rfl rfl ?_
    refine o_giveN (g_bin (evv rfl) (evv rfl) (by rfl)) (by simp only [inR]; omega) rfl ?_
    refine o_give (g_assign (evv rfl)) rfl rfl ?_
    refine o_nil ?_
    refine c_loop (k + 1, m.set k 238) ?_ ?_ (by repeat (first | exact trivial | refine ⟨rfl, ?_⟩ | refine envsub_v rfl (by first | rfl | (refine int_eq ?_; first | omega | (simp; omega) | (simp; done)) | (refine bool_eq ?_; first | (simp [*]; done) | (simp; done)) | (refine str_eq ?_; simp; done) | (refine ptr_eq ?_; omega) | fail) ?_)) ?_ <;> (try dsimp only)
    · refine ⟨by rw [List.length_set]; omega, by rw [List.length_set]; exact hm⟩
    · rw [List.length_set]; omega
    · exact Ent.refl _
  · have hd0 : (B.drop 0).length = B.length := rfl
    refine r_exit rfl ?_
    refine c_code ?_
    refine r_seq ?_
    refine r_region (id := 9) ?_
    refine o_give (g_move (evv rfl)) rfl rfl ?_
    refine o_give (g_buildC rfl (by rfl)) rfl rfl ?_
    refine o_boxA (evv rfl) rfl (fun _ => ?_)
    refine o_give (g_assign (evv rfl)) rfl rfl ?_
    refine o_nil ?_
    refine c_code ?_
    refine r_seq ?_
    refine r_seq ?_
    rename_i r
    refine r_region (id := 10) ?_
    refine o_give (g_move (evv rfl)) rfl rfl ?_
    refine o_give (g_pnil TyU.h (evv rfl) (evv rfl) (by simp) (by rfl)) rfl rfl ?_
    refine o_give (g_move (evv rfl)) rfl rfl ?_
    refine o_gyes rfl ?_
    refine o_give (g_move (evv rfl)) rfl rfl ?_
    refine o_gyes rfl ?_
    (refine o_call rfl _ (Ent.refl _) inLeft_l rfl ?_; rintro _ _ ⟨rfl, rfl⟩)
    refine o_gyes rfl ?_
    refine o_give (g_move (evv rfl)) rfl rfl ?_
    refine o_gyes rfl ?_
    refine o_give (g_lenM (evv rfl)) rfl rfl ?_
    refine o_gyes rfl ?_
    refine o_give (g_bin (evv rfl) (evv rfl) (by rfl)) rfl rfl ?_
    refine o_give (g_pick (b := false) (evv rfl) (fun h => by cases h) (fun _ => (evv rfl))) rfl rfl ?_
    refine o_nil ?_
    refine c_code ?_
    refine r_cond rfl (fun hz => ?_) (fun hz => ?_) <;> (try simp only [decide_eq_true_eq, decide_eq_false_iff_not, Bool.and_eq_true, Bool.or_eq_true, Bool.not_eq_true', Bool.and_eq_false_iff, Bool.or_eq_false_iff, Bool.not_eq_false', Bool.not_eq_true, Bool.not_eq_false, Bool.true_eq_false, Bool.false_eq_true, Int.not_lt, Int.not_le, not_and, not_or, ne_eq] at hz)
    · exact absurd hz (by simp)
    · refine r_skip ?_
      refine c_code ?_
      refine r_seq ?_
      refine r_seq ?_
      refine r_region (id := 12) ?_
      refine o_give (g_assign (evv rfl)) rfl rfl ?_
      refine o_nil ?_
      refine c_code ?_
      refine r_block ?_
      refine r_loopE (σ := Nat × { x : Nat × Int // x.1 ≤ B.length }) (fun ⟨j, x⟩ => j ≤ l.length) (fun ⟨j, x⟩ => l.length - j) (fun ⟨j, x⟩ => [(9, .v (.int .i64 j))]) [1, 6, 8] (fun ⟨j, x⟩ => inA i ⟨B.drop x.1.1, x.1.2⟩ :: blk r (rC v x.1.1 x.1.2) :: sl room (mrow by8 5 m) :: [base W]) (0, ⟨(0, 0), Nat.zero_le _⟩) (by dsimp only [pickE, pick1, lk2, Nat.reduceBEq, Nat.reduceAdd, Nat.zero_add, cond_true, cond_false] <;> exact rfl) ?_ (by repeat (first | exact trivial | refine ⟨rfl, ?_⟩ | refine envsub_v rfl (by first | rfl | (refine int_eq ?_; first | omega | (simp; omega) | (simp; done)) | (refine bool_eq ?_; first | (simp [*]; done) | (simp; done)) | (refine str_eq ?_; simp; done) | (refine ptr_eq ?_; omega) | fail) ?_)) ?_ ?_
      · exact Nat.zero_le _
      · exact Lay.ent
      rintro ⟨j, ⟨⟨a, e⟩, ha⟩⟩ hj; (try dsimp only at hj); dsimp only [List.cons_append, List.nil_append]
      dsimp only at ha ⊢
      refine r_seq ?_
      refine r_seq ?_
      refine r_region (id := 13) ?_
      refine o_give (g_move (evv rfl)) rfl rfl ?_
      refine o_give (g_move (evv rfl)) rfl rfl ?_
      refine o_give (g_lenF (evv rfl)) rfl rfl ?_
      refine o_give (g_bin (evv rfl) (evv rfl) (by rfl)) rfl rfl ?_
      refine o_nil ?_
      refine c_code ?_
      refine r_cond rfl (fun hd => ?_) (fun hd => ?_) <;> (try simp only [decide_eq_true_eq, decide_eq_false_iff_not, Bool.and_eq_true, Bool.or_eq_true, Bool.not_eq_true', Bool.and_eq_false_iff, Bool.or_eq_false_iff, Bool.not_eq_false', Bool.not_eq_true, Bool.not_eq_false, Bool.true_eq_false, Bool.false_eq_true, Int.not_lt, Int.not_le, not_and, not_or, ne_eq] at hd)
      · have hjl : j < l.length := by omega
        have hfo := hok (l.getD j default) (by simp [hjl])
        refine r_skip ?_
        refine c_code ?_
        refine r_seq ?_
        refine r_block ?_
        refine r_seq ?_
        refine r_region (id := 15) ?_
        refine o_give (g_move (evv rfl)) rfl rfl ?_
        refine o_give (g_move (evv rfl)) rfl rfl ?_
        refine o_give (g_move (evv rfl)) rfl rfl ?_
        refine o_give (g_move (evv rfl)) rfl rfl ?_
        refine o_give (g_idxFN (evv rfl) (evv rfl) (by rfl) (by rfl) (by first | omega | (have := of_decide_eq_true hg; omega) | (simp at hg; omega) | (simp only [List.length_set, List.length_append, List.length_cons, List.length_nil, List.length_map, List.length_take, List.length_drop, List.length_replicate]; omega))) rfl rfl ?_
        refine o_give (g_loadFr (evv rfl) (by rfl) (by intro; rfl) (by rfl) (by rfl) (by first | omega | (have := of_decide_eq_true hg; omega) | (simp at hg; omega) | (simp only [List.length_set, List.length_append, List.length_cons, List.length_nil, List.length_map, List.length_take, List.length_drop, List.length_replicate]; omega))) rfl rfl ?_
        (refine o_call rfl _ (Ent.refl _) (same_l rfl (by assumption) (by assumption) (by assumption)) rfl ?_; rintro _ _ ⟨⟨⟨sa, se⟩, hsa⟩, rfl, rfl⟩)
        refine o_give (g_not (evv rfl)) rfl rfl ?_
        refine o_nil ?_
        refine c_code ?_
        refine r_cond_false rfl ?_
        refine r_skip ?_
        refine c_blk ?_
        refine c_code ?_
        refine r_region (id := 14) ?_
        refine o_give (g_move (evv rfl)) rfl rfl ?_
        refine o_giveN (g_bin (evv rfl) (evv rfl) (by rfl)) (by simp only [inR]; omega) rfl ?_
        refine o_give (g_assign (evv rfl)) rfl rfl ?_
        refine o_nil ?_
        refine c_loop (j + 1, ⟨(sa, se), hsa⟩) ?_ ?_ (by repeat (first | exact trivial | refine ⟨rfl, ?_⟩ | refine envsub_v rfl (by first | rfl | (refine int_eq ?_; first | omega | (simp; omega) | (simp; done)) | (refine bool_eq ?_; first | (simp [*]; done) | (simp; done)) | (refine str_eq ?_; simp; done) | (refine ptr_eq ?_; omega) | fail) ?_)) ?_ <;> (try dsimp only)
        · omega
        · omega
        · exact Ent.refl _
      · refine r_exit rfl ?_
        refine c_code ?_
        refine r_seq ?_
        refine r_region (id := 17) ?_
        refine o_give (g_assign (evv rfl)) rfl rfl ?_
        refine o_nil ?_
        refine c_code ?_
        refine r_seq ?_
        refine r_region (id := 18) ?_
        refine o_give (g_move (evv rfl)) rfl rfl ?_
        (refine o_call rfl _ (Ent.refl _) (nNum_c _) rfl ?_; rintro _ _ ⟨rfl, hLz⟩; obtain rfl := hLz.symm; clear hLz)
        refine o_give (g_bin (evv rfl) (evv rfl) (by rfl)) rfl rfl ?_
        refine o_give (g_move (evv rfl)) rfl rfl ?_
        refine o_gyes rfl ?_
        refine o_give (g_move (evv rfl)) rfl rfl ?_
        refine o_gyes rfl ?_
        (refine o_call rfl _ (Ent.refl _) (nText_c _ _) rfl ?_; rintro _ _ ⟨rfl, hLz⟩; obtain rfl := hLz.symm; clear hLz)
        refine o_gyes rfl ?_
        refine o_give (g_binS (evv rfl) (evv rfl) (by rfl)) rfl rfl ?_
        refine o_give (g_pick (b := true) (evv rfl) (fun _ => (evv rfl)) (fun h => by cases h)) rfl rfl ?_
        refine o_give (g_move (evv rfl)) rfl rfl ?_
        refine o_gyes rfl ?_
        refine o_give (g_move (evv rfl)) rfl rfl ?_
        refine o_gyes rfl ?_
        (refine o_call rfl _ (Ent.refl _) (nFlag_c _) rfl ?_; rintro _ _ ⟨rfl, hLz⟩; obtain rfl := hLz.symm; clear hLz)
        refine o_gyes rfl ?_
        refine o_give (g_not (evv rfl)) rfl rfl ?_
        refine o_give (g_pick (b := true) (evv rfl) (fun _ => (evv rfl)) (fun h => by cases h)) rfl rfl ?_
        refine o_give (g_move (evv rfl)) rfl rfl ?_
        refine o_gyes rfl ?_
        refine o_give (g_move (evv rfl)) rfl rfl ?_
        refine o_gyes rfl ?_
        (refine o_call rfl _ (Ent.refl _) (nErr_c _) rfl ?_; rintro _ _ ⟨rfl, hLz⟩; obtain rfl := hLz.symm; clear hLz)
        refine o_gyes rfl ?_
        refine o_give (g_bin (evv rfl) (evv rfl) (by rfl)) rfl rfl ?_
        refine o_give (g_pick (b := true) (evv rfl) (fun _ => (evv rfl)) (fun h => by cases h)) rfl rfl ?_
        refine o_give (g_move (evv rfl)) rfl rfl ?_
        refine o_gyes rfl ?_
        refine o_give (g_move (evv rfl)) rfl rfl ?_
        refine o_gyes rfl ?_
        (refine o_call rfl _ (Ent.refl _) (nLeft_c _) rfl ?_; rintro _ _ ⟨rfl, hLz⟩; obtain rfl := hLz.symm; clear hLz)
        refine o_gyes rfl ?_
        refine o_give (g_bin (evv rfl) (evv rfl) (by rfl)) rfl rfl ?_
        refine o_give (g_pick (b := true) (evv rfl) (fun _ => (evv rfl)) (fun h => by cases h)) rfl rfl ?_
        refine o_give (g_move (evv rfl)) rfl rfl ?_
        refine o_gyes rfl ?_
        refine o_give (g_move (evv rfl)) rfl rfl ?_
        refine o_gyes rfl ?_
        (refine o_call rfl _ (Ent.refl _) (nEnd_c _) rfl ?_; rintro _ _ ⟨rfl, hLz⟩; obtain rfl := hLz.symm; clear hLz)
        refine o_gyes rfl ?_
        refine o_give (g_not (evv rfl)) rfl rfl ?_
        refine o_give (g_pick (b := true) (evv rfl) (fun _ => (evv rfl)) (fun h => by cases h)) rfl rfl ?_
        refine o_give (g_assign (evv rfl)) rfl rfl ?_
        refine o_nil ?_
        refine c_code ?_
        first | refine r_ret (rs := [.tmp 4]) rfl rfl _ ((Lay.ent (L' := [base W]))) ?_ | refine c_end (rs := [.tmp 4]) rfl rfl _ ((Lay.ent (L' := [base W]))) ?_
        (refine ⟨?_, ?_⟩ <;> first | rfl | trivial | omega)
end VK
