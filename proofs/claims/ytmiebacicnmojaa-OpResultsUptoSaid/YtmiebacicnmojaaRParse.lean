/- The reference's Parse, walked. Conditions: texts of a machine's size. -/
import Derived.Test.YtmiebacicnmojaaParse
namespace VK
open Go Go.Proofs
set_option linter.unusedSimpArgs false
set_option linter.unusedVariables false
set_option maxRecDepth 100000
set_option maxHeartbeats 40000000
theorem step_c1 {acc : List (List UInt8)} {p : List UInt8} (h : 16 < p.length) : stepN acc p = none := if_pos h
theorem parse_fold {s : List UInt8} (h1 : s.length ≤ 256) (h2 : [47] <+: s) (h3 : ∀ c ∈ s, okC c) : parseR s = match foldN [] (sp (s.drop 1)) with
    | none => ([], 41)
    | some l => if 8 < l.length then ([], 42) else (l, 0) := by
  obtain ⟨t, rfl⟩ := h2
  have e : foldN [] (sp ([47] ++ t)) = foldN [] (sp t) := by
    simp only [List.singleton_append, sp, if_true, foldN, step_nil]
  exact (if_neg (by omega)).trans ((if_neg fun h => h.elim (fun h => h ⟨t, rfl⟩) (fun h => h h3)).trans (by rw [e]; rfl))
def rinv (s : List UInt8) (i from_ : Nat) (out : List (List UInt8)) : Prop :=
  (i ≤ s.length ∧ from_ ≤ i ∧ 1 ≤ from_ ∧ 47 ∉ (s.take i).drop from_ ∧ foldN out (sp (s.drop from_)) = foldN [] (sp (s.drop 1))) ∨ (i = s.length + 1 ∧ some out = foldN [] (sp (s.drop 1)))
theorem rinv_next {s : List UInt8} {i from_ : Nat} {out : List (List UInt8)} (h : rinv s i from_ out) (hi : i < s.length) (hc : s[i] ≠ 47) : rinv s (i + 1) from_ out := by
  rcases h with ⟨h1, h2, h3, h4, h5⟩ | ⟨h1, -⟩
  · refine .inl ⟨by omega, by omega, h3, ?_, h5⟩
    rw [List.take_succ_eq_append_getElem hi, List.drop_append_of_le_length (by simp; omega)]
    simp only [List.mem_append, List.mem_singleton, not_or]
    exact ⟨h4, fun e => hc e.symm⟩
  · omega
theorem rinv_piece {s : List UInt8} {i from_ : Nat} {out : List (List UInt8)} (h : rinv s i from_ out) (hi : i ≤ s.length) (hc : ∀ h : i < s.length, s[i] = 47) :
    from_ ≤ i ∧ (stepN out ((s.take i).drop from_) = none → foldN [] (sp (s.drop 1)) = none) ∧ ∀ out', stepN out ((s.take i).drop from_) = some out' → rinv s (i + 1) (i + 1) out' := by
  rcases h with ⟨h1, h2, h3, h4, h5⟩ | ⟨h1, -⟩
  · refine ⟨h2, ?_⟩
    by_cases hl : i < s.length
    · have e : s.drop from_ = (s.take i).drop from_ ++ 47 :: s.drop (i + 1) := by
        have h6 := (List.take_append_drop i s).symm
        rw [List.drop_eq_getElem_cons hl, hc hl] at h6
        conv => lhs; rw [h6]
        rw [List.drop_append_of_le_length (by simp; omega)]
      rw [e, sp_cut _ h4] at h5
      simp only [foldN] at h5
      constructor
      · intro h
        rw [h] at h5; exact h5.symm
      · intro out' h
        rw [h] at h5
        exact .inl ⟨by omega, by omega, by omega, by simp, h5⟩
    · have hl : i = s.length := by omega
      subst hl
      rw [List.take_length] at h4 ⊢
      rw [sp_one h4] at h5
      simp only [foldN] at h5
      constructor
      · intro h
        rw [h] at h5; exact h5.symm
      · intro out' h
        rw [h] at h5
        exact .inr ⟨rfl, h5⟩
  · omega
theorem RParse_c (L : List Atom) (s : List UInt8) (hs : s.length ≤ 9223372036854775806) :
    Fn Try.prog 27 [str s] L fun w L' => ∃ v, w = .tuple #[v, .int .i64 (parseR s).2] ∧ L' = sl v (mrow str 9 (parseR s).1) :: L := by
  refine fn_intro Try.func27 rfl Try.ntmps27 rfl (fun W0 => ?_)
  simp only [argE]
  refine r_seq ?_
  refine r_region (id := 0) ?_
  refine o_give (g_assign (evv rfl)) rfl rfl ?_
  refine o_give (g_assign (evv rfl)) rfl rfl ?_
  refine o_nil ?_
  refine c_code ?_
  refine r_seq ?_
  refine r_seq ?_
  refine r_region (id := 1) ?_
  refine o_give (g_move (evv rfl)) rfl rfl ?_
  refine o_give (g_lenS TyU.h (evv rfl)) rfl rfl ?_
  refine o_give (g_bin (evv rfl) (evv rfl) (by rfl)) rfl rfl ?_
  refine o_nil ?_
  refine c_code ?_
  refine r_cond rfl (fun h1 => ?_) (fun h1 => ?_) <;> (try simp only [decide_eq_true_eq, decide_eq_false_iff_not, Bool.and_eq_true, Bool.or_eq_true, Bool.not_eq_true', Bool.and_eq_false_iff, Bool.or_eq_false_iff, Bool.not_eq_false', Bool.not_eq_true, Bool.not_eq_false, Bool.true_eq_false, Bool.false_eq_true, Int.not_lt, Int.not_le, not_and, not_or, ne_eq] at h1)
  · rw [show parseR s = ([], 2) from if_pos (by omega)]
    refine r_seq ?_
    refine r_region (id := 2) ?_
    refine o_give (g_assign (evv rfl)) rfl rfl ?_
    refine o_give (g_assign (evv rfl)) rfl rfl ?_
    refine o_nil ?_
    refine c_code ?_
    first | refine r_ret (rs := [.tmp 2, .tmp 3]) rfl rfl _ ((Ent.nilM str 9)) ?_ | refine c_end (rs := [.tmp 2, .tmp 3]) rfl rfl _ ((Ent.nilM str 9)) ?_
    exact ⟨_, rfl, rfl⟩
  · have g1 : ¬ 256 < s.length := by omega
    refine r_skip ?_
    refine c_code ?_
    refine r_seq ?_
    refine r_seq ?_
    refine r_region (id := 3) ?_
    refine o_give (g_move (evv rfl)) rfl rfl ?_
    refine o_give (g_lenS TyU.h (evv rfl)) rfl rfl ?_
    refine o_give (g_bin (evv rfl) (evv rfl) (by rfl)) rfl rfl ?_
    refine o_give (g_move (evv rfl)) rfl rfl ?_
    refine o_lazy rfl (fun hg => g_move (by first | exact evv rfl | exact evg rfl (by rw [hp]; rfl) | exact evg rfl hp | exact evg rfl hg | exact evg rfl (by first | (simp_all; done) | (simp [*]; done) | fail) | fail)) rfl rfl ?_
    refine o_split (t := 15) rfl (fun h0 => ?_) (fun h0 => ?_)
    · have hn : ¬ [47] <+: s := fun h => by
        obtain ⟨t, rfl⟩ := h
        simp at h0
        omega
      rw [show parseR s = ([], 40) from (if_neg g1).trans (if_pos (.inl hn))]
      refine o_lazy (v0 := undef) rfl (fun hg => absurd hg (by first | (simp; done) | fail)) rfl rfl ?_
      refine o_lazy (v0 := undef) rfl (fun hg => absurd hg (by first | (simp; done) | fail)) rfl rfl ?_
      refine o_give (g_pick (b := true) (evv rfl) (fun _ => (evv rfl)) (fun h => by cases h)) rfl rfl ?_
      refine o_nil ?_
      refine c_code ?_
      refine r_cond_true rfl ?_
      refine r_seq ?_
      refine r_region (id := 4) ?_
      refine o_give (g_assign (evv rfl)) rfl rfl ?_
      refine o_give (g_assign (evv rfl)) rfl rfl ?_
      refine o_nil ?_
      refine c_code ?_
      first | refine r_ret (rs := [.tmp 2, .tmp 3]) rfl rfl _ ((Ent.nilM str 9)) ?_ | refine c_end (rs := [.tmp 2, .tmp 3]) rfl rfl _ ((Ent.nilM str 9)) ?_
      exact ⟨_, rfl, rfl⟩
    refine o_sure (t := 16) rfl (by rw [h0]; rfl) ?_
    have h0' : 0 < s.length := by
      have := of_decide_eq_false h0
      omega
    refine o_gyes rfl ?_
    refine o_give (g_indexSN TyU.h (evv rfl) (evv rfl) (by first | omega | (have := of_decide_eq_true hg; omega) | (simp at hg; omega) | (simp only [List.length_set, List.length_append, List.length_cons, List.length_nil, List.length_map, List.length_take, List.length_drop, List.length_replicate]; omega))) rfl rfl ?_
    refine o_gyes rfl ?_
    refine o_give (g_bin (evv rfl) (evv rfl) (by rfl)) rfl rfl ?_
    refine o_give (g_pick (b := false) (evv rfl) (fun h => by cases h) (fun _ => (evv rfl))) rfl rfl ?_
    refine o_nil ?_
    refine c_code ?_
    refine r_cond rfl (fun h2 => ?_) (fun h2 => ?_) <;> (try simp only [decide_eq_true_eq, decide_eq_false_iff_not, Bool.and_eq_true, Bool.or_eq_true, Bool.not_eq_true', Bool.and_eq_false_iff, Bool.or_eq_false_iff, Bool.not_eq_false', Bool.not_eq_true, Bool.not_eq_false, Bool.true_eq_false, Bool.false_eq_true, Int.not_lt, Int.not_le, not_and, not_or, ne_eq] at h2)
    · have hn : ¬ [47] <+: s := fun h => by
        obtain ⟨t, rfl⟩ := h
        simp at h2
      rw [show parseR s = ([], 40) from (if_neg g1).trans (if_pos (.inl hn))]
      refine r_seq ?_
      refine r_region (id := 4) ?_
      refine o_give (g_assign (evv rfl)) rfl rfl ?_
      refine o_give (g_assign (evv rfl)) rfl rfl ?_
      refine o_nil ?_
      refine c_code ?_
      first | refine r_ret (rs := [.tmp 2, .tmp 3]) rfl rfl _ ((Ent.nilM str 9)) ?_ | refine c_end (rs := [.tmp 2, .tmp 3]) rfl rfl _ ((Ent.nilM str 9)) ?_
      exact ⟨_, rfl, rfl⟩
    · have h2 : [47] <+: s := by
        cases s with
        | nil => simp at h0'
        | cons c t =>
          have : c.toNat = 47 := by simp at h2; omega
          have : c = 47 := UInt8.toNat_inj.1 this
          subst this
          exact ⟨t, rfl⟩
      refine r_skip ?_
      refine c_code ?_
      refine r_seq ?_
      refine r_seq ?_
      refine r_region (id := 5) ?_
      refine o_give (g_assign (evv rfl)) rfl rfl ?_
      refine o_nil ?_
      refine c_code ?_
      refine r_block ?_
      refine r_loopE (σ := Nat) (fun i => i ≤ s.length ∧ ∀ c ∈ s.take i, okC c) (fun i => s.length - i) (fun i => [(4, .v (.int .i64 i))]) [0] (fun i => L) 0 (by dsimp only [pickE, pick1, lk2, Nat.reduceBEq, Nat.reduceAdd, Nat.zero_add, cond_true, cond_false] <;> exact rfl) ?_ (by repeat (first | exact trivial | refine ⟨rfl, ?_⟩ | refine envsub_v rfl (by first | rfl | (refine int_eq ?_; first | omega | (simp; omega) | (simp; done)) | (refine bool_eq ?_; first | (simp [*]; done) | (simp; done)) | (refine str_eq ?_; simp; done) | (refine ptr_eq ?_; omega) | fail) ?_)) ?_ ?_
      · exact ⟨Nat.zero_le _, fun c hc => by simp at hc⟩
      · exact Ent.refl _
      rintro i ⟨hi, ha⟩; dsimp only [List.cons_append, List.nil_append]
      refine r_seq ?_
      refine r_seq ?_
      refine r_region (id := 6) ?_
      refine o_give (g_move (evv rfl)) rfl rfl ?_
      refine o_give (g_move (evv rfl)) rfl rfl ?_
      refine o_give (g_lenS TyU.h (evv rfl)) rfl rfl ?_
      refine o_give (g_bin (evv rfl) (evv rfl) (by rfl)) rfl rfl ?_
      refine o_nil ?_
      refine c_code ?_
      refine r_cond rfl (fun hc => ?_) (fun hc => ?_) <;> (try simp only [decide_eq_true_eq, decide_eq_false_iff_not, Bool.and_eq_true, Bool.or_eq_true, Bool.not_eq_true', Bool.and_eq_false_iff, Bool.or_eq_false_iff, Bool.not_eq_false', Bool.not_eq_true, Bool.not_eq_false, Bool.true_eq_false, Bool.false_eq_true, Int.not_lt, Int.not_le, not_and, not_or, ne_eq] at hc)
      · have hil : i < s.length := by omega
        have hg0 : s.getD i 0 = s[i] := by simp [List.getD_eq_getElem?_getD, hil]
        have hmem : s[i] ∈ s := List.getElem_mem hil
        have htk : s.take (i + 1) = s.take i ++ [s[i]] := List.take_succ_eq_append_getElem hil
        refine r_skip ?_
        refine c_code ?_
        refine r_seq ?_
        refine r_block ?_
        refine r_seq ?_
        refine r_region (id := 8) ?_
        refine o_give (g_move (evv rfl)) rfl rfl ?_
        refine o_give (g_move (evv rfl)) rfl rfl ?_
        refine o_give (g_indexSN TyU.h (evv rfl) (evv rfl) (by first | omega | (have := of_decide_eq_true hg; omega) | (simp at hg; omega) | (simp only [List.length_set, List.length_append, List.length_cons, List.length_nil, List.length_map, List.length_take, List.length_drop, List.length_replicate]; omega))) rfl rfl ?_
        refine o_give (g_bin (evv rfl) (evv rfl) (by rfl)) rfl rfl ?_
        refine o_give (g_move (evv rfl)) rfl rfl ?_
        refine o_lazy rfl (fun hg => g_move (by first | exact evv rfl | exact evg rfl (by rw [hp]; rfl) | exact evg rfl hp | exact evg rfl hg | exact evg rfl (by first | (simp_all; done) | (simp [*]; done) | fail) | fail)) rfl rfl ?_
        refine o_lazy rfl (fun hg => g_move (by first | exact evv rfl | exact evg rfl (by rw [hp]; rfl) | exact evg rfl hp | exact evg rfl hg | exact evg rfl (by first | (simp_all; done) | (simp [*]; done) | fail) | fail)) rfl rfl ?_
        refine o_lazy rfl (fun hg => g_indexSN TyU.h (evg rfl hg) (evg rfl hg) (by first | omega | (have := of_decide_eq_true hg; omega) | (simp at hg; omega) | (simp only [List.length_set, List.length_append, List.length_cons, List.length_nil, List.length_map, List.length_take, List.length_drop, List.length_replicate]; omega))) rfl rfl ?_
        rw [hg0]
        refine o_split (t := 30) rfl (fun hs => ?_) (fun hs => ?_)
        · refine o_sure (t := 33) rfl hs ?_
          refine o_gyes rfl ?_
          (refine o_call rfl _ (Ent.refl _) (Plain_c _ _) rfl ?_; rintro _ _ ⟨rfl, hLz⟩; obtain rfl := hLz.symm; clear hLz)
          refine o_gyes rfl ?_
          refine o_give (g_not (evv rfl)) rfl rfl ?_
          refine o_give (g_pick (b := true) (evv rfl) (fun _ => (evv rfl)) (fun h => by cases h)) rfl rfl ?_
          refine o_nil ?_
          refine c_code ?_
          have h47 : s[i] ≠ 47 := fun h => by rw [h] at hs; simp at hs
          refine r_cond rfl (fun hbad => ?_) (fun hbad => ?_) <;> (try simp only [decide_eq_true_eq, decide_eq_false_iff_not, Bool.and_eq_true, Bool.or_eq_true, Bool.not_eq_true', Bool.and_eq_false_iff, Bool.or_eq_false_iff, Bool.not_eq_false', Bool.not_eq_true, Bool.not_eq_false, Bool.true_eq_false, Bool.false_eq_true, Int.not_lt, Int.not_le, not_and, not_or, ne_eq] at hbad)
          · rw [show parseR s = ([], 40) from (if_neg g1).trans (if_pos (.inr fun h => (h _ hmem).elim h47 hbad))]
            refine r_seq ?_
            refine r_region (id := 9) ?_
            refine o_give (g_assign (evv rfl)) rfl rfl ?_
            refine o_give (g_assign (evv rfl)) rfl rfl ?_
            refine o_nil ?_
            refine c_code ?_
            first | refine r_ret (rs := [.tmp 2, .tmp 3]) rfl rfl _ ((Ent.nilM str 9)) ?_ | refine c_end (rs := [.tmp 2, .tmp 3]) rfl rfl _ ((Ent.nilM str 9)) ?_
            exact ⟨_, rfl, rfl⟩
          · have hok : okC s[i] := .inr (by first | exact hbad | exact Decidable.of_not_not hbad)
            refine r_skip ?_
            refine c_blk ?_
            refine c_code ?_
            refine r_region (id := 7) ?_
            refine o_give (g_move (evv rfl)) rfl rfl ?_
            refine o_giveN (g_bin (evv rfl) (evv rfl) (by rfl)) (by simp only [inR]; omega) rfl ?_
            refine o_give (g_assign (evv rfl)) rfl rfl ?_
            refine o_nil ?_
            refine c_loop (i + 1) ?_ ?_ (by repeat (first | exact trivial | refine ⟨rfl, ?_⟩ | refine envsub_v rfl (by first | rfl | (refine int_eq ?_; first | omega | (simp; omega) | (simp; done)) | (refine bool_eq ?_; first | (simp [*]; done) | (simp; done)) | (refine str_eq ?_; simp; done) | (refine ptr_eq ?_; omega) | fail) ?_)) ?_ <;> (try dsimp only)
            · refine ⟨by omega, fun c hc => ?_⟩
              rw [htk] at hc
              rcases List.mem_append.1 hc with hc | hc
              · exact ha c hc
              · rw [List.mem_singleton.1 hc]; exact hok
            · omega
            · exact Ent.refl _
        · have hok : okC s[i] := .inl (UInt8.toNat_inj.1 (by
            have h3 : ((s[i].toNat : Nat) : Int) = 47 := by simpa using hs
            show s[i].toNat = 47
            omega))
          refine o_lazy (v0 := undef) rfl (fun hg => absurd hg (by first | (simp; done) | fail)) rfl rfl ?_
          refine o_lazy (v0 := undef) rfl (fun hg => absurd hg (by first | (simp; done) | fail)) rfl rfl ?_
          refine o_give (g_pick (b := false) (evv rfl) (fun h => by cases h) (fun _ => (evv rfl))) rfl rfl ?_
          refine o_nil ?_
          refine c_code ?_
          refine r_cond_false rfl ?_
          refine r_skip ?_
          refine c_blk ?_
          refine c_code ?_
          refine r_region (id := 7) ?_
          refine o_give (g_move (evv rfl)) rfl rfl ?_
          refine o_giveN (g_bin (evv rfl) (evv rfl) (by rfl)) (by simp only [inR]; omega) rfl ?_
          refine o_give (g_assign (evv rfl)) rfl rfl ?_
          refine o_nil ?_
          refine c_loop (i + 1) ?_ ?_ (by repeat (first | exact trivial | refine ⟨rfl, ?_⟩ | refine envsub_v rfl (by first | rfl | (refine int_eq ?_; first | omega | (simp; omega) | (simp; done)) | (refine bool_eq ?_; first | (simp [*]; done) | (simp; done)) | (refine str_eq ?_; simp; done) | (refine ptr_eq ?_; omega) | fail) ?_)) ?_ <;> (try dsimp only)
          · refine ⟨by omega, fun c hc => ?_⟩
            rw [htk] at hc
            rcases List.mem_append.1 hc with hc | hc
            · exact ha c hc
            · rw [List.mem_singleton.1 hc]; exact hok
          · omega
          · exact Ent.refl _
      · rw [List.take_of_length_le (by omega)] at ha
        rw [parse_fold (by omega) h2 ha]
        clear ha hi hc
        refine r_exit rfl ?_
        refine c_code ?_
        refine r_seq ?_
        refine r_region (id := 10) ?_
        refine o_give (g_assign (evv rfl)) rfl rfl ?_
        refine o_nil ?_
        refine c_code ?_
        refine r_seq ?_
        refine r_region (id := 11) ?_
        refine o_give (g_assign (evv rfl)) rfl rfl ?_
        refine o_nil ?_
        refine c_code ?_
        refine r_seq ?_
        refine r_seq ?_
        refine r_region (id := 12) ?_
        refine o_give (g_assign (evv rfl)) rfl rfl ?_
        refine o_nil ?_
        refine c_code ?_
        refine r_block ?_
        refine r_loopE (σ := (Nat × Nat) × List (List UInt8) × Value) (fun ⟨⟨i, fr⟩, out, v⟩ => rinv s i fr out ∧ out.length ≤ i) (fun ⟨⟨i, fr⟩, out, v⟩ => s.length + 1 - i) (fun ⟨⟨i, fr⟩, out, v⟩ => [(5, .v (v)), (6, .v (.int .i64 fr)), (7, .v (.int .i64 i))]) [0] (fun ⟨⟨i, fr⟩, out, v⟩ => sl v (mrow str 9 out) :: L) ((1, 1), [], .slice none 0 0) (by dsimp only [pickE, pick1, lk2, Nat.reduceBEq, Nat.reduceAdd, Nat.zero_add, cond_true, cond_false] <;> exact rfl) ?_ (by repeat (first | exact trivial | refine ⟨rfl, ?_⟩ | refine envsub_v rfl (by first | rfl | (refine int_eq ?_; first | omega | (simp; omega) | (simp; done)) | (refine bool_eq ?_; first | (simp [*]; done) | (simp; done)) | (refine str_eq ?_; simp; done) | (refine ptr_eq ?_; omega) | fail) ?_)) ?_ ?_
        · exact ⟨.inl ⟨h0', Nat.le_refl _, Nat.le_refl _, by simp, rfl⟩, Nat.zero_le _⟩
        · exact Ent.nilM str 9
        rintro ⟨⟨i, fr⟩, out, v⟩ ⟨hI, hol⟩; dsimp only [List.cons_append, List.nil_append]
        refine r_seq ?_
        refine r_seq ?_
        refine r_region (id := 13) ?_
        refine o_give (g_move (evv rfl)) rfl rfl ?_
        refine o_give (g_move (evv rfl)) rfl rfl ?_
        refine o_give (g_lenS TyU.h (evv rfl)) rfl rfl ?_
        refine o_give (g_bin (evv rfl) (evv rfl) (by rfl)) rfl rfl ?_
        refine o_nil ?_
        refine c_code ?_
        refine r_cond rfl (fun hc => ?_) (fun hc => ?_) <;> (try simp only [decide_eq_true_eq, decide_eq_false_iff_not, Bool.and_eq_true, Bool.or_eq_true, Bool.not_eq_true', Bool.and_eq_false_iff, Bool.or_eq_false_iff, Bool.not_eq_false', Bool.not_eq_true, Bool.not_eq_false, Bool.true_eq_false, Bool.false_eq_true, Int.not_lt, Int.not_le, not_and, not_or, ne_eq] at hc)
        · have hil : i ≤ s.length := by omega
          refine r_skip ?_
          refine c_code ?_
          refine r_seq ?_
          refine r_block ?_
          refine r_seq ?_
          refine r_seq ?_
          refine r_region (id := 15) ?_
          refine o_give (g_move (evv rfl)) rfl rfl ?_
          refine o_give (g_move (evv rfl)) rfl rfl ?_
          refine o_give (g_lenS TyU.h (evv rfl)) rfl rfl ?_
          refine o_give (g_bin (evv rfl) (evv rfl) (by rfl)) rfl rfl ?_
          refine o_give (g_move (evv rfl)) rfl rfl ?_
          refine o_lazy rfl (fun hg => g_move (by first | exact evv rfl | exact evg rfl (by rw [hp]; rfl) | exact evg rfl hp | exact evg rfl hg | exact evg rfl (by first | (simp_all; done) | (simp [*]; done) | fail) | fail)) rfl rfl ?_
          refine o_lazy rfl (fun hg => g_move (by first | exact evv rfl | exact evg rfl (by rw [hp]; rfl) | exact evg rfl hp | exact evg rfl hg | exact evg rfl (by first | (simp_all; done) | (simp [*]; done) | fail) | fail)) rfl rfl ?_
          refine o_lazy rfl (fun hg => g_indexSN TyU.h (evg rfl hg) (evg rfl hg) (by first | omega | (have := of_decide_eq_true hg; omega) | (simp at hg; omega) | (simp only [List.length_set, List.length_append, List.length_cons, List.length_nil, List.length_map, List.length_take, List.length_drop, List.length_replicate]; omega))) rfl rfl ?_
          refine o_lazy rfl (fun hg => g_bin (by first | exact evv rfl | exact evg rfl (by rw [hp]; rfl) | exact evg rfl hp | exact evg rfl hg | exact evg rfl (by first | (simp_all; done) | (simp [*]; done) | fail) | fail) (by first | exact evv rfl | exact evg rfl (by rw [hp]; rfl) | exact evg rfl hp | exact evg rfl hg | exact evg rfl (by first | (simp_all; done) | (simp [*]; done) | fail) | fail) (by rfl)) rfl rfl ?_
          refine o_give (g_pick_and (evv rfl) (evv rfl) (fun hp => (by first | exact evv rfl | exact evg rfl (by rw [hp]; rfl) | exact evg rfl hp | exact evg rfl hg | exact evg rfl (by first | (simp_all; done) | (simp [*]; done) | fail) | fail))) rfl rfl ?_
          refine o_nil ?_
          refine c_code ?_
          refine r_cond rfl (fun hx => ?_) (fun hx => ?_) <;> (try simp only [decide_eq_true_eq, decide_eq_false_iff_not, Bool.and_eq_true, Bool.or_eq_true, Bool.not_eq_true', Bool.and_eq_false_iff, Bool.or_eq_false_iff, Bool.not_eq_false', Bool.not_eq_true, Bool.not_eq_false, Bool.true_eq_false, Bool.false_eq_true, Int.not_lt, Int.not_le, not_and, not_or, ne_eq] at hx)
          · obtain ⟨hx1, hx2⟩ := hx
            have hi2 : i < s.length := by omega
            refine r_exit rfl ?_
            refine c_code ?_
            refine r_region (id := 14) ?_
            refine o_give (g_move (evv rfl)) rfl rfl ?_
            refine o_giveN (g_bin (evv rfl) (evv rfl) (by rfl)) (by simp only [inR]; omega) rfl ?_
            refine o_give (g_assign (evv rfl)) rfl rfl ?_
            refine o_nil ?_
            refine c_loop ((i + 1, fr), out, v) ?_ ?_ (by repeat (first | exact trivial | refine ⟨rfl, ?_⟩ | refine envsub_v rfl (by first | rfl | (refine int_eq ?_; first | omega | (simp; omega) | (simp; done)) | (refine bool_eq ?_; first | (simp [*]; done) | (simp; done)) | (refine str_eq ?_; simp; done) | (refine ptr_eq ?_; omega) | fail) ?_)) ?_ <;> (try dsimp only)
            · refine ⟨rinv_next hI hi2 ?_, by omega⟩
              intro e
              apply hx2
              simp [List.getD_eq_getElem?_getD, hi2, e]
            · omega
            · exact Ent.refl _
          · have hp := rinv_piece hI hil fun hi2 => by
              have h3 := hx.resolve_left (by omega)
              have h4 : s.getD i 0 = s[i] := by simp [List.getD_eq_getElem?_getD, hi2]
              rw [h4] at h3
              exact UInt8.toNat_inj.1 (by show s[i].toNat = 47; omega)
            obtain ⟨hfr, hp1, hp2⟩ := hp
            rw [List.drop_take] at hp1 hp2
            refine r_skip ?_
            refine c_code ?_
            refine r_seq ?_
            refine r_region (id := 16) ?_
            refine o_give (g_move (evv rfl)) rfl rfl ?_
            refine o_give (g_move (evv rfl)) rfl rfl ?_
            refine o_give (g_move (evv rfl)) rfl rfl ?_
            refine o_give (g_subS (evv rfl) _ _ (bnd_some (evv rfl) rfl) (bnd_some (evv rfl) rfl) (by omega) (by omega)) rfl rfl ?_
            refine o_give (g_assign (evv rfl)) rfl rfl ?_
            refine o_nil ?_
            refine c_code ?_
            refine r_seq ?_
            refine r_region (id := 17) ?_
            refine o_give (g_move (evv rfl)) rfl rfl ?_
            refine o_giveN (g_bin (evv rfl) (evv rfl) (by rfl)) (by simp only [inR]; omega) rfl ?_
            refine o_give (g_assign (evv rfl)) rfl rfl ?_
            refine o_nil ?_
            refine c_code ?_
            refine r_seq ?_
            refine r_seq ?_
            refine r_region (id := 18) ?_
            refine o_give (g_move (evv rfl)) rfl rfl ?_
            refine o_give (g_lenS TyU.h (evv rfl)) rfl rfl ?_
            refine o_give (g_bin (evv rfl) (evv rfl) (by rfl)) rfl rfl ?_
            refine o_nil ?_
            refine c_code ?_
            generalize (s.drop fr).take (i - fr) = p at *
            refine r_cond rfl (fun h16 => ?_) (fun h16 => ?_) <;> (try simp only [decide_eq_true_eq, decide_eq_false_iff_not, Bool.and_eq_true, Bool.or_eq_true, Bool.not_eq_true', Bool.and_eq_false_iff, Bool.or_eq_false_iff, Bool.not_eq_false', Bool.not_eq_true, Bool.not_eq_false, Bool.true_eq_false, Bool.false_eq_true, Int.not_lt, Int.not_le, not_and, not_or, ne_eq] at h16)
            · rw [hp1 (if_pos (by omega))]
              refine r_seq ?_
              refine r_region (id := 19) ?_
              refine o_give (g_assign (evv rfl)) rfl rfl ?_
              refine o_give (g_assign (evv rfl)) rfl rfl ?_
              refine o_nil ?_
              refine c_code ?_
              first | refine r_ret (rs := [.tmp 2, .tmp 3]) rfl rfl _ ((Ent.drop.trans (Ent.nilM str 9))) ?_ | refine c_end (rs := [.tmp 2, .tmp 3]) rfl rfl _ ((Ent.drop.trans (Ent.nilM str 9))) ?_
              exact ⟨_, rfl, rfl⟩
            · have g16 : ¬ 16 < p.length := by omega
              refine r_skip ?_
              refine c_code ?_
              refine r_seq ?_
              refine r_seq ?_
              refine r_region (id := 20) ?_
              refine o_give (g_move (evv rfl)) rfl rfl ?_
              refine o_give (g_binS (evv rfl) (evv rfl) (by rfl)) rfl rfl ?_
              refine o_give (g_move (evv rfl)) rfl rfl ?_
              refine o_lazy rfl (fun hg => g_move (by first | exact evv rfl | exact evg rfl (by rw [hp]; rfl) | exact evg rfl hp | exact evg rfl hg | exact evg rfl (by first | (simp_all; done) | (simp [*]; done) | fail) | fail)) rfl rfl ?_
              refine o_lazy rfl (fun hg => g_lenM (by first | exact evv rfl | exact evg rfl (by rw [hp]; rfl) | exact evg rfl hp | exact evg rfl hg | exact evg rfl (by first | (simp_all; done) | (simp [*]; done) | fail) | fail)) rfl rfl ?_
              refine o_lazy rfl (fun hg => g_bin (by first | exact evv rfl | exact evg rfl (by rw [hp]; rfl) | exact evg rfl hp | exact evg rfl hg | exact evg rfl (by first | (simp_all; done) | (simp [*]; done) | fail) | fail) (by first | exact evv rfl | exact evg rfl (by rw [hp]; rfl) | exact evg rfl hp | exact evg rfl hg | exact evg rfl (by first | (simp_all; done) | (simp [*]; done) | fail) | fail) (by rfl)) rfl rfl ?_
              refine o_give (g_pick_and (evv rfl) (evv rfl) (fun hp => (by first | exact evv rfl | exact evg rfl (by rw [hp]; rfl) | exact evg rfl hp | exact evg rfl hg | exact evg rfl (by first | (simp_all; done) | (simp [*]; done) | fail) | fail))) rfl rfl ?_
              refine o_nil ?_
              refine c_code ?_
              refine r_cond rfl (fun hd => ?_) (fun hd => ?_) <;> (try simp only [decide_eq_true_eq, decide_eq_false_iff_not, Bool.and_eq_true, Bool.or_eq_true, Bool.not_eq_true', Bool.and_eq_false_iff, Bool.or_eq_false_iff, Bool.not_eq_false', Bool.not_eq_true, Bool.not_eq_false, Bool.true_eq_false, Bool.false_eq_true, Int.not_lt, Int.not_le, not_and, not_or, ne_eq] at hd)
              · obtain ⟨rfl, hd2⟩ := hd
                have hne : out ≠ [] := fun h => by rw [h] at hd2; simp at hd2
                refine r_region (id := 21) ?_
                refine o_lit0 str (by rfl) rfl (fun _ => ?_)
                refine o_give (g_move (evv rfl)) rfl rfl ?_
                refine o_give (g_move (evv rfl)) rfl rfl ?_
                refine o_give (g_lenM (evv rfl)) rfl rfl ?_
                refine o_giveN (g_bin (evv rfl) (evv rfl) (by rfl)) (by simp only [inR]; omega) rfl ?_
                refine o_give (g_subM (evv rfl) _ _ bnd_none (bnd_to (evv rfl) (by omega)) (by rfl) (by omega) (by omega)) rfl rfl ?_
                refine o_appM (evv rfl) (evv rfl) (by rfl) (by rfl) (by rfl) (by (try simp only [bsOf, List.length_append, List.length_cons, List.length_nil, List.length_take, List.length_drop]); omega) rfl (fun _ => ?_)
                refine o_give (g_assign (evv rfl)) rfl rfl ?_
                refine o_nil ?_
                refine c_code ?_
                refine r_seq ?_
                rename_i v'
                have e : ([] ++ List.take (((out.length : Int) - 1).toNat - 0) (List.drop 0 out)) = out.dropLast := by
                  rw [List.nil_append, List.drop_zero, dropLast_len, show ((out.length : Int) - 1).toNat - 0 = out.length - 1 by omega]
                rw [e]
                refine r_region (id := 22) ?_
                refine o_give (g_move (evv rfl)) rfl rfl ?_
                refine o_give (g_binS (evv rfl) (evv rfl) (by rfl)) rfl rfl ?_
                refine o_give (g_move (evv rfl)) rfl rfl ?_
                refine o_gyes rfl ?_
                refine o_give (g_move (evv rfl)) rfl rfl ?_
                refine o_gyes rfl ?_
                refine o_give (g_binS (evv rfl) (evv rfl) (by rfl)) rfl rfl ?_
                refine o_give (g_pick (b := true) (evv rfl) (fun _ => (evv rfl)) (fun h => by cases h)) rfl rfl ?_
                refine o_give (g_move (evv rfl)) rfl rfl ?_
                refine o_gyes rfl ?_
                refine o_give (g_move (evv rfl)) rfl rfl ?_
                refine o_gyes rfl ?_
                refine o_give (g_binS (evv rfl) (evv rfl) (by rfl)) rfl rfl ?_
                refine o_give (g_pick (b := true) (evv rfl) (fun _ => (evv rfl)) (fun h => by cases h)) rfl rfl ?_
                refine o_nil ?_
                refine c_code ?_
                refine r_cond_false rfl ?_
                refine r_skip ?_
                refine c_blk ?_
                refine c_code ?_
                have hst : stepN out [46, 46] = some out.dropLast := rfl
                refine r_region (id := 14) ?_
                refine o_give (g_move (evv rfl)) rfl rfl ?_
                refine o_giveN (g_bin (evv rfl) (evv rfl) (by rfl)) (by simp only [inR]; omega) rfl ?_
                refine o_give (g_assign (evv rfl)) rfl rfl ?_
                refine o_nil ?_
                refine c_loop ((i + 1, i + 1), out.dropLast, v') ?_ ?_ (by repeat (first | exact trivial | refine ⟨rfl, ?_⟩ | refine envsub_v rfl (by first | rfl | (refine int_eq ?_; first | omega | (simp; omega) | (simp; done)) | (refine bool_eq ?_; first | (simp [*]; done) | (simp; done)) | (refine str_eq ?_; simp; done) | (refine ptr_eq ?_; omega) | fail) ?_)) ?_ <;> (try dsimp only)
                · exact ⟨hp2 _ hst, by have := step_len hst; omega⟩
                · omega
                · exact Lay.ent
              · refine r_skip ?_
                refine c_code ?_
                refine r_seq ?_
                refine r_region (id := 22) ?_
                refine o_give (g_move (evv rfl)) rfl rfl ?_
                refine o_give (g_binS (evv rfl) (evv rfl) (by rfl)) rfl rfl ?_
                refine o_give (g_move (evv rfl)) rfl rfl ?_
                refine o_lazy rfl (fun hg => g_move (by first | exact evv rfl | exact evg rfl (by rw [hp]; rfl) | exact evg rfl hp | exact evg rfl hg | exact evg rfl (by first | (simp_all; done) | (simp [*]; done) | fail) | fail)) rfl rfl ?_
                refine o_lazy rfl (fun hg => g_binS (by first | exact evv rfl | exact evg rfl (by rw [hp]; rfl) | exact evg rfl hp | exact evg rfl hg | exact evg rfl (by first | (simp_all; done) | (simp [*]; done) | fail) | fail) (by first | exact evv rfl | exact evg rfl (by rw [hp]; rfl) | exact evg rfl hp | exact evg rfl hg | exact evg rfl (by first | (simp_all; done) | (simp [*]; done) | fail) | fail) (by rfl)) rfl rfl ?_
                refine o_give (g_pick_and (evv rfl) (evv rfl) (fun hp => (by first | exact evv rfl | exact evg rfl (by rw [hp]; rfl) | exact evg rfl hp | exact evg rfl hg | exact evg rfl (by first | (simp_all; done) | (simp [*]; done) | fail) | fail))) rfl rfl ?_
                refine o_give (g_move (evv rfl)) rfl rfl ?_
                refine o_lazy rfl (fun hg => g_move (by first | exact evv rfl | exact evg rfl (by rw [hp]; rfl) | exact evg rfl hp | exact evg rfl hg | exact evg rfl (by first | (simp_all; done) | (simp [*]; done) | fail) | fail)) rfl rfl ?_
                refine o_lazy rfl (fun hg => g_binS (by first | exact evv rfl | exact evg rfl (by rw [hp]; rfl) | exact evg rfl hp | exact evg rfl hg | exact evg rfl (by first | (simp_all; done) | (simp [*]; done) | fail) | fail) (by first | exact evv rfl | exact evg rfl (by rw [hp]; rfl) | exact evg rfl hp | exact evg rfl hg | exact evg rfl (by first | (simp_all; done) | (simp [*]; done) | fail) | fail) (by rfl)) rfl rfl ?_
                refine o_give (g_pick_and (evv rfl) (evv rfl) (fun hp => (by first | exact evv rfl | exact evg rfl (by rw [hp]; rfl) | exact evg rfl hp | exact evg rfl hg | exact evg rfl (by first | (simp_all; done) | (simp [*]; done) | fail) | fail))) rfl rfl ?_
                refine o_nil ?_
                refine c_code ?_
                refine r_cond rfl (fun he => ?_) (fun he => ?_) <;> (try simp only [decide_eq_true_eq, decide_eq_false_iff_not, Bool.and_eq_true, Bool.or_eq_true, Bool.not_eq_true', Bool.and_eq_false_iff, Bool.or_eq_false_iff, Bool.not_eq_false', Bool.not_eq_true, Bool.not_eq_false, Bool.true_eq_false, Bool.false_eq_true, Int.not_lt, Int.not_le, not_and, not_or, ne_eq] at he)
                · obtain ⟨⟨he1, he2⟩, he3⟩ := he
                  have hst : stepN out p = some (out ++ [p]) := (if_neg g16).trans ((if_neg fun h => h.elim he1 he2).trans (if_neg he3))
                  refine r_region (id := 23) ?_
                  refine o_give (g_move (evv rfl)) rfl rfl ?_
                  refine o_give (g_move (evv rfl)) rfl rfl ?_
                  refine o_litT rfl (by rfl) rfl (fun _ => ?_)
                  refine o_appM (evv rfl) (evv rfl) (by rfl) (by rfl) (by rfl) (by (try simp only [bsOf, List.length_append, List.length_cons, List.length_nil, List.length_take, List.length_drop]); omega) rfl (fun _ => ?_)
                  refine o_give (g_assign (evv rfl)) rfl rfl ?_
                  refine o_nil ?_
                  refine c_blk ?_
                  refine c_code ?_
                  refine r_region (id := 14) ?_
                  refine o_give (g_move (evv rfl)) rfl rfl ?_
                  refine o_giveN (g_bin (evv rfl) (evv rfl) (by rfl)) (by simp only [inR]; omega) rfl ?_
                  refine o_give (g_assign (evv rfl)) rfl rfl ?_
                  refine o_nil ?_
                  rename_i _ v'
                  refine c_loop ((i + 1, i + 1), out ++ [p], v') ?_ ?_ (by repeat (first | exact trivial | refine ⟨rfl, ?_⟩ | refine envsub_v rfl (by first | rfl | (refine int_eq ?_; first | omega | (simp; omega) | (simp; done)) | (refine bool_eq ?_; first | (simp [*]; done) | (simp; done)) | (refine str_eq ?_; simp; done) | (refine ptr_eq ?_; omega) | fail) ?_)) ?_ <;> (try dsimp only)
                  · exact ⟨hp2 _ hst, by have := step_len hst; omega⟩
                  · omega
                  · exact Lay.ent
                · have hst : stepN out p = some out := by
                    rcases he with he | he
                    · exact (if_neg g16).trans (if_pos he)
                    · subst he
                      rcases hd with hd | hd
                      · exact absurd rfl hd
                      · have : out = [] := List.eq_nil_of_length_eq_zero (by omega)
                        subst this
                        rfl
                  refine r_skip ?_
                  refine c_blk ?_
                  refine c_code ?_
                  refine r_region (id := 14) ?_
                  refine o_give (g_move (evv rfl)) rfl rfl ?_
                  refine o_giveN (g_bin (evv rfl) (evv rfl) (by rfl)) (by simp only [inR]; omega) rfl ?_
                  refine o_give (g_assign (evv rfl)) rfl rfl ?_
                  refine o_nil ?_
                  refine c_loop ((i + 1, i + 1), out, v) ?_ ?_ (by repeat (first | exact trivial | refine ⟨rfl, ?_⟩ | refine envsub_v rfl (by first | rfl | (refine int_eq ?_; first | omega | (simp; omega) | (simp; done)) | (refine bool_eq ?_; first | (simp [*]; done) | (simp; done)) | (refine str_eq ?_; simp; done) | (refine ptr_eq ?_; omega) | fail) ?_)) ?_ <;> (try dsimp only)
                  · exact ⟨hp2 _ hst, by have := step_len hst; omega⟩
                  · omega
                  · exact Lay.ent
        · have hI : some out = foldN [] (sp (s.drop 1)) := by
            rcases hI with ⟨h1, -⟩ | ⟨-, h⟩
            · omega
            · exact h
          rw [← hI]
          dsimp only
          refine r_exit rfl ?_
          refine c_code ?_
          refine r_seq ?_
          refine r_seq ?_
          refine r_region (id := 24) ?_
          refine o_give (g_move (evv rfl)) rfl rfl ?_
          refine o_give (g_lenM (evv rfl)) rfl rfl ?_
          refine o_give (g_bin (evv rfl) (evv rfl) (by rfl)) rfl rfl ?_
          refine o_nil ?_
          refine c_code ?_
          refine r_cond rfl (fun h8 => ?_) (fun h8 => ?_) <;> (try simp only [decide_eq_true_eq, decide_eq_false_iff_not, Bool.and_eq_true, Bool.or_eq_true, Bool.not_eq_true', Bool.and_eq_false_iff, Bool.or_eq_false_iff, Bool.not_eq_false', Bool.not_eq_true, Bool.not_eq_false, Bool.true_eq_false, Bool.false_eq_true, Int.not_lt, Int.not_le, not_and, not_or, ne_eq] at h8)
          · rw [if_pos (by omega)]
            refine r_seq ?_
            refine r_region (id := 25) ?_
            refine o_give (g_assign (evv rfl)) rfl rfl ?_
            refine o_give (g_assign (evv rfl)) rfl rfl ?_
            refine o_nil ?_
            refine c_code ?_
            first | refine r_ret (rs := [.tmp 2, .tmp 3]) rfl rfl _ ((Ent.drop.trans (Ent.nilM str 9))) ?_ | refine c_end (rs := [.tmp 2, .tmp 3]) rfl rfl _ ((Ent.drop.trans (Ent.nilM str 9))) ?_
            exact ⟨_, rfl, rfl⟩
          · rw [if_neg (by omega)]
            refine r_skip ?_
            refine c_code ?_
            refine r_seq ?_
            refine r_region (id := 26) ?_
            refine o_give (g_move (evv rfl)) rfl rfl ?_
            refine o_give (g_assign (evv rfl)) rfl rfl ?_
            refine o_give (g_assign (evv rfl)) rfl rfl ?_
            refine o_nil ?_
            refine c_code ?_
            first | refine r_ret (rs := [.tmp 2, .tmp 3]) rfl rfl _ (Ent.refl _) ?_ | refine c_end (rs := [.tmp 2, .tmp 3]) rfl rfl _ (Ent.refl _) ?_
            exact ⟨_, rfl, rfl⟩
end VK
