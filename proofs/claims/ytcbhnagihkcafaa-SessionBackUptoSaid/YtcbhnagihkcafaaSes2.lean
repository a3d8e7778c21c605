/- What the session table's methods do to its seats, on: bytes, evict, Record, Forget, List, Clone. Conditions: eight seats; few bytes; what isn't kept has no reply. -/
import Derived.Test.YtcbhnagihkcafaaSes1
namespace VK
open Go Go.Proofs
set_option linter.unusedSimpArgs false
set_option linter.unusedVariables false
set_option maxRecDepth 100000
set_option maxHeartbeats 40000000
def repB (l : List Seat) : Nat := (l.map fun s => s.reply.length).sum
theorem repB_take (l : List Seat) (k : Nat) (h : k < l.length) : repB (l.take (k + 1)) = repB (l.take k) + (l.getD k default).reply.length := by
  rw [repB, List.take_succ_eq_append_getElem h, List.map_append, List.sum_append]; simp [repB, h]
theorem repB_take_le (l : List Seat) (k : Nat) : repB (l.take k) ≤ repB l := by
  conv => rhs; rw [← List.take_append_drop k l]
  simp only [repB, List.map_append, List.sum_append]; omega
theorem bytes_g {g : Atom → List Atom} {b : Nat} [hp : ∀ c, Pick (blk b) (g (blk b c)) c g] (room : Int) (l : List Seat) (hl : l.length = 8) (hb : repB l ≤ 4611686018427387904) :
    Fn Try.prog 27 [.pointer (some ⟨b, 0, none⟩)] (g (blk b (tblB room l))) fun v L' => v = .int .i64 (repB l) ∧ L' = g (blk b (tblB room l)) := by
  refine fn_intro Try.func27 rfl Try.ntmps27 rfl (fun W0 => ?_)
  simp only [argE]
  refine r_seq ?_
  refine r_region (id := 0) ?_
  refine o_give (g_assign (evv rfl)) rfl rfl ?_
  refine o_nil ?_
  refine c_code ?_
  refine r_seq ?_
  refine r_region (id := 1) ?_
  refine o_give (g_assign (evv rfl)) rfl rfl ?_
  refine o_nil ?_
  refine c_code ?_
  refine r_seq ?_
  refine r_seq ?_
  refine r_region (id := 2) ?_
  refine o_give (g_move (evv rfl)) rfl rfl ?_
  refine o_give (g_nil (evv rfl)) rfl rfl ?_
  refine o_give (g_fld (evv rfl)) rfl rfl ?_
  refine o_give (g_loadFlA (evv rfl) (by rfl) (by rfl) (by first | rfl | (simp only [*]; done) | (dsimp only; omega) | fail)) rfl rfl ?_
  refine o_give (g_move (evv rfl)) rfl rfl ?_
  refine o_nil ?_
  refine c_code ?_
  refine r_block ?_
  refine r_loopE (σ := Nat) (fun k => k ≤ 8) (fun k => 8 - k) (fun k => [(3, .v (.int .i64 (repB (l.take k)))), (10, .v (.int .i64 k))]) [9] (fun k => g (blk b (tblB room l))) 0 (by dsimp only [pickE, pick1, lk2, Nat.reduceBEq, Nat.reduceAdd, Nat.zero_add, cond_true, cond_false] <;> exact rfl) ?_ (by repeat (first | exact trivial | refine ⟨rfl, ?_⟩ | refine envsub_v rfl (by first | rfl | (refine int_eq ?_; first | omega | (simp; omega) | (simp; done)) | (refine bool_eq ?_; first | (simp [*]; done) | (simp; done)) | (refine str_eq ?_; simp; done) | (refine ptr_eq ?_; omega) | fail) ?_)) ?_ ?_
  · omega
  · exact Ent.refl _
  rintro k hk; (try dsimp only at hk); dsimp only [List.cons_append, List.nil_append]
  have h1 := repB_take_le l (k + 1)
  refine r_seq ?_
  refine r_region (id := 3) ?_
  refine o_give (g_bin (evv rfl) (evv rfl) (by rfl)) rfl rfl ?_
  refine o_nil ?_
  refine c_code ?_
  refine r_seq ?_
  refine r_cond rfl (fun hc => ?_) (fun hc => ?_) <;> (try simp only [decide_eq_true_eq, decide_eq_false_iff_not, Bool.and_eq_true, Bool.or_eq_true, Bool.not_eq_true', Bool.and_eq_false_iff, Bool.or_eq_false_iff, Bool.not_eq_false', Bool.not_eq_true, Bool.not_eq_false, Bool.true_eq_false, Bool.false_eq_true, Int.not_lt, Int.not_le, not_and, not_or, ne_eq] at hc)
  · have hk8 : k < l.length := by omega
    rw [repB_take l k hk8] at h1
    refine r_skip ?_
    refine c_code ?_
    refine r_seq ?_
    refine r_block ?_
    refine r_seq ?_
    refine r_region (id := 4) ?_
    refine o_give (g_indexFlN (evv rfl) (evv rfl) (by rfl) (by rfl) (by first | assumption | omega) (by omega)) rfl rfl ?_
    refine o_alloc rfl rfl (fun _ => ?_)
    refine o_storeW (evv rfl) (evv rfl) (by first | rfl | assumption | (simp [bys, *]; done) | fail) (by first | (intro _ _ _; exact bys_one _) | exact AllOne.h | (intro _ _ _ u hu; simp at hu; rcases hu with rfl | rfl | rfl | rfl | rfl | rfl | rfl | rfl <;> rfl) | fail) (by first | rfl | (simp [bys, *]; done) | (simp only [bys, List.length_map, *]; rfl) | fail) ?_
    refine o_nil ?_
    refine c_code ?_
    refine r_region (id := 5) ?_
    refine o_give (g_move (evv rfl)) rfl rfl ?_
    refine o_give (g_fld (evv rfl)) rfl rfl ?_
    refine o_give (g_load (evv rfl) (by rfl) (by rfl)) rfl rfl ?_
    refine o_give (g_lenS TyU.h (evv rfl)) rfl rfl ?_
    refine o_giveN (g_bin (evv rfl) (evv rfl) (by rfl)) (by simp only [inR]; omega) rfl ?_
    refine o_give (g_assign (evv rfl)) rfl rfl ?_
    refine o_nil ?_
    refine c_blk ?_
    refine c_code ?_
    refine r_region (id := 6) ?_
    refine o_giveN (g_bin (evv rfl) (evv rfl) (by rfl)) (by simp only [inR]; omega) rfl ?_
    refine o_give (g_move (evv rfl)) rfl rfl ?_
    refine o_nil ?_
    refine c_loop (k + 1) ?_ ?_ (by simp only [repB_take l k hk8]; repeat (first | exact trivial | refine ⟨rfl, ?_⟩ | refine envsub_v rfl (by first | rfl | (refine int_eq ?_; first | omega | (simp; omega) | (simp; done)) | (refine bool_eq ?_; first | (simp [*]; done) | (simp; done)) | (refine str_eq ?_; simp; done) | (refine ptr_eq ?_; omega) | fail) ?_)) ?_ <;> (try dsimp only)
    · omega
    · omega
    · exact Ent.drop
  · have : k = 8 := by omega
    subst this
    rw [show l.take 8 = l from List.take_of_length_le (by omega)]
    refine r_exit rfl ?_
    refine c_code ?_
    refine r_seq ?_
    refine r_region (id := 7) ?_
    refine o_give (g_move (evv rfl)) rfl rfl ?_
    refine o_give (g_assign (evv rfl)) rfl rfl ?_
    refine o_nil ?_
    refine c_code ?_
    first | refine r_ret (rs := [.tmp 2]) rfl rfl _ (Ent.refl _) ?_ | refine c_end (rs := [.tmp 2]) rfl rfl _ (Ent.refl _) ?_
    exact ⟨rfl, rfl⟩

/-- the kept seat of the least At among the first ones -/
def bestTo (l : List Seat) : Nat → Option Nat
  | 0 => none
  | i + 1 => match bestTo l i with
    | none => if (l.getD i default).kept then some i else none
    | some j => if (l.getD i default).kept ∧ (l.getD i default).at_ < (l.getD j default).at_ then some i else some j
theorem bestTo_some {l : List Seat} : ∀ {i j : Nat}, bestTo l i = some j → j < i ∧ (l.getD j default).kept = true
  | 0, _, h => by cases h
  | i + 1, j, h => by
    simp only [bestTo] at h
    split at h
    · split at h
      · cases h; exact ⟨by omega, by assumption⟩
      · cases h
    · rename_i j' hj
      have := bestTo_some hj
      split at h
      · cases h; rename_i hh; exact ⟨by omega, hh.1⟩
      · cases h; exact ⟨by omega, this.2⟩
theorem bestTo_none {l : List Seat} : ∀ {i : Nat}, bestTo l i = none → ∀ j, j < i → (l.getD j default).kept = false
  | 0, _, j, hj => by omega
  | i + 1, h, j, hj => by
    simp only [bestTo] at h
    split at h
    · rename_i hn
      split at h
      · cases h
      · by_cases hji : j = i
        · subst hji; exact Bool.eq_false_iff.2 ‹¬ _›
        · exact bestTo_none hn j (by omega)
    · split at h <;> cases h
def evictT (l : List Seat) : List Seat := match bestTo l l.length with
  | none => l
  | some j => l.set j { l.getD j default with kept := false, reply := [] }
def bestP (b : Nat) : Option Nat → Value
  | none => .pointer none
  | some j => .pointer (some ⟨b, 1 + j * 5, none⟩)
theorem evict_g {g : Atom → List Atom} {b : Nat} [hp : ∀ c, Pick (blk b) (g (blk b c)) c g] (room : Int) (l : List Seat) (hl : l.length = 8) (hb : bestTo l l.length ≠ none) :
    Fn Try.prog 28 [.pointer (some ⟨b, 0, none⟩)] (g (blk b (tblB room l))) fun v L' => v = .tuple #[] ∧ L' = g (blk b (tblB room (evictT l))) := by
  refine fn_intro Try.func28 rfl Try.ntmps28 rfl (fun W0 => ?_)
  simp only [argE]
  refine r_seq ?_
  refine r_region (id := 0) ?_
  refine o_give (g_assign (evv rfl)) rfl rfl ?_
  refine o_nil ?_
  refine c_code ?_
  refine r_seq ?_
  refine r_seq ?_
  refine r_region (id := 1) ?_
  refine o_give (g_move (evv rfl)) rfl rfl ?_
  refine o_nil ?_
  refine c_code ?_
  refine r_block ?_
  refine r_loopE (σ := Nat) (fun k => k ≤ 8) (fun k => 8 - k) (fun k => [(2, .v (bestP b (bestTo l k))), (5, .v (.int .i64 k))]) [0] (fun k => g (blk b (tblB room l))) 0 (by dsimp only [pickE, pick1, lk2, Nat.reduceBEq, Nat.reduceAdd, Nat.zero_add, cond_true, cond_false] <;> exact rfl) ?_ (by repeat (first | exact trivial | refine ⟨rfl, ?_⟩ | refine envsub_v rfl (by first | rfl | (refine int_eq ?_; first | omega | (simp; omega) | (simp; done)) | (refine bool_eq ?_; first | (simp [*]; done) | (simp; done)) | (refine str_eq ?_; simp; done) | (refine ptr_eq ?_; omega) | fail) ?_)) ?_ ?_
  · omega
  · exact Ent.refl _
  rintro k hk; (try dsimp only at hk); dsimp only [List.cons_append, List.nil_append]
  refine r_seq ?_
  refine r_region (id := 2) ?_
  refine o_give (g_bin (evv rfl) (evv rfl) (by rfl)) rfl rfl ?_
  refine o_nil ?_
  refine c_code ?_
  refine r_seq ?_
  refine r_cond rfl (fun hc => ?_) (fun hc => ?_) <;> (try simp only [decide_eq_true_eq, decide_eq_false_iff_not, Bool.and_eq_true, Bool.or_eq_true, Bool.not_eq_true', Bool.and_eq_false_iff, Bool.or_eq_false_iff, Bool.not_eq_false', Bool.not_eq_true, Bool.not_eq_false, Bool.true_eq_false, Bool.false_eq_true, Int.not_lt, Int.not_le, not_and, not_or, ne_eq] at hc)
  · have hk8 : k < l.length := by omega
    refine r_skip ?_
    refine c_code ?_
    refine r_seq ?_
    refine r_block ?_
    refine r_seq ?_
    refine r_region (id := 3) ?_
    refine o_give (g_move (evv rfl)) rfl rfl ?_
    refine o_give (g_assign (evv rfl)) rfl rfl ?_
    refine o_nil ?_
    refine c_code ?_
    refine r_seq ?_
    refine r_region (id := 4) ?_
    refine o_give (g_move (evv rfl)) rfl rfl ?_
    refine o_give (g_move (evv rfl)) rfl rfl ?_
    refine o_give (g_nil (evv rfl)) rfl rfl ?_
    refine o_give (g_fld (evv rfl)) rfl rfl ?_
    refine o_give (g_idxAN (evv rfl) (evv rfl) (by omega)) rfl rfl ?_
    refine o_give (g_assign (evv rfl)) rfl rfl ?_
    refine o_nil ?_
    refine c_code ?_
    refine r_seq ?_
    generalize hs : l.getD k default = s
    cases hj : bestTo l k with
    | none =>
      have hb1 : bestTo l (k + 1) = if s.kept then some k else none := by simp only [bestTo, hj, hs]
      simp only [bestP]
      refine r_quiet (id := 5) Mixed.h (by kernel_rfl) ?_
      refine q_give (g_move (evv rfl)) rfl rfl ?_
      refine q_give (g_nil (evv rfl)) rfl rfl ?_
      refine q_give (g_fld (evv rfl)) rfl rfl ?_
      refine q_give (g_loadFl (evv rfl) (by rfl) (by rfl) (by intro; rfl) (by rfl) (by first | omega | (have := of_decide_eq_true hg; omega) | (simp at hg; omega) | (simp only [List.length_set, List.length_append, List.length_cons, List.length_nil, List.length_map, List.length_take, List.length_drop, List.length_replicate]; omega))) rfl rfl ?_
      refine q_give (g_move (evv rfl)) rfl rfl ?_
      refine q_lazy rfl (fun hg => g_move (by first | exact evv rfl | exact evg rfl (by rw [hp]; rfl) | exact evg rfl hp | exact evg rfl hg | exact evg rfl (by first | (simp_all; done) | (simp [*]; done) | fail) | fail)) rfl rfl ?_
      refine q_lazy rfl (fun hg => g_pnil TyU.h (by first | exact evv rfl | exact evg rfl (by rw [hp]; rfl) | exact evg rfl hp | exact evg rfl hg | exact evg rfl (by first | (simp_all; done) | (simp [*]; done) | fail) | fail) (by first | exact evv rfl | exact evg rfl (by rw [hp]; rfl) | exact evg rfl hp | exact evg rfl hg | exact evg rfl (by first | (simp_all; done) | (simp [*]; done) | fail) | fail) (by simp) (by rfl)) rfl rfl ?_
      refine q_lazy rfl (fun hg => g_move (by first | exact evv rfl | exact evg rfl (by rw [hp]; rfl) | exact evg rfl hp | exact evg rfl hg | exact evg rfl (by first | (simp_all; done) | (simp [*]; done) | fail) | fail)) rfl rfl ?_
      refine q_lazy rfl (fun hg => g_move (by first | exact evv rfl | exact evg rfl (by rw [hp]; rfl) | exact evg rfl hp | exact evg rfl hg | exact evg rfl (by first | (simp_all; done) | (simp [*]; done) | fail) | fail)) rfl rfl ?_
      refine q_lazy rfl (fun hg => g_nil (by first | exact evv rfl | exact evg rfl (by rw [hp]; rfl) | exact evg rfl hp | exact evg rfl hg | exact evg rfl (by first | (simp_all; done) | (simp [*]; done) | fail) | fail)) rfl rfl ?_
      refine q_lazy rfl (fun hg => g_fld (evg rfl hg)) rfl rfl ?_
      refine q_lazy rfl (fun hg => g_loadFl (evg rfl hg) (by rfl) (by rfl) (by intro; rfl) (by rfl) (by first | omega | (have := of_decide_eq_true hg; omega) | (simp at hg; omega) | (simp only [List.length_set, List.length_append, List.length_cons, List.length_nil, List.length_map, List.length_take, List.length_drop, List.length_replicate]; omega))) rfl rfl ?_
      refine q_lazy rfl (fun hg => g_move (by first | exact evv rfl | exact evg rfl (by rw [hp]; rfl) | exact evg rfl hp | exact evg rfl hg | exact evg rfl (by first | (simp_all; done) | (simp [*]; done) | fail) | fail)) rfl rfl ?_
      refine q_lazy (v0 := undef) rfl (fun hg => absurd hg (by first | (simp; done) | fail)) rfl rfl ?_
      refine q_lazy (v0 := undef) rfl (fun hg => absurd hg (by first | (simp; done) | fail)) rfl rfl ?_
      refine q_lazy (v0 := undef) rfl (fun hg => absurd hg (by first | (simp; done) | fail)) rfl rfl ?_
      refine q_lazy (v0 := undef) rfl (fun hg => absurd hg (by first | (simp; done) | fail)) rfl rfl ?_
      refine q_lazy rfl (fun hg => g_pick (b := true) (by first | exact evv rfl | exact evg rfl (by rw [hp]; rfl) | exact evg rfl hp | exact evg rfl hg | exact evg rfl (by first | (simp_all; done) | (simp [*]; done) | fail) | fail) (fun _ => (by first | exact evv rfl | exact evg rfl (by rw [hp]; rfl) | exact evg rfl hp | exact evg rfl hg | exact evg rfl (by first | (simp_all; done) | (simp [*]; done) | fail) | fail)) (fun h => by cases h)) rfl rfl ?_
      refine q_give (g_pick_and (evv rfl) (evv rfl) (fun hp => (by first | exact evv rfl | exact evg rfl (by rw [hp]; rfl) | exact evg rfl hp | exact evg rfl hg | exact evg rfl (by first | (simp_all; done) | (simp [*]; done) | fail) | fail))) rfl rfl ?_
      refine q_nil ?_
      refine c_code ?_
      rw [hs]
      refine r_cond rfl (fun h1 => ?_) (fun h1 => ?_) <;> (try simp only [decide_eq_true_eq, decide_eq_false_iff_not, Bool.and_eq_true, Bool.or_eq_true, Bool.not_eq_true', Bool.and_eq_false_iff, Bool.or_eq_false_iff, Bool.not_eq_false', Bool.not_eq_true, Bool.not_eq_false, Bool.true_eq_false, Bool.false_eq_true, Int.not_lt, Int.not_le, not_and, not_or, ne_eq] at h1)
      · rw [if_pos (by simpa using h1)] at hb1
        refine r_region (id := 6) ?_
        refine o_give (g_move (evv rfl)) rfl rfl ?_
        refine o_give (g_assign (evv rfl)) rfl rfl ?_
        refine o_nil ?_
        refine c_blk ?_
        refine c_code ?_
        refine r_region (id := 7) ?_
        refine o_giveN (g_bin (evv rfl) (evv rfl) (by rfl)) (by simp only [inR]; omega) rfl ?_
        refine o_give (g_move (evv rfl)) rfl rfl ?_
        refine o_nil ?_
        refine c_loop (k + 1) ?_ ?_ (by simp only [bestP, hb1]; repeat (first | exact trivial | refine ⟨rfl, ?_⟩ | refine envsub_v rfl (by first | rfl | (refine int_eq ?_; first | omega | (simp; omega) | (simp; done)) | (refine bool_eq ?_; first | (simp [*]; done) | (simp; done)) | (refine str_eq ?_; simp; done) | (refine ptr_eq ?_; omega) | fail) ?_)) ?_ <;> (try dsimp only)
        · omega
        · omega
        · exact Ent.refl _
      · rw [if_neg (by simpa using h1)] at hb1
        refine r_skip ?_
        refine c_blk ?_
        refine c_code ?_
        refine r_region (id := 7) ?_
        refine o_giveN (g_bin (evv rfl) (evv rfl) (by rfl)) (by simp only [inR]; omega) rfl ?_
        refine o_give (g_move (evv rfl)) rfl rfl ?_
        refine o_nil ?_
        refine c_loop (k + 1) ?_ ?_ (by simp only [bestP, hb1]; repeat (first | exact trivial | refine ⟨rfl, ?_⟩ | refine envsub_v rfl (by first | rfl | (refine int_eq ?_; first | omega | (simp; omega) | (simp; done)) | (refine bool_eq ?_; first | (simp [*]; done) | (simp; done)) | (refine str_eq ?_; simp; done) | (refine ptr_eq ?_; omega) | fail) ?_)) ?_ <;> (try dsimp only)
        · omega
        · omega
        · exact Ent.refl _
    | some j =>
      obtain ⟨hj1, hj2⟩ := bestTo_some hj
      have hj8 : j < l.length := by omega
      simp only [bestP]
      generalize hsj : l.getD j default = sj
      have hb1 : bestTo l (k + 1) = if s.kept ∧ s.at_ < sj.at_ then some k else some j := by simp only [bestTo, hj, hs, hsj]
      refine r_quiet (id := 5) Mixed.h (by kernel_rfl) ?_
      refine q_give (g_move (evv rfl)) rfl rfl ?_
      refine q_give (g_nil (evv rfl)) rfl rfl ?_
      refine q_give (g_fld (evv rfl)) rfl rfl ?_
      refine q_give (g_loadFl (evv rfl) (by rfl) (by rfl) (by intro; rfl) (by rfl) (by first | omega | (have := of_decide_eq_true hg; omega) | (simp at hg; omega) | (simp only [List.length_set, List.length_append, List.length_cons, List.length_nil, List.length_map, List.length_take, List.length_drop, List.length_replicate]; omega))) rfl rfl ?_
      refine q_give (g_move (evv rfl)) rfl rfl ?_
      refine q_lazy rfl (fun hg => g_move (by first | exact evv rfl | exact evg rfl (by rw [hp]; rfl) | exact evg rfl hp | exact evg rfl hg | exact evg rfl (by first | (simp_all; done) | (simp [*]; done) | fail) | fail)) rfl rfl ?_
      refine q_lazy rfl (fun hg => g_pnil TyU.h (by first | exact evv rfl | exact evg rfl (by rw [hp]; rfl) | exact evg rfl hp | exact evg rfl hg | exact evg rfl (by first | (simp_all; done) | (simp [*]; done) | fail) | fail) (by first | exact evv rfl | exact evg rfl (by rw [hp]; rfl) | exact evg rfl hp | exact evg rfl hg | exact evg rfl (by first | (simp_all; done) | (simp [*]; done) | fail) | fail) (by simp) (by rfl)) rfl rfl ?_
      refine q_lazy rfl (fun hg => g_move (by first | exact evv rfl | exact evg rfl (by rw [hp]; rfl) | exact evg rfl hp | exact evg rfl hg | exact evg rfl (by first | (simp_all; done) | (simp [*]; done) | fail) | fail)) rfl rfl ?_
      refine q_lazy rfl (fun hg => g_move (by first | exact evv rfl | exact evg rfl (by rw [hp]; rfl) | exact evg rfl hp | exact evg rfl hg | exact evg rfl (by first | (simp_all; done) | (simp [*]; done) | fail) | fail)) rfl rfl ?_
      refine q_lazy rfl (fun hg => g_nil (by first | exact evv rfl | exact evg rfl (by rw [hp]; rfl) | exact evg rfl hp | exact evg rfl hg | exact evg rfl (by first | (simp_all; done) | (simp [*]; done) | fail) | fail)) rfl rfl ?_
      refine q_lazy rfl (fun hg => g_fld (evg rfl hg)) rfl rfl ?_
      refine q_lazy rfl (fun hg => g_loadFl (evg rfl hg) (by rfl) (by rfl) (by intro; rfl) (by rfl) (by first | omega | (have := of_decide_eq_true hg; omega) | (simp at hg; omega) | (simp only [List.length_set, List.length_append, List.length_cons, List.length_nil, List.length_map, List.length_take, List.length_drop, List.length_replicate]; omega))) rfl rfl ?_
      refine q_lazy rfl (fun hg => g_move (by first | exact evv rfl | exact evg rfl (by rw [hp]; rfl) | exact evg rfl hp | exact evg rfl hg | exact evg rfl (by first | (simp_all; done) | (simp [*]; done) | fail) | fail)) rfl rfl ?_
      refine q_lazy rfl (fun hg => g_nil (by first | exact evv rfl | exact evg rfl (by rw [hp]; rfl) | exact evg rfl hp | exact evg rfl hg | exact evg rfl (by first | (simp_all; done) | (simp [*]; done) | fail) | fail)) rfl rfl ?_
      refine q_lazy rfl (fun hg => g_fld (evg rfl hg)) rfl rfl ?_
      refine q_lazy rfl (fun hg => g_loadFl (evg rfl hg) (by rfl) (by rfl) (by intro; rfl) (by rfl) (by first | omega | (have := of_decide_eq_true hg; omega) | (simp at hg; omega) | (simp only [List.length_set, List.length_append, List.length_cons, List.length_nil, List.length_map, List.length_take, List.length_drop, List.length_replicate]; omega))) rfl rfl ?_
      refine q_lazy rfl (fun hg => g_bin (by first | exact evv rfl | exact evg rfl (by rw [hp]; rfl) | exact evg rfl hp | exact evg rfl hg | exact evg rfl (by first | (simp_all; done) | (simp [*]; done) | fail) | fail) (by first | exact evv rfl | exact evg rfl (by rw [hp]; rfl) | exact evg rfl hp | exact evg rfl hg | exact evg rfl (by first | (simp_all; done) | (simp [*]; done) | fail) | fail) (by rfl)) rfl rfl ?_
      refine q_lazy rfl (fun hg => g_pick (b := false) (by first | exact evv rfl | exact evg rfl (by rw [hp]; rfl) | exact evg rfl hp | exact evg rfl hg | exact evg rfl (by first | (simp_all; done) | (simp [*]; done) | fail) | fail) (fun h => by cases h) (fun _ => (by first | exact evv rfl | exact evg rfl (by rw [hp]; rfl) | exact evg rfl hp | exact evg rfl hg | exact evg rfl (by first | (simp_all; done) | (simp [*]; done) | fail) | fail))) rfl rfl ?_
      refine q_give (g_pick_and (evv rfl) (evv rfl) (fun hp => (by first | exact evv rfl | exact evg rfl (by rw [hp]; rfl) | exact evg rfl hp | exact evg rfl hg | exact evg rfl (by first | (simp_all; done) | (simp [*]; done) | fail) | fail))) rfl rfl ?_
      refine q_nil ?_
      refine c_code ?_
      rw [hs, hsj]
      refine r_cond rfl (fun h1 => ?_) (fun h1 => ?_) <;> (try simp only [decide_eq_true_eq, decide_eq_false_iff_not, Bool.and_eq_true, Bool.or_eq_true, Bool.not_eq_true', Bool.and_eq_false_iff, Bool.or_eq_false_iff, Bool.not_eq_false', Bool.not_eq_true, Bool.not_eq_false, Bool.true_eq_false, Bool.false_eq_true, Int.not_lt, Int.not_le, not_and, not_or, ne_eq] at h1)
      · rw [if_pos (by simpa using h1)] at hb1
        refine r_region (id := 6) ?_
        refine o_give (g_move (evv rfl)) rfl rfl ?_
        refine o_give (g_assign (evv rfl)) rfl rfl ?_
        refine o_nil ?_
        refine c_blk ?_
        refine c_code ?_
        refine r_region (id := 7) ?_
        refine o_giveN (g_bin (evv rfl) (evv rfl) (by rfl)) (by simp only [inR]; omega) rfl ?_
        refine o_give (g_move (evv rfl)) rfl rfl ?_
        refine o_nil ?_
        refine c_loop (k + 1) ?_ ?_ (by simp only [bestP, hb1]; repeat (first | exact trivial | refine ⟨rfl, ?_⟩ | refine envsub_v rfl (by first | rfl | (refine int_eq ?_; first | omega | (simp; omega) | (simp; done)) | (refine bool_eq ?_; first | (simp [*]; done) | (simp; done)) | (refine str_eq ?_; simp; done) | (refine ptr_eq ?_; omega) | fail) ?_)) ?_ <;> (try dsimp only)
        · omega
        · omega
        · exact Ent.refl _
      · rw [if_neg (fun hh => by rcases h1 with h1 | h1; exact absurd hh.1 (by simp [h1]); omega)] at hb1
        refine r_skip ?_
        refine c_blk ?_
        refine c_code ?_
        refine r_region (id := 7) ?_
        refine o_giveN (g_bin (evv rfl) (evv rfl) (by rfl)) (by simp only [inR]; omega) rfl ?_
        refine o_give (g_move (evv rfl)) rfl rfl ?_
        refine o_nil ?_
        refine c_loop (k + 1) ?_ ?_ (by simp only [bestP, hb1]; repeat (first | exact trivial | refine ⟨rfl, ?_⟩ | refine envsub_v rfl (by first | rfl | (refine int_eq ?_; first | omega | (simp; omega) | (simp; done)) | (refine bool_eq ?_; first | (simp [*]; done) | (simp; done)) | (refine str_eq ?_; simp; done) | (refine ptr_eq ?_; omega) | fail) ?_)) ?_ <;> (try dsimp only)
        · omega
        · omega
        · exact Ent.refl _
  · have : k = 8 := by omega
    subst this
    rw [hl] at hb
    cases hj : bestTo l 8 with
    | none => exact absurd hj hb
    | some j =>
      obtain ⟨hj1, hj2⟩ := bestTo_some hj
      have hj8 : j < l.length := by omega
      simp only [bestP]
      have he : evictT l = (l.set j { l.getD j default with kept := false }).set j { (l.set j { l.getD j default with kept := false }).getD j default with reply := [] } := by
        simp only [evictT, hl, hj, List.set_set]
        simp [hj8]
      rw [he]
      refine r_exit rfl ?_
      refine c_code ?_
      refine r_region (id := 8) ?_
      refine o_give (g_move (evv rfl)) rfl rfl ?_
      refine o_give (g_move (evv rfl)) rfl rfl ?_
      refine o_give (g_nil (evv rfl)) rfl rfl ?_
      refine o_give (g_fld (evv rfl)) rfl rfl ?_
      refine o_storeFl (evv rfl) (evv rfl) (by rfl) (by rfl) (by intro; rfl) (by first | omega | (have := of_decide_eq_true hg; omega) | (simp at hg; omega) | (simp only [List.length_set, List.length_append, List.length_cons, List.length_nil, List.length_map, List.length_take, List.length_drop, List.length_replicate]; omega)) (by rfl) ?_
      refine o_give (g_nil (evv rfl)) rfl rfl ?_
      refine o_give (g_fld (evv rfl)) rfl rfl ?_
      refine o_storeFl (evv rfl) (evv rfl) (by rfl) (by rfl) (by intro; rfl) (by first | omega | (have := of_decide_eq_true hg; omega) | (simp at hg; omega) | (simp only [List.length_set, List.length_append, List.length_cons, List.length_nil, List.length_map, List.length_take, List.length_drop, List.length_replicate]; omega)) (by rfl) ?_
      refine o_nil ?_
      first | refine r_ret (rs := []) rfl rfl _ (Ent.refl _) ?_ | refine c_end (rs := []) rfl rfl _ (Ent.refl _) ?_
      (refine ⟨?_, ?_⟩ <;> first | rfl | trivial | omega)
/-- what isn't kept has no reply -/
def wfS (l : List Seat) : Prop := ∀ s ∈ l, s.kept = false → s.reply = []
def kc (l : List Seat) : Nat := l.countP fun s => s.kept
theorem set_mem {α : Type} {l : List α} {i : Nat} {a x : α} (h : x ∈ l.set i a) : x ∈ l ∨ x = a := by
  rcases List.mem_or_eq_of_mem_set h with h | h
  · exact .inl h
  · exact .inr h
theorem evict_wf {l : List Seat} (h : wfS l) : wfS (evictT l) := by
  unfold evictT
  split
  · exact h
  · intro s hs hk
    rcases set_mem hs with hs | rfl
    · exact h s hs hk
    · rfl
theorem evict_len (l : List Seat) : (evictT l).length = l.length := by unfold evictT; split <;> simp
theorem repB_set_le {l : List Seat} {i : Nat} {a : Seat} (ha : a.reply.length ≤ (l.getD i default).reply.length) : repB (l.set i a) ≤ repB l := by
  induction l generalizing i with
  | nil => simp
  | cons b l ih =>
    cases i with
    | zero => simp [repB] at ha ⊢; omega
    | succ i => have := ih (i := i) (by simpa using ha); simp [repB] at this ⊢; omega
theorem evict_rep (l : List Seat) : repB (evictT l) ≤ repB l := by
  unfold evictT
  split
  · exact Nat.le_refl _
  · exact repB_set_le (by simp)
theorem best_some_of {l : List Seat} (hw : wfS l) (h : 0 < repB l) : bestTo l l.length ≠ none := by
  intro hn
  have hz : ∀ s ∈ l, s.reply.length = 0 := by
    intro s hs
    obtain ⟨i, hi, rfl⟩ := List.getElem_of_mem hs
    have := bestTo_none hn i hi
    have h2 : l.getD i default = l[i] := by simp [hi]
    rw [h2] at this
    rw [hw _ (List.getElem_mem hi) this]; rfl
  have : repB l = 0 := by
    unfold repB
    have : (l.map fun s => s.reply.length) = l.map fun _ => 0 := List.map_congr_left fun s hs => hz s hs
    rw [this]; simp [List.map_const']
  omega
theorem kc_set {l : List Seat} {i : Nat} {a : Seat} (hi : i < l.length) (h1 : (l.getD i default).kept = true) (h2 : a.kept = false) : kc (l.set i a) + 1 = kc l := by
  induction l generalizing i with
  | nil => simp at hi
  | cons b l ih =>
    cases i with
    | zero => simp at h1; simp [kc, h1, h2]
    | succ i => have := ih (i := i) (by simpa using hi) (by simpa using h1); simp only [kc, List.set_cons_succ, List.countP_cons] at this ⊢; omega
theorem kc_evict {l : List Seat} (h : bestTo l l.length ≠ none) : kc (evictT l) + 1 = kc l := by
  unfold evictT
  split
  · exact absurd ‹_› h
  · rename_i j hj
    obtain ⟨h1, h2⟩ := bestTo_some hj
    exact kc_set h1 h2 rfl
/-- replies go till there is room -/
def evAll (room : Int) : Nat → List Seat → List Seat
  | 0, l => l
  | n + 1, l => if room < repB l then evAll room n (evictT l) else l
def evicted (room : Int) (l : List Seat) : List Seat := evAll room (kc l) l
theorem evicted_step {room : Int} {l : List Seat} (h0 : 0 ≤ room) (hw : wfS l) (h : room < repB l) : evicted room l = evicted room (evictT l) := by
  have hb := best_some_of hw (by omega)
  have := kc_evict hb
  unfold evicted
  rw [← this, evAll, if_pos h]
theorem evicted_stop {room : Int} {l : List Seat} (h : ¬ room < repB l) : evicted room l = l := by
  unfold evicted
  cases kc l with
  | zero => rfl
  | succ n => rw [evAll, if_neg h]
def newSeat (client number at_ : Int) (reply : List UInt8) : Seat := ⟨client, number, at_, true, reply⟩
def recT (room : Int) (l : List Seat) (client number at_ : Int) (reply : List UInt8) : Int × List Seat :=
  if (lookT l client number).1 = 0 then (1, l) else if (lookT l client number).1 ≠ 1 then (6, l) else if 8192 < reply.length then (2, l) else
    (0, evicted room (l.set (client - 1).toNat (newSeat client number at_ reply)))
theorem wfS_set {l : List Seat} {i : Nat} {a : Seat} (h : wfS l) (ha : a.kept = false → a.reply = []) : wfS (l.set i a) := by
  intro s hs hk
  rcases set_mem hs with hs | rfl
  · exact h s hs hk
  · exact ha hk
theorem repB_set {l : List Seat} {i : Nat} {a : Seat} : repB (l.set i a) ≤ repB l + a.reply.length := by
  induction l generalizing i with
  | nil => simp
  | cons b l ih =>
    cases i with
    | zero => simp [repB]; omega
    | succ i => have := ih (i := i); simp [repB] at this ⊢; omega
theorem Record_g {g : Atom → List Atom} {b : Nat} [hp : ∀ c, Pick (blk b) (g (blk b c)) c g] (room : Int) (l : List Seat) (client number at_ : Int) (reply : List UInt8) (hc : inR .i64 client) (hl : l.length = 8) (h0 : 0 ≤ room) (hw : wfS l) (hb : repB l ≤ 1000000) :
    Fn Try.prog 12 [.pointer (some ⟨b, 0, none⟩), .int .i64 client, .int .i64 number, .int .i64 at_, str reply] (g (blk b (tblB room l))) fun v L' => v = .int .i64 (recT room l client number at_ reply).1 ∧ L' = g (blk b (tblB room (recT room l client number at_ reply).2)) := by
  refine fn_intro Try.func12 rfl Try.ntmps12 rfl (fun W0 => ?_)
  simp only [argE]
  refine r_seq ?_
  refine r_region (id := 0) ?_
  refine o_give (g_assign (evv rfl)) rfl rfl ?_
  refine o_nil ?_
  refine c_code ?_
  refine r_seq ?_
  refine r_seq ?_
  refine r_region (id := 1) ?_
  refine o_give (g_move (evv rfl)) rfl rfl ?_
  refine o_give (g_pnil TyU.h (evv rfl) (evv rfl) (by simp) (by rfl)) rfl rfl ?_
  refine o_nil ?_
  refine c_code ?_
  refine r_cond_false rfl ?_
  refine r_skip ?_
  refine c_code ?_
  refine r_seq ?_
  simp only [recT]
  refine r_region (id := 3) ?_
  refine o_give (g_move (evv rfl)) rfl rfl ?_
  refine o_give (g_move (evv rfl)) rfl rfl ?_
  refine o_give (g_move (evv rfl)) rfl rfl ?_
  (refine o_call rfl _ (Ent.refl _) (Fn.atPick (Look_g _ _ _ _ (by first | assumption | (simp only [inR]; omega)) (by assumption))) rfl ?_; rintro _ _ ⟨rfl, rfl⟩)
  refine o_give (g_move (evv rfl)) rfl rfl ?_
  refine o_give (g_extract (evv rfl) (by rfl)) rfl rfl ?_
  refine o_give (g_extract (evv rfl) (by rfl)) rfl rfl ?_
  refine o_give (g_assign (evv rfl)) rfl rfl ?_
  refine o_give (g_assign (evv rfl)) rfl rfl ?_
  refine o_nil ?_
  refine c_code ?_
  refine r_seq ?_
  refine r_block ?_
  refine r_seq ?_
  refine r_region (id := 4) ?_
  refine o_give (g_move (evv rfl)) rfl rfl ?_
  refine o_give (g_bin (evv rfl) (evv rfl) (by rfl)) rfl rfl ?_
  refine o_give (g_assign (evv rfl)) rfl rfl ?_
  refine o_nil ?_
  refine c_code ?_
  refine r_cond rfl (fun h1 => ?_) (fun h1 => ?_) <;> (try simp only [decide_eq_true_eq, decide_eq_false_iff_not, Bool.and_eq_true, Bool.or_eq_true, Bool.not_eq_true', Bool.and_eq_false_iff, Bool.or_eq_false_iff, Bool.not_eq_false', Bool.not_eq_true, Bool.not_eq_false, Bool.true_eq_false, Bool.false_eq_true, Int.not_lt, Int.not_le, not_and, not_or, ne_eq] at h1)
  · rw [if_pos h1]
    refine r_seq ?_
    refine r_region (id := 5) ?_
    refine o_give (g_assign (evv rfl)) rfl rfl ?_
    refine o_nil ?_
    refine c_code ?_
    first | refine r_ret (rs := [.tmp 10]) rfl rfl _ (Ent.refl _) ?_ | refine c_end (rs := [.tmp 10]) rfl rfl _ (Ent.refl _) ?_
    (refine ⟨?_, ?_⟩ <;> first | rfl | trivial | omega)
  · rw [if_neg h1]
    refine r_seq ?_
    refine r_region (id := 6) ?_
    refine o_give (g_move (evv rfl)) rfl rfl ?_
    refine o_give (g_bin (evv rfl) (evv rfl) (by rfl)) rfl rfl ?_
    refine o_give (g_assign (evv rfl)) rfl rfl ?_
    refine o_nil ?_
    refine c_code ?_
    refine r_cond rfl (fun h2 => ?_) (fun h2 => ?_) <;> (try simp only [decide_eq_true_eq, decide_eq_false_iff_not, Bool.and_eq_true, Bool.or_eq_true, Bool.not_eq_true', Bool.and_eq_false_iff, Bool.or_eq_false_iff, Bool.not_eq_false', Bool.not_eq_true, Bool.not_eq_false, Bool.true_eq_false, Bool.false_eq_true, Int.not_lt, Int.not_le, not_and, not_or, ne_eq] at h2)
    · rw [if_pos h2]
      refine r_seq ?_
      refine r_region (id := 7) ?_
      refine o_give (g_assign (evv rfl)) rfl rfl ?_
      refine o_nil ?_
      refine c_code ?_
      first | refine r_ret (rs := [.tmp 10]) rfl rfl _ (Ent.refl _) ?_ | refine c_end (rs := [.tmp 10]) rfl rfl _ (Ent.refl _) ?_
      (refine ⟨?_, ?_⟩ <;> first | rfl | trivial | omega)
    · rw [if_neg (by simpa using h2)]
      refine r_seq ?_
      refine r_region (id := 8) ?_
      refine o_give (g_move (evv rfl)) rfl rfl ?_
      refine o_give (g_lenS TyU.h (evv rfl)) rfl rfl ?_
      refine o_give (g_bin (evv rfl) (evv rfl) (by rfl)) rfl rfl ?_
      refine o_give (g_assign (evv rfl)) rfl rfl ?_
      refine o_nil ?_
      refine c_code ?_
      refine r_cond rfl (fun h3 => ?_) (fun h3 => ?_) <;> (try simp only [decide_eq_true_eq, decide_eq_false_iff_not, Bool.and_eq_true, Bool.or_eq_true, Bool.not_eq_true', Bool.and_eq_false_iff, Bool.or_eq_false_iff, Bool.not_eq_false', Bool.not_eq_true, Bool.not_eq_false, Bool.true_eq_false, Bool.false_eq_true, Int.not_lt, Int.not_le, not_and, not_or, ne_eq] at h3)
      · rw [if_pos (by omega)]
        refine r_seq ?_
        refine r_region (id := 9) ?_
        refine o_give (g_assign (evv rfl)) rfl rfl ?_
        refine o_nil ?_
        refine c_code ?_
        first | refine r_ret (rs := [.tmp 10]) rfl rfl _ (Ent.refl _) ?_ | refine c_end (rs := [.tmp 10]) rfl rfl _ (Ent.refl _) ?_
        (refine ⟨?_, ?_⟩ <;> first | rfl | trivial | omega)
      · rw [if_neg (by omega)]
        have h4 : (lookT l client number).1 = 1 := by simpa using h2
        have h5 : ¬ badRq client number := by
          intro hh; simp only [lookT, if_pos hh] at h4; cases h4
        simp only [badRq] at h5
        have h6 : 1 ≤ client ∧ client ≤ 8 := by omega
        have hi : (client - 1).toNat < l.length := by omega
        generalize hl1 : l.set (client - 1).toNat (newSeat client number at_ reply) = l1
        have g1 : l1.length = 8 := by rw [← hl1]; simpa using hl
        have g2 : wfS l1 := by rw [← hl1]; exact wfS_set hw (by simp [newSeat])
        have g3 : repB l1 ≤ 1008192 := by
          have := repB_set (l := l) (i := (client - 1).toNat) (a := newSeat client number at_ reply)
          rw [hl1] at this; simp only [newSeat] at this; omega
        refine r_skip ?_
        refine c_blk ?_
        refine c_code ?_
        refine r_seq ?_
        refine r_region (id := 10) ?_
        refine o_give (g_move (evv rfl)) rfl rfl ?_
        refine o_give (g_move (evv rfl)) rfl rfl ?_
        (refine o_call rfl _ (Ent.refl _) (seat_in _ _ _ (by omega)) rfl ?_; rintro _ _ ⟨rfl, rfl⟩)
        refine o_give (g_move (evv rfl)) rfl rfl ?_
        refine o_give (g_move (evv rfl)) rfl rfl ?_
        refine o_give (g_move (evv rfl)) rfl rfl ?_
        refine o_give (g_move (evv rfl)) rfl rfl ?_
        refine o_give (g_buildC rfl (by rfl)) rfl rfl ?_
        refine o_give (g_nil (evv rfl)) rfl rfl ?_
        refine o_storeFlA (evv rfl) (evv rfl) (by rfl) (by first | exact AllOne.h | fail) (by rfl) (by intro; rfl) (by first | omega | (have := of_decide_eq_true hg; omega) | (simp at hg; omega) | (simp only [List.length_set, List.length_append, List.length_cons, List.length_nil, List.length_map, List.length_take, List.length_drop, List.length_replicate]; omega)) ?_
        refine o_nil ?_
        refine c_code ?_
        refine r_seq ?_
        refine r_block ?_
        refine r_loopE (σ := List Seat) (fun l' => l'.length = 8 ∧ wfS l' ∧ repB l' ≤ 1008192 ∧ evicted room l' = evicted room l1) (fun l' => kc l') (fun l' => []) [0] (fun l' => g (blk b (tblB room l'))) l1 (by dsimp only [pickE, pick1, lk2, Nat.reduceBEq, Nat.reduceAdd, Nat.zero_add, cond_true, cond_false] <;> exact rfl) ?_ (by repeat (first | exact trivial | refine ⟨rfl, ?_⟩ | refine envsub_v rfl (by first | rfl | (refine int_eq ?_; first | omega | (simp; omega) | (simp; done)) | (refine bool_eq ?_; first | (simp [*]; done) | (simp; done)) | (refine str_eq ?_; simp; done) | (refine ptr_eq ?_; omega) | fail) ?_)) ?_ ?_
        · exact ⟨g1, g2, g3, rfl⟩
        · rw [← hl1]; exact Ent.refl _
        rintro l' ⟨k1, k2, k3, k4⟩; dsimp only [List.cons_append, List.nil_append]
        have k5 : repB l' ≤ 4611686018427387904 := by omega
        repeat (first | refine r_seq ?_ | refine c_code ?_ | refine c_blk ?_ | refine r_block ?_ | refine r_skip ?_)
        refine r_cutE (σ := Unit) (fun u => [(47, .v (.bool (decide (room < (repB l' : Int)))))]) [0] (fun u => g (blk b (tblB room l'))) (by dsimp only [pickE, pick1, lk2, Nat.reduceBEq, Nat.reduceAdd, Nat.zero_add, cond_true, cond_false] <;> exact rfl) ?_ ?_
        · refine r_held (id := 11) [] Mixed.h ?_
          (refine h_give (i := 0) (by kernel_rfl) rfl (g_move (evv rfl)) rfl rfl ?_)
          (refine h_give (i := 2) (by kernel_rfl) rfl (g_move (evv rfl)) rfl rfl ?_)
          (refine h_give (i := 3) (by kernel_rfl) rfl (g_nil (evv rfl)) rfl rfl ?_)
          (refine h_give (i := 4) (by kernel_rfl) rfl (g_fld (evv rfl)) rfl rfl ?_)
          refine h_two (i := 1) (j := 5) (by kernel_rfl) rfl rfl (Ent.nil _) ?_ ?_
          · ((refine o_call rfl _ (Ent.refl _) (Fn.atPick (bytes_g _ _ (by assumption) (by assumption))) rfl ?_; rintro _ _ ⟨rfl, rfl⟩)); refine o_nil ?_
            refine h_one (i := 5) (by kernel_rfl) rfl (Ent.nil _) ?_
            (refine o_give (g_load (evv rfl) (by rfl) (by rfl)) rfl rfl ?_); refine o_nil ?_
            (refine h_give (i := 6) (by kernel_rfl) rfl (g_bin (evv rfl) (evv rfl) (by rfl)) rfl rfl ?_)
            refine h_done (by kernel_rfl) (Ent.nil _) ?_
            exact c_cut () (by repeat (first | exact trivial | refine ⟨rfl, ?_⟩ | refine envsub_v rfl (by first | rfl | (refine int_eq ?_; first | omega | (simp; omega) | (simp; done)) | (refine bool_eq ?_; first | (simp [*]; done) | (simp; done)) | (refine str_eq ?_; simp; done) | (refine ptr_eq ?_; omega) | fail) ?_)) (Ent.refl _)
          · (refine o_give (g_load (evv rfl) (by rfl) (by rfl)) rfl rfl ?_); refine o_nil ?_
            refine h_one (i := 1) (by kernel_rfl) rfl (Ent.nil _) ?_
            ((refine o_call rfl _ (Ent.refl _) (Fn.atPick (bytes_g _ _ (by assumption) (by assumption))) rfl ?_; rintro _ _ ⟨rfl, rfl⟩)); refine o_nil ?_
            (refine h_give (i := 6) (by kernel_rfl) rfl (g_bin (evv rfl) (evv rfl) (by rfl)) rfl rfl ?_)
            refine h_done (by kernel_rfl) (Ent.nil _) ?_
            exact c_cut () (by repeat (first | exact trivial | refine ⟨rfl, ?_⟩ | refine envsub_v rfl (by first | rfl | (refine int_eq ?_; first | omega | (simp; omega) | (simp; done)) | (refine bool_eq ?_; first | (simp [*]; done) | (simp; done)) | (refine str_eq ?_; simp; done) | (refine ptr_eq ?_; omega) | fail) ?_)) (Ent.refl _)
        intro u
        dsimp only [List.cons_append, List.nil_append]
        refine c_code ?_
        refine r_cond rfl (fun h7 => ?_) (fun h7 => ?_) <;> (try simp only [decide_eq_true_eq, decide_eq_false_iff_not, Bool.and_eq_true, Bool.or_eq_true, Bool.not_eq_true', Bool.and_eq_false_iff, Bool.or_eq_false_iff, Bool.not_eq_false', Bool.not_eq_true, Bool.not_eq_false, Bool.true_eq_false, Bool.false_eq_true, Int.not_lt, Int.not_le, not_and, not_or, ne_eq] at h7)
        · have k6 := best_some_of k2 (by omega)
          refine r_skip ?_
          refine c_code ?_
          refine r_block ?_
          refine r_region (id := 12) ?_
          refine o_give (g_move (evv rfl)) rfl rfl ?_
          (refine o_call rfl _ (Ent.refl _) (Fn.atPick (evict_g _ _ (by assumption) (by assumption))) rfl ?_; rintro _ _ ⟨rfl, rfl⟩)
          refine o_nil ?_
          refine c_blk ?_
          refine c_loop (evictT l') ?_ ?_ (by repeat (first | exact trivial | refine ⟨rfl, ?_⟩ | refine envsub_v rfl (by first | rfl | (refine int_eq ?_; first | omega | (simp; omega) | (simp; done)) | (refine bool_eq ?_; first | (simp [*]; done) | (simp; done)) | (refine str_eq ?_; simp; done) | (refine ptr_eq ?_; omega) | fail) ?_)) ?_ <;> (try dsimp only)
          · exact ⟨by rw [evict_len, k1], evict_wf k2, Nat.le_trans (evict_rep l') k3, by rw [← k4]; exact (evicted_step h0 k2 h7).symm⟩
          · have := kc_evict k6; omega
          · exact Ent.refl _
        · have k6 := evicted_stop (room := room) (l := l') (by omega)
          rw [← k4, k6]
          refine r_exit rfl ?_
          refine c_code ?_
          refine r_seq ?_
          refine r_region (id := 13) ?_
          refine o_give (g_assign (evv rfl)) rfl rfl ?_
          refine o_nil ?_
          refine c_code ?_
          first | refine r_ret (rs := [.tmp 10]) rfl rfl _ (Ent.refl _) ?_ | refine c_end (rs := [.tmp 10]) rfl rfl _ (Ent.refl _) ?_
          (refine ⟨?_, ?_⟩ <;> first | rfl | trivial | omega)
end VK
