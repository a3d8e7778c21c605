/- What the reference platter's methods do. Conditions: few bytes. -/
import Derived.Test.YtbhlcncfpkfopaaPlat3
namespace VK
open Go Go.Proofs
set_option linter.unusedSimpArgs false
set_option linter.unusedVariables false
set_option maxRecDepth 100000
set_option maxHeartbeats 40000000
abbrev rpB (b0 b1 : List UInt8) (s0 s1 lv am : Nat) (dn : Bool) : Blk := ⟨[str b0, str b1, .int .i64 (s0 : Int), .int .i64 (s1 : Int), .int .i64 (lv : Int), .int .i64 (am : Int), .bool dn], 43⟩
def rp (r : Nat) (x : Pt) : Atom := blk r (rpB x.b0 x.b1 x.s0 x.s1 x.live x.armed x.down)
theorem rp_open {r : Nat} {b0 b1 : List UInt8} {s0 s1 lv am : Nat} {dn : Bool} {c : Cx} {k : List KI} {E : Env} {L : List Atom} {x : Code} (h : Run c x k E (blk r (rpB b0 b1 s0 s1 lv am dn) :: L)) : Run c x k E (rp r ⟨b0, s0, b1, s1, lv, am, dn⟩ :: L) := h
theorem rp_shut {r : Nat} {b0 b1 : List UInt8} {s0 s1 lv am : Nat} {dn : Bool} {L : List Atom} : Ent (blk r (rpB b0 b1 s0 s1 lv am dn) :: L) (rp r ⟨b0, s0, b1, s1, lv, am, dn⟩ :: L) := Ent.refl _
theorem goes_c (F : List Atom) (r : Nat) (x : Pt) (hd : x.down = false) (ha : x.armed ≤ 9223372036854775807) :
    Fn Try.prog 28 [.pointer (some ⟨r, 0, none⟩)] (rp r x :: F) fun v L' => v = .bool (decide (x.armed = 1)) ∧ L' = rp r (tick x) :: F := by
  obtain ⟨b0, s0, b1, s1, lv, am, dn⟩ := x
  dsimp only at hd ha
  subst hd
  refine fn_intro Try.func28 rfl Try.ntmps28 rfl (fun W0 => ?_)
  simp only [argE]
  refine rp_open ?_
  refine r_seq ?_
  refine r_region (id := 0) ?_
  refine o_give (g_assign (evv rfl)) rfl rfl ?_
  refine o_nil ?_
  refine c_code ?_
  refine r_seq ?_
  refine r_seq ?_
  refine r_region (id := 1) ?_
  refine o_give (g_move (evv rfl)) rfl rfl ?_
  refine o_give (g_nil (evv rfl)) rfl rfl ?_
  refine o_give (g_fld (evv rfl)) rfl rfl ?_
  refine o_give (g_load (evv rfl) (by rfl) (by rfl)) rfl rfl ?_
  refine o_give (g_bin (evv rfl) (evv rfl) (by rfl)) rfl rfl ?_
  refine o_nil ?_
  refine c_code ?_
  refine r_cond rfl (fun h => ?_) (fun h => ?_) <;> (try simp only [decide_eq_true_eq, decide_eq_false_iff_not, Bool.and_eq_true, Bool.or_eq_true, Bool.not_eq_true', Bool.and_eq_false_iff, Bool.or_eq_false_iff, Bool.not_eq_false', Bool.not_eq_true, Bool.not_eq_false, Bool.true_eq_false, Bool.false_eq_true, Int.not_lt, Int.not_le, not_and, not_or, ne_eq] at h)
  · have : am = 0 := by omega
    subst this
    refine r_seq ?_
    refine r_region (id := 2) ?_
    refine o_give (g_assign (evv rfl)) rfl rfl ?_
    refine o_nil ?_
    refine c_code ?_
    first | refine r_ret (rs := [.tmp 2]) rfl rfl _ (rp_shut) ?_ | refine c_end (rs := [.tmp 2]) rfl rfl _ (rp_shut) ?_
    (refine ⟨?_, ?_⟩ <;> first | rfl | trivial | omega)
  · have e1 : (am : Int) - 1 = ((am - 1 : Nat) : Int) := by omega
    have e2 : decide ((am : Int) - 1 = 0) = decide (am = 1) := by rw [decide_eq_decide]; omega
    refine r_skip ?_
    refine c_code ?_
    refine r_seq ?_
    refine r_region (id := 3) ?_
    refine o_give (g_move (evv rfl)) rfl rfl ?_
    refine o_give (g_nil (evv rfl)) rfl rfl ?_
    refine o_give (g_fld (evv rfl)) rfl rfl ?_
    refine o_give (g_load (evv rfl) (by rfl) (by rfl)) rfl rfl ?_
    refine o_giveN (g_bin (evv rfl) (evv rfl) (by rfl)) (by simp only [inR]; omega) rfl ?_
    refine o_give (g_nil (evv rfl)) rfl rfl ?_
    refine o_give (g_fld (evv rfl)) rfl rfl ?_
    refine o_store1 (evv rfl) (evv rfl) (by rfl) (by rfl) (by rfl) ?_
    refine o_nil ?_
    refine c_code ?_
    refine r_seq ?_
    refine r_region (id := 4) ?_
    refine o_give (g_move (evv rfl)) rfl rfl ?_
    refine o_give (g_move (evv rfl)) rfl rfl ?_
    refine o_give (g_nil (evv rfl)) rfl rfl ?_
    refine o_give (g_fld (evv rfl)) rfl rfl ?_
    refine o_give (g_load (evv rfl) (by rfl) (by rfl)) rfl rfl ?_
    refine o_give (g_bin (evv rfl) (evv rfl) (by rfl)) rfl rfl ?_
    refine o_give (g_nil (evv rfl)) rfl rfl ?_
    refine o_give (g_fld (evv rfl)) rfl rfl ?_
    refine o_store1 (evv rfl) (evv rfl) (by rfl) (by rfl) (by rfl) ?_
    refine o_nil ?_
    refine c_code ?_
    refine r_seq ?_
    refine r_region (id := 5) ?_
    refine o_give (g_move (evv rfl)) rfl rfl ?_
    refine o_give (g_nil (evv rfl)) rfl rfl ?_
    refine o_give (g_fld (evv rfl)) rfl rfl ?_
    refine o_give (g_load (evv rfl) (by rfl) (by rfl)) rfl rfl ?_
    refine o_give (g_assign (evv rfl)) rfl rfl ?_
    refine o_nil ?_
    refine c_code ?_
    rw [e2, e1]
    first | refine r_ret (rs := [.tmp 2]) rfl rfl _ (rp_shut) ?_ | refine c_end (rs := [.tmp 2]) rfl rfl _ (rp_shut) ?_
    (refine ⟨?_, ?_⟩ <;> first | rfl | trivial | omega)
def keepT (ks : List Int) (i : Nat) : Nat := if i < ks.length then (max (ks.getD i default) 0).toNat else 0
theorem more_keep (ks : List Int) (i n s : Nat) : moreT ks i n s = min (keepT ks i) (n - s) := by unfold moreT keepT; split <;> omega
theorem rcut_c (F : List Atom) (r : Nat) (x : Pt) (h : x.ok) (kv : Value) (ks : List Int) [rd : Rd F kv (mrow i64v 3 ks)] (hk : ∀ k ∈ ks, inR .i64 k) :
    Fn Try.prog 27 [.pointer (some ⟨r, 0, none⟩), kv] (rp r x :: F) fun v L' => v = .tuple #[] ∧ L' = rp r (cutT x ks) :: F := by
  refine fn_lenM (rd.ent Ent.drop) fun hlen => ?_
  have hlen : ks.length ≤ 2 ^ 63 - 1 := hlen
  obtain ⟨hl, ha, hb, hn0, hn1, har⟩ := h
  obtain ⟨b0, s0, b1, s1, lv, am, dn⟩ := x
  dsimp only at hl ha hb hn0 hn1 har
  refine fn_intro Try.func27 rfl Try.ntmps27 rfl (fun W0 => ?_)
  simp only [argE]
  refine rp_open ?_
  refine r_seq ?_
  refine r_seq ?_
  refine r_region (id := 0) ?_
  refine o_give (g_assign (evv rfl)) rfl rfl ?_
  refine o_nil ?_
  refine c_code ?_
  refine r_block ?_
  refine r_loopE (σ := Nat × List UInt8 × Nat × List UInt8 × Nat) (fun ⟨i, c0, t0, c1, t1⟩ => i ≤ 2 ∧ c0 = (if i = 0 then b0 else cutAt ks 0 b0 s0) ∧ t0 = (if i = 0 then s0 else (cutAt ks 0 b0 s0).length) ∧ c1 = (if i < 2 then b1 else cutAt ks 1 b1 s1) ∧ t1 = (if i < 2 then s1 else (cutAt ks 1 b1 s1).length)) (fun ⟨i, c0, t0, c1, t1⟩ => 2 - i) (fun ⟨i, c0, t0, c1, t1⟩ => [(4, .v (.int .i64 i))]) [0, 1] (fun ⟨i, c0, t0, c1, t1⟩ => blk r (rpB c0 c1 t0 t1 lv am dn) :: F) (0, b0, s0, b1, s1) (by dsimp only [pickE, pick1, lk2, Nat.reduceBEq, Nat.reduceAdd, Nat.zero_add, cond_true, cond_false] <;> exact rfl) ?_ (by repeat (first | exact trivial | refine ⟨rfl, ?_⟩ | refine envsub_v rfl (by first | rfl | (refine int_eq ?_; first | omega | (simp; omega) | (simp; done)) | (refine bool_eq ?_; first | (simp [*]; done) | (simp; done)) | (refine str_eq ?_; simp; done) | (refine ptr_eq ?_; omega) | fail) ?_)) ?_ ?_
  · exact ⟨by omega, rfl, rfl, rfl, rfl⟩
  · exact Ent.refl _
  rintro ⟨i, c0, t0, c1, t1⟩ ⟨hi, e1, e2, e3, e4⟩; dsimp only [List.cons_append, List.nil_append]
  rcases (by omega : i = 0 ∨ i = 1 ∨ i = 2) with rfl | rfl | rfl
  · simp [show ¬ (1 : Nat) = 0 from by decide] at e1 e2 e3 e4
    rw [e1, e2, e3, e4]
    clear e1 e2 e3 e4
    have hm := more_le ks 0 b0.length s0
    have hc0 := cut_le ks 0 b0 s0
    have hc1 := cut_le ks 1 b1 s1
    refine r_seq ?_
    refine r_seq ?_
    refine r_region (id := 1) ?_
    refine o_give (g_move (evv rfl)) rfl rfl ?_
    refine o_give (g_bin (evv rfl) (evv rfl) (by rfl)) rfl rfl ?_
    refine o_nil ?_
    refine c_code ?_
    refine r_cond_true rfl ?_
    refine r_skip ?_
    refine c_code ?_
    refine r_seq ?_
    refine r_block ?_
    refine r_seq ?_
    refine r_region (id := 3) ?_
    refine o_give (g_assign (evv rfl)) rfl rfl ?_
    refine o_nil ?_
    refine c_code ?_
    refine r_seq ?_
    refine r_seq ?_
    refine r_region (id := 4) ?_
    refine o_give (g_move (evv rfl)) rfl rfl ?_
    refine o_give (g_move (evv rfl)) rfl rfl ?_
    refine o_give (g_lenM (evv rfl)) rfl rfl ?_
    refine o_give (g_bin (evv rfl) (evv rfl) (by rfl)) rfl rfl ?_
    refine o_give (g_move (evv rfl)) rfl rfl ?_
    refine o_lazy rfl (fun hg => g_move (by first | exact evv rfl | exact evg rfl (by rw [hp]; rfl) | exact evg rfl hp | exact evg rfl hg | exact evg rfl (by first | (simp_all; done) | (simp [*]; done) | fail) | fail)) rfl rfl ?_
    refine o_lazy rfl (fun hg => g_move (by first | exact evv rfl | exact evg rfl (by rw [hp]; rfl) | exact evg rfl hp | exact evg rfl hg | exact evg rfl (by first | (simp_all; done) | (simp [*]; done) | fail) | fail)) rfl rfl ?_
    refine o_lazy rfl (fun hg => g_idxMN (evg rfl hg) (evg rfl hg) (by rfl) (by first | omega | (have := of_decide_eq_true hg; omega) | (simp at hg; omega) | (simp only [List.length_set, List.length_append, List.length_cons, List.length_nil, List.length_map, List.length_take, List.length_drop, List.length_replicate]; omega))) rfl rfl ?_
    refine o_lazy rfl (fun hg => g_loadM (evg rfl hg) (by rfl) (by first | omega | (have := of_decide_eq_true hg; omega) | (simp at hg; omega) | (simp only [List.length_set, List.length_append, List.length_cons, List.length_nil, List.length_map, List.length_take, List.length_drop, List.length_replicate]; omega))) rfl rfl ?_
    refine o_lazy rfl (fun hg => g_bin (by first | exact evv rfl | exact evg rfl (by rw [hp]; rfl) | exact evg rfl hp | exact evg rfl hg | exact evg rfl (by first | (simp_all; done) | (simp [*]; done) | fail) | fail) (by first | exact evv rfl | exact evg rfl (by rw [hp]; rfl) | exact evg rfl hp | exact evg rfl hg | exact evg rfl (by first | (simp_all; done) | (simp [*]; done) | fail) | fail) (by rfl)) rfl rfl ?_
    refine o_give (g_pick_and (evv rfl) (evv rfl) (fun hp => (by first | exact evv rfl | exact evg rfl (by rw [hp]; rfl) | exact evg rfl hp | exact evg rfl hg | exact evg rfl (by first | (simp_all; done) | (simp [*]; done) | fail) | fail))) rfl rfl ?_
    refine o_nil ?_
    refine c_code ?_
    repeat (first | refine r_seq ?_ | refine c_code ?_ | refine c_blk ?_ | refine r_block ?_ | refine r_skip ?_)
    refine r_cutE (σ := Unit) (fun u => [(5, .v (.int .i64 ((keepT ks 0 : Nat) : Int)))]) [0,1,4] (fun u => blk r (rpB b0 b1 s0 s1 lv am dn) :: F) (by dsimp only [pickE, pick1, lk2, Nat.reduceBEq, Nat.reduceAdd, Nat.zero_add, cond_true, cond_false] <;> exact rfl) ?_ ?_
    · refine r_cond rfl (fun hk0 => ?_) (fun hk0 => ?_) <;> (try simp only [decide_eq_true_eq, decide_eq_false_iff_not, Bool.and_eq_true, Bool.or_eq_true, Bool.not_eq_true', Bool.and_eq_false_iff, Bool.or_eq_false_iff, Bool.not_eq_false', Bool.not_eq_true, Bool.not_eq_false, Bool.true_eq_false, Bool.false_eq_true, Int.not_lt, Int.not_le, not_and, not_or, ne_eq] at hk0)
      · refine r_region (id := 5) ?_
        refine o_give (g_move (evv rfl)) rfl rfl ?_
        refine o_give (g_move (evv rfl)) rfl rfl ?_
        refine o_give (g_idxMN (evv rfl) (evv rfl) (by rfl) (by first | omega | (have := of_decide_eq_true hg; omega) | (simp at hg; omega) | (simp only [List.length_set, List.length_append, List.length_cons, List.length_nil, List.length_map, List.length_take, List.length_drop, List.length_replicate]; omega))) rfl rfl ?_
        refine o_give (g_loadM (evv rfl) (by rfl) (by first | omega | (have := of_decide_eq_true hg; omega) | (simp at hg; omega) | (simp only [List.length_set, List.length_append, List.length_cons, List.length_nil, List.length_map, List.length_take, List.length_drop, List.length_replicate]; omega))) rfl rfl ?_
        refine o_give (g_assign (evv rfl)) rfl rfl ?_
        refine o_nil ?_
        have e5 : ks.getD 0 default = ((keepT ks 0 : Nat) : Int) := by
          unfold keepT
          rw [if_pos (by omega)]
          omega
        simp only [i64v] at *
        rw [e5]
        exact c_cut () (by repeat (first | exact trivial | refine ⟨rfl, ?_⟩ | refine envsub_v rfl (by first | rfl | (refine int_eq ?_; first | omega | (simp; omega) | (simp; done)) | (refine bool_eq ?_; first | (simp [*]; done) | (simp; done)) | (refine str_eq ?_; simp; done) | (refine ptr_eq ?_; omega) | fail) ?_)) (Lay.ent)
      · have e6 : keepT ks 0 = 0 := by
          unfold keepT
          split
          · omega
          · rfl
        rw [e6]
        refine r_skip ?_
        exact c_cut () (by repeat (first | exact trivial | refine ⟨rfl, ?_⟩ | refine envsub_v rfl (by first | rfl | (refine int_eq ?_; first | omega | (simp; omega) | (simp; done)) | (refine bool_eq ?_; first | (simp [*]; done) | (simp; done)) | (refine str_eq ?_; simp; done) | (refine ptr_eq ?_; omega) | fail) ?_)) (Lay.ent)
    intro n
    dsimp only [List.cons_append, List.nil_append]
    have e7 : (b0.drop 0).take (s0 + moreT ks 0 b0.length s0 - 0) = cutAt ks 0 b0 s0 := by simp only [cutAt, List.drop_zero, Nat.sub_zero]
    have hmk := more_keep ks 0 b0.length s0
    refine c_code ?_
    refine r_seq ?_
    refine r_seq ?_
    refine r_quiet (id := 6) Mixed.h (by kernel_rfl) ?_
    refine q_give (g_move (evv rfl)) rfl rfl ?_
    refine q_give (g_move (evv rfl)) rfl rfl ?_
    refine q_give (g_move (evv rfl)) rfl rfl ?_
    refine q_give (g_nil (evv rfl)) rfl rfl ?_
    refine q_give (g_fld (evv rfl)) rfl rfl ?_
    refine q_give (g_idxAN (evv rfl) (evv rfl) (by omega)) rfl rfl ?_
    refine q_give (g_load (evv rfl) (by rfl) (by rfl)) rfl rfl ?_
    refine q_give (g_lenS TyU.h (evv rfl)) rfl rfl ?_
    refine q_give (g_move (evv rfl)) rfl rfl ?_
    refine q_give (g_move (evv rfl)) rfl rfl ?_
    refine q_give (g_nil (evv rfl)) rfl rfl ?_
    refine q_give (g_fld (evv rfl)) rfl rfl ?_
    refine q_give (g_idxAN (evv rfl) (evv rfl) (by omega)) rfl rfl ?_
    refine q_give (g_load (evv rfl) (by rfl) (by rfl)) rfl rfl ?_
    refine q_giveN (g_bin (evv rfl) (evv rfl) (by rfl)) (by simp only [inR]; omega) rfl ?_
    refine q_give (g_bin (evv rfl) (evv rfl) (by rfl)) rfl rfl ?_
    refine q_nil ?_
    refine c_code ?_
    repeat (first | refine r_seq ?_ | refine c_code ?_ | refine c_blk ?_ | refine r_block ?_ | refine r_skip ?_)
    refine r_cutE (σ := Unit) (fun u => [(5, .v (.int .i64 ((moreT ks 0 b0.length s0 : Nat) : Int)))]) [0,1,4] (fun u => blk r (rpB b0 b1 s0 s1 lv am dn) :: F) (by dsimp only [pickE, pick1, lk2, Nat.reduceBEq, Nat.reduceAdd, Nat.zero_add, cond_true, cond_false] <;> exact rfl) ?_ ?_
    · refine r_cond rfl (fun hk0 => ?_) (fun hk0 => ?_) <;> (try simp only [decide_eq_true_eq, decide_eq_false_iff_not, Bool.and_eq_true, Bool.or_eq_true, Bool.not_eq_true', Bool.and_eq_false_iff, Bool.or_eq_false_iff, Bool.not_eq_false', Bool.not_eq_true, Bool.not_eq_false, Bool.true_eq_false, Bool.false_eq_true, Int.not_lt, Int.not_le, not_and, not_or, ne_eq] at hk0)
      · have e8 : (b0.length : Int) - (s0 : Int) = ((moreT ks 0 b0.length s0 : Nat) : Int) := by omega
        refine r_quiet (id := 7) Mixed.h (by kernel_rfl) ?_
        refine q_give (g_move (evv rfl)) rfl rfl ?_
        refine q_give (g_move (evv rfl)) rfl rfl ?_
        refine q_give (g_nil (evv rfl)) rfl rfl ?_
        refine q_give (g_fld (evv rfl)) rfl rfl ?_
        refine q_give (g_idxAN (evv rfl) (evv rfl) (by omega)) rfl rfl ?_
        refine q_give (g_load (evv rfl) (by rfl) (by rfl)) rfl rfl ?_
        refine q_give (g_lenS TyU.h (evv rfl)) rfl rfl ?_
        refine q_give (g_move (evv rfl)) rfl rfl ?_
        refine q_give (g_move (evv rfl)) rfl rfl ?_
        refine q_give (g_nil (evv rfl)) rfl rfl ?_
        refine q_give (g_fld (evv rfl)) rfl rfl ?_
        refine q_give (g_idxAN (evv rfl) (evv rfl) (by omega)) rfl rfl ?_
        refine q_give (g_load (evv rfl) (by rfl) (by rfl)) rfl rfl ?_
        refine q_giveN (g_bin (evv rfl) (evv rfl) (by rfl)) (by simp only [inR]; omega) rfl ?_
        refine q_give (g_assign (evv rfl)) rfl rfl ?_
        refine q_nil ?_
        rw [e8]
        exact c_cut () (by repeat (first | exact trivial | refine ⟨rfl, ?_⟩ | refine envsub_v rfl (by first | rfl | (refine int_eq ?_; first | omega | (simp; omega) | (simp; done)) | (refine bool_eq ?_; first | (simp [*]; done) | (simp; done)) | (refine str_eq ?_; simp; done) | (refine ptr_eq ?_; omega) | fail) ?_)) (Lay.ent)
      · have e8 : keepT ks 0 = moreT ks 0 b0.length s0 := by omega
        rw [e8]
        refine r_skip ?_
        exact c_cut () (by repeat (first | exact trivial | refine ⟨rfl, ?_⟩ | refine envsub_v rfl (by first | rfl | (refine int_eq ?_; first | omega | (simp; omega) | (simp; done)) | (refine bool_eq ?_; first | (simp [*]; done) | (simp; done)) | (refine str_eq ?_; simp; done) | (refine ptr_eq ?_; omega) | fail) ?_)) (Lay.ent)
    intro u
    dsimp only [List.cons_append, List.nil_append]
    repeat (first | refine r_seq ?_ | refine c_code ?_ | refine c_blk ?_ | refine r_block ?_ | refine r_skip ?_)
    refine r_cutE (σ := Unit) (fun u => []) [0, 1, 4, 5, 6, 7, 10, 11, 12, 13, 14, 15, 16, 17, 18, 19, 20, 21, 22, 23, 24, 25, 26, 27, 28, 29, 30, 31, 32, 33, 34, 35, 36, 37, 38, 39, 40, 41, 42, 43, 44, 45, 46, 47, 48, 49, 50, 51, 52, 53, 54] (fun u => blk r (rpB (cutAt ks 0 b0 s0) b1 s0 s1 lv am dn) :: F) (by dsimp only [pickE, pick1, lk2, Nat.reduceBEq, Nat.reduceAdd, Nat.zero_add, cond_true, cond_false] <;> exact rfl) ?_ ?_
    · refine r_held (id := 8) [] Mixed.h ?_
      (refine h_give (i := 0) (by kernel_rfl) rfl (g_move (evv rfl)) rfl rfl ?_)
      (refine h_give (i := 1) (by kernel_rfl) rfl (g_move (evv rfl)) rfl rfl ?_)
      (refine h_give (i := 2) (by kernel_rfl) rfl (g_move (evv rfl)) rfl rfl ?_)
      (refine h_give (i := 3) (by kernel_rfl) rfl (g_move (evv rfl)) rfl rfl ?_)
      (refine h_give (i := 4) (by kernel_rfl) rfl (g_nil (evv rfl)) rfl rfl ?_)
      (refine h_give (i := 5) (by kernel_rfl) rfl (g_fld (evv rfl)) rfl rfl ?_)
      (refine h_give (i := 6) (by kernel_rfl) rfl (g_idxAN (evv rfl) (evv rfl) (by omega)) rfl rfl ?_)
      (refine h_give (i := 8) (by kernel_rfl) rfl (g_move (evv rfl)) rfl rfl ?_)
      (refine h_give (i := 9) (by kernel_rfl) rfl (g_move (evv rfl)) rfl rfl ?_)
      (refine h_give (i := 10) (by kernel_rfl) rfl (g_nil (evv rfl)) rfl rfl ?_)
      (refine h_give (i := 11) (by kernel_rfl) rfl (g_fld (evv rfl)) rfl rfl ?_)
      (refine h_give (i := 12) (by kernel_rfl) rfl (g_idxAN (evv rfl) (evv rfl) (by omega)) rfl rfl ?_)
      (refine h_give (i := 14) (by kernel_rfl) rfl (g_move (evv rfl)) rfl rfl ?_)
      (refine h_give (i := 17) (by kernel_rfl) rfl (g_nil (evv rfl)) rfl rfl ?_)
      (refine h_give (i := 18) (by kernel_rfl) rfl (g_fld (evv rfl)) rfl rfl ?_)
      refine h_two (i := 7) (j := 13) (by kernel_rfl) rfl rfl (Ent.nil _) ?_ ?_
      · (refine o_give (g_load (evv rfl) (by rfl) (by rfl)) rfl rfl ?_); refine o_nil ?_
        refine h_one (i := 13) (by kernel_rfl) rfl (Ent.nil _) ?_
        (refine o_give (g_load (evv rfl) (by rfl) (by rfl)) rfl rfl ?_); refine o_nil ?_
        (refine h_giveN (i := 15) (by kernel_rfl) rfl (g_bin (evv rfl) (evv rfl) (by rfl)) (by simp only [inR]; omega) rfl ?_)
        (refine h_give (i := 16) (by kernel_rfl) rfl (g_subS (evv rfl) _ _ bnd_none (bnd_some (evv rfl) rfl) (by omega) (by omega)) rfl rfl ?_)
        (refine h_give (i := 19) (by kernel_rfl) rfl (g_idxAN (evv rfl) (evv rfl) (by omega)) rfl rfl ?_)
        refine h_one (i := 20) (by kernel_rfl) rfl (Ent.nil _) ?_
        (refine o_store1 (evv rfl) (evv rfl) (by rfl) (by rfl) (by rfl) ?_); refine o_nil ?_
        refine h_done (by kernel_rfl) (Ent.nil _) ?_
        exact c_cut () (by repeat (first | exact trivial | refine ⟨rfl, ?_⟩ | refine envsub_v rfl (by first | rfl | (refine int_eq ?_; first | omega | (simp; omega) | (simp; done)) | (refine bool_eq ?_; first | (simp [*]; done) | (simp; done)) | (refine str_eq ?_; simp; done) | (refine ptr_eq ?_; omega) | fail) ?_)) (by rw [← e7]; exact Lay.ent)
      · (refine o_give (g_load (evv rfl) (by rfl) (by rfl)) rfl rfl ?_); refine o_nil ?_
        (refine h_giveN (i := 15) (by kernel_rfl) rfl (g_bin (evv rfl) (evv rfl) (by rfl)) (by simp only [inR]; omega) rfl ?_)
        refine h_one (i := 7) (by kernel_rfl) rfl (Ent.nil _) ?_
        (refine o_give (g_load (evv rfl) (by rfl) (by rfl)) rfl rfl ?_); refine o_nil ?_
        (refine h_give (i := 16) (by kernel_rfl) rfl (g_subS (evv rfl) _ _ bnd_none (bnd_some (evv rfl) rfl) (by omega) (by omega)) rfl rfl ?_)
        (refine h_give (i := 19) (by kernel_rfl) rfl (g_idxAN (evv rfl) (evv rfl) (by omega)) rfl rfl ?_)
        refine h_one (i := 20) (by kernel_rfl) rfl (Ent.nil _) ?_
        (refine o_store1 (evv rfl) (evv rfl) (by rfl) (by rfl) (by rfl) ?_); refine o_nil ?_
        refine h_done (by kernel_rfl) (Ent.nil _) ?_
        exact c_cut () (by repeat (first | exact trivial | refine ⟨rfl, ?_⟩ | refine envsub_v rfl (by first | rfl | (refine int_eq ?_; first | omega | (simp; omega) | (simp; done)) | (refine bool_eq ?_; first | (simp [*]; done) | (simp; done)) | (refine str_eq ?_; simp; done) | (refine ptr_eq ?_; omega) | fail) ?_)) (by rw [← e7]; exact Lay.ent)
    intro u
    dsimp only [List.cons_append, List.nil_append]
    refine c_code ?_
    refine r_draw (id := 9) Mixed.h ?_
    refine d_take (i := 0) (by kernel_rfl) rfl (fun W0 => g_move (evv rfl)) rfl ?_
    refine d_take (i := 1) (by kernel_rfl) rfl (fun W0 => g_move (evv rfl)) rfl ?_
    refine d_take (i := 2) (by kernel_rfl) rfl (fun W0 => g_move (evv rfl)) rfl ?_
    refine d_take (i := 3) (by kernel_rfl) rfl (fun W0 => g_move (evv rfl)) rfl ?_
    refine d_take (i := 4) (by kernel_rfl) rfl (fun W0 => g_nil (evv rfl)) rfl ?_
    refine d_take (i := 5) (by kernel_rfl) rfl (fun W0 => g_fld (evv rfl)) rfl ?_
    refine d_take (i := 6) (by kernel_rfl) rfl (fun W0 => g_idxAN (evv rfl) (evv rfl) (by omega)) rfl ?_
    refine d_take (i := 9) (by kernel_rfl) rfl (fun W0 => g_nil (evv rfl)) rfl ?_
    refine d_take (i := 10) (by kernel_rfl) rfl (fun W0 => g_fld (evv rfl)) rfl ?_
    refine d_one (i := 7) (by kernel_rfl) rfl ?_
    refine o_give (g_load (evv rfl) (by rfl) (by rfl)) rfl rfl ?_
    refine o_nil ?_
    refine d_one (i := 8) (by kernel_rfl) rfl ?_
    refine o_give (g_lenS TyU.h (evv rfl)) rfl rfl ?_
    refine o_nil ?_
    refine d_take (i := 11) (by kernel_rfl) rfl (fun W0 => g_idxAN (evv rfl) (evv rfl) (by omega)) rfl ?_
    refine d_one (i := 12) (by kernel_rfl) rfl ?_
    refine o_store1 (evv rfl) (evv rfl) (by rfl) (by rfl) (by rfl) ?_
    refine o_nil ?_
    refine d_done (by kernel_rfl) ?_
    refine c_blk ?_
    refine c_code ?_
    refine r_region (id := 2) ?_
    refine o_give (g_move (evv rfl)) rfl rfl ?_
    refine o_giveN (g_bin (evv rfl) (evv rfl) (by rfl)) (by simp only [inR]; omega) rfl ?_
    refine o_give (g_assign (evv rfl)) rfl rfl ?_
    refine o_nil ?_
    refine c_loop (1, cutAt ks 0 b0 s0, (cutAt ks 0 b0 s0).length, b1, s1) ?_ ?_ (by repeat (first | exact trivial | refine ⟨rfl, ?_⟩ | refine envsub_v rfl (by first | rfl | (refine int_eq ?_; first | omega | (simp; omega) | (simp; done)) | (refine bool_eq ?_; first | (simp [*]; done) | (simp; done)) | (refine str_eq ?_; simp; done) | (refine ptr_eq ?_; omega) | fail) ?_)) ?_ <;> (try dsimp only)
    · exact ⟨by omega, by simp, by simp, by simp, by simp⟩
    · omega
    · exact Lay.ent
  · simp [show ¬ (1 : Nat) = 0 from by decide] at e1 e2 e3 e4
    rw [e1, e2, e3, e4]
    clear e1 e2 e3 e4
    have hm := more_le ks 1 b1.length s1
    have hc0 := cut_le ks 0 b0 s0
    have hc1 := cut_le ks 1 b1 s1
    refine r_seq ?_
    refine r_seq ?_
    refine r_region (id := 1) ?_
    refine o_give (g_move (evv rfl)) rfl rfl ?_
    refine o_give (g_bin (evv rfl) (evv rfl) (by rfl)) rfl rfl ?_
    refine o_nil ?_
    refine c_code ?_
    refine r_cond_true rfl ?_
    refine r_skip ?_
    refine c_code ?_
    refine r_seq ?_
    refine r_block ?_
    refine r_seq ?_
    refine r_region (id := 3) ?_
    refine o_give (g_assign (evv rfl)) rfl rfl ?_
    refine o_nil ?_
    refine c_code ?_
    refine r_seq ?_
    refine r_seq ?_
    refine r_region (id := 4) ?_
    refine o_give (g_move (evv rfl)) rfl rfl ?_
    refine o_give (g_move (evv rfl)) rfl rfl ?_
    refine o_give (g_lenM (evv rfl)) rfl rfl ?_
    refine o_give (g_bin (evv rfl) (evv rfl) (by rfl)) rfl rfl ?_
    refine o_give (g_move (evv rfl)) rfl rfl ?_
    refine o_lazy rfl (fun hg => g_move (by first | exact evv rfl | exact evg rfl (by rw [hp]; rfl) | exact evg rfl hp | exact evg rfl hg | exact evg rfl (by first | (simp_all; done) | (simp [*]; done) | fail) | fail)) rfl rfl ?_
    refine o_lazy rfl (fun hg => g_move (by first | exact evv rfl | exact evg rfl (by rw [hp]; rfl) | exact evg rfl hp | exact evg rfl hg | exact evg rfl (by first | (simp_all; done) | (simp [*]; done) | fail) | fail)) rfl rfl ?_
    refine o_lazy rfl (fun hg => g_idxMN (evg rfl hg) (evg rfl hg) (by rfl) (by first | omega | (have := of_decide_eq_true hg; omega) | (simp at hg; omega) | (simp only [List.length_set, List.length_append, List.length_cons, List.length_nil, List.length_map, List.length_take, List.length_drop, List.length_replicate]; omega))) rfl rfl ?_
    refine o_lazy rfl (fun hg => g_loadM (evg rfl hg) (by rfl) (by first | omega | (have := of_decide_eq_true hg; omega) | (simp at hg; omega) | (simp only [List.length_set, List.length_append, List.length_cons, List.length_nil, List.length_map, List.length_take, List.length_drop, List.length_replicate]; omega))) rfl rfl ?_
    refine o_lazy rfl (fun hg => g_bin (by first | exact evv rfl | exact evg rfl (by rw [hp]; rfl) | exact evg rfl hp | exact evg rfl hg | exact evg rfl (by first | (simp_all; done) | (simp [*]; done) | fail) | fail) (by first | exact evv rfl | exact evg rfl (by rw [hp]; rfl) | exact evg rfl hp | exact evg rfl hg | exact evg rfl (by first | (simp_all; done) | (simp [*]; done) | fail) | fail) (by rfl)) rfl rfl ?_
    refine o_give (g_pick_and (evv rfl) (evv rfl) (fun hp => (by first | exact evv rfl | exact evg rfl (by rw [hp]; rfl) | exact evg rfl hp | exact evg rfl hg | exact evg rfl (by first | (simp_all; done) | (simp [*]; done) | fail) | fail))) rfl rfl ?_
    refine o_nil ?_
    refine c_code ?_
    repeat (first | refine r_seq ?_ | refine c_code ?_ | refine c_blk ?_ | refine r_block ?_ | refine r_skip ?_)
    refine r_cutE (σ := Unit) (fun u => [(5, .v (.int .i64 ((keepT ks 1 : Nat) : Int)))]) [0,1,4] (fun u => blk r (rpB (cutAt ks 0 b0 s0) b1 (cutAt ks 0 b0 s0).length s1 lv am dn) :: F) (by dsimp only [pickE, pick1, lk2, Nat.reduceBEq, Nat.reduceAdd, Nat.zero_add, cond_true, cond_false] <;> exact rfl) ?_ ?_
    · refine r_cond rfl (fun hk0 => ?_) (fun hk0 => ?_) <;> (try simp only [decide_eq_true_eq, decide_eq_false_iff_not, Bool.and_eq_true, Bool.or_eq_true, Bool.not_eq_true', Bool.and_eq_false_iff, Bool.or_eq_false_iff, Bool.not_eq_false', Bool.not_eq_true, Bool.not_eq_false, Bool.true_eq_false, Bool.false_eq_true, Int.not_lt, Int.not_le, not_and, not_or, ne_eq] at hk0)
      · refine r_region (id := 5) ?_
        refine o_give (g_move (evv rfl)) rfl rfl ?_
        refine o_give (g_move (evv rfl)) rfl rfl ?_
        refine o_give (g_idxMN (evv rfl) (evv rfl) (by rfl) (by first | omega | (have := of_decide_eq_true hg; omega) | (simp at hg; omega) | (simp only [List.length_set, List.length_append, List.length_cons, List.length_nil, List.length_map, List.length_take, List.length_drop, List.length_replicate]; omega))) rfl rfl ?_
        refine o_give (g_loadM (evv rfl) (by rfl) (by first | omega | (have := of_decide_eq_true hg; omega) | (simp at hg; omega) | (simp only [List.length_set, List.length_append, List.length_cons, List.length_nil, List.length_map, List.length_take, List.length_drop, List.length_replicate]; omega))) rfl rfl ?_
        refine o_give (g_assign (evv rfl)) rfl rfl ?_
        refine o_nil ?_
        have e5 : ks.getD 1 default = ((keepT ks 1 : Nat) : Int) := by
          unfold keepT
          rw [if_pos (by omega)]
          omega
        simp only [i64v] at *
        rw [e5]
        exact c_cut () (by repeat (first | exact trivial | refine ⟨rfl, ?_⟩ | refine envsub_v rfl (by first | rfl | (refine int_eq ?_; first | omega | (simp; omega) | (simp; done)) | (refine bool_eq ?_; first | (simp [*]; done) | (simp; done)) | (refine str_eq ?_; simp; done) | (refine ptr_eq ?_; omega) | fail) ?_)) (Lay.ent)
      · have e6 : keepT ks 1 = 0 := by
          unfold keepT
          split
          · omega
          · rfl
        rw [e6]
        refine r_skip ?_
        exact c_cut () (by repeat (first | exact trivial | refine ⟨rfl, ?_⟩ | refine envsub_v rfl (by first | rfl | (refine int_eq ?_; first | omega | (simp; omega) | (simp; done)) | (refine bool_eq ?_; first | (simp [*]; done) | (simp; done)) | (refine str_eq ?_; simp; done) | (refine ptr_eq ?_; omega) | fail) ?_)) (Lay.ent)
    intro n
    dsimp only [List.cons_append, List.nil_append]
    have e7 : (b1.drop 0).take (s1 + moreT ks 1 b1.length s1 - 0) = cutAt ks 1 b1 s1 := by simp only [cutAt, List.drop_zero, Nat.sub_zero]
    have hmk := more_keep ks 1 b1.length s1
    refine c_code ?_
    refine r_seq ?_
    refine r_seq ?_
    refine r_quiet (id := 6) Mixed.h (by kernel_rfl) ?_
    refine q_give (g_move (evv rfl)) rfl rfl ?_
    refine q_give (g_move (evv rfl)) rfl rfl ?_
    refine q_give (g_move (evv rfl)) rfl rfl ?_
    refine q_give (g_nil (evv rfl)) rfl rfl ?_
    refine q_give (g_fld (evv rfl)) rfl rfl ?_
    refine q_give (g_idxAN (evv rfl) (evv rfl) (by omega)) rfl rfl ?_
    refine q_give (g_load (evv rfl) (by rfl) (by rfl)) rfl rfl ?_
    refine q_give (g_lenS TyU.h (evv rfl)) rfl rfl ?_
    refine q_give (g_move (evv rfl)) rfl rfl ?_
    refine q_give (g_move (evv rfl)) rfl rfl ?_
    refine q_give (g_nil (evv rfl)) rfl rfl ?_
    refine q_give (g_fld (evv rfl)) rfl rfl ?_
    refine q_give (g_idxAN (evv rfl) (evv rfl) (by omega)) rfl rfl ?_
    refine q_give (g_load (evv rfl) (by rfl) (by rfl)) rfl rfl ?_
    refine q_giveN (g_bin (evv rfl) (evv rfl) (by rfl)) (by simp only [inR]; omega) rfl ?_
    refine q_give (g_bin (evv rfl) (evv rfl) (by rfl)) rfl rfl ?_
    refine q_nil ?_
    refine c_code ?_
    repeat (first | refine r_seq ?_ | refine c_code ?_ | refine c_blk ?_ | refine r_block ?_ | refine r_skip ?_)
    refine r_cutE (σ := Unit) (fun u => [(5, .v (.int .i64 ((moreT ks 1 b1.length s1 : Nat) : Int)))]) [0,1,4] (fun u => blk r (rpB (cutAt ks 0 b0 s0) b1 (cutAt ks 0 b0 s0).length s1 lv am dn) :: F) (by dsimp only [pickE, pick1, lk2, Nat.reduceBEq, Nat.reduceAdd, Nat.zero_add, cond_true, cond_false] <;> exact rfl) ?_ ?_
    · refine r_cond rfl (fun hk0 => ?_) (fun hk0 => ?_) <;> (try simp only [decide_eq_true_eq, decide_eq_false_iff_not, Bool.and_eq_true, Bool.or_eq_true, Bool.not_eq_true', Bool.and_eq_false_iff, Bool.or_eq_false_iff, Bool.not_eq_false', Bool.not_eq_true, Bool.not_eq_false, Bool.true_eq_false, Bool.false_eq_true, Int.not_lt, Int.not_le, not_and, not_or, ne_eq] at hk0)
      · have e8 : (b1.length : Int) - (s1 : Int) = ((moreT ks 1 b1.length s1 : Nat) : Int) := by omega
        refine r_quiet (id := 7) Mixed.h (by kernel_rfl) ?_
        refine q_give (g_move (evv rfl)) rfl rfl ?_
        refine q_give (g_move (evv rfl)) rfl rfl ?_
        refine q_give (g_nil (evv rfl)) rfl rfl ?_
        refine q_give (g_fld (evv rfl)) rfl rfl ?_
        refine q_give (g_idxAN (evv rfl) (evv rfl) (by omega)) rfl rfl ?_
        refine q_give (g_load (evv rfl) (by rfl) (by rfl)) rfl rfl ?_
        refine q_give (g_lenS TyU.h (evv rfl)) rfl rfl ?_
        refine q_give (g_move (evv rfl)) rfl rfl ?_
        refine q_give (g_move (evv rfl)) rfl rfl ?_
        refine q_give (g_nil (evv rfl)) rfl rfl ?_
        refine q_give (g_fld (evv rfl)) rfl rfl ?_
        refine q_give (g_idxAN (evv rfl) (evv rfl) (by omega)) rfl rfl ?_
        refine q_give (g_load (evv rfl) (by rfl) (by rfl)) rfl rfl ?_
        refine q_giveN (g_bin (evv rfl) (evv rfl) (by rfl)) (by simp only [inR]; omega) rfl ?_
        refine q_give (g_assign (evv rfl)) rfl rfl ?_
        refine q_nil ?_
        rw [e8]
        exact c_cut () (by repeat (first | exact trivial | refine ⟨rfl, ?_⟩ | refine envsub_v rfl (by first | rfl | (refine int_eq ?_; first | omega | (simp; omega) | (simp; done)) | (refine bool_eq ?_; first | (simp [*]; done) | (simp; done)) | (refine str_eq ?_; simp; done) | (refine ptr_eq ?_; omega) | fail) ?_)) (Lay.ent)
      · have e8 : keepT ks 1 = moreT ks 1 b1.length s1 := by omega
        rw [e8]
        refine r_skip ?_
        exact c_cut () (by repeat (first | exact trivial | refine ⟨rfl, ?_⟩ | refine envsub_v rfl (by first | rfl | (refine int_eq ?_; first | omega | (simp; omega) | (simp; done)) | (refine bool_eq ?_; first | (simp [*]; done) | (simp; done)) | (refine str_eq ?_; simp; done) | (refine ptr_eq ?_; omega) | fail) ?_)) (Lay.ent)
    intro u
    dsimp only [List.cons_append, List.nil_append]
    repeat (first | refine r_seq ?_ | refine c_code ?_ | refine c_blk ?_ | refine r_block ?_ | refine r_skip ?_)
    refine r_cutE (σ := Unit) (fun u => []) [0, 1, 4, 5, 6, 7, 10, 11, 12, 13, 14, 15, 16, 17, 18, 19, 20, 21, 22, 23, 24, 25, 26, 27, 28, 29, 30, 31, 32, 33, 34, 35, 36, 37, 38, 39, 40, 41, 42, 43, 44, 45, 46, 47, 48, 49, 50, 51, 52, 53, 54] (fun u => blk r (rpB (cutAt ks 0 b0 s0) (cutAt ks 1 b1 s1) (cutAt ks 0 b0 s0).length s1 lv am dn) :: F) (by dsimp only [pickE, pick1, lk2, Nat.reduceBEq, Nat.reduceAdd, Nat.zero_add, cond_true, cond_false] <;> exact rfl) ?_ ?_
    · refine r_held (id := 8) [] Mixed.h ?_
      (refine h_give (i := 0) (by kernel_rfl) rfl (g_move (evv rfl)) rfl rfl ?_)
      (refine h_give (i := 1) (by kernel_rfl) rfl (g_move (evv rfl)) rfl rfl ?_)
      (refine h_give (i := 2) (by kernel_rfl) rfl (g_move (evv rfl)) rfl rfl ?_)
      (refine h_give (i := 3) (by kernel_rfl) rfl (g_move (evv rfl)) rfl rfl ?_)
      (refine h_give (i := 4) (by kernel_rfl) rfl (g_nil (evv rfl)) rfl rfl ?_)
      (refine h_give (i := 5) (by kernel_rfl) rfl (g_fld (evv rfl)) rfl rfl ?_)
      (refine h_give (i := 6) (by kernel_rfl) rfl (g_idxAN (evv rfl) (evv rfl) (by omega)) rfl rfl ?_)
      (refine h_give (i := 8) (by kernel_rfl) rfl (g_move (evv rfl)) rfl rfl ?_)
      (refine h_give (i := 9) (by kernel_rfl) rfl (g_move (evv rfl)) rfl rfl ?_)
      (refine h_give (i := 10) (by kernel_rfl) rfl (g_nil (evv rfl)) rfl rfl ?_)
      (refine h_give (i := 11) (by kernel_rfl) rfl (g_fld (evv rfl)) rfl rfl ?_)
      (refine h_give (i := 12) (by kernel_rfl) rfl (g_idxAN (evv rfl) (evv rfl) (by omega)) rfl rfl ?_)
      (refine h_give (i := 14) (by kernel_rfl) rfl (g_move (evv rfl)) rfl rfl ?_)
      (refine h_give (i := 17) (by kernel_rfl) rfl (g_nil (evv rfl)) rfl rfl ?_)
      (refine h_give (i := 18) (by kernel_rfl) rfl (g_fld (evv rfl)) rfl rfl ?_)
      refine h_two (i := 7) (j := 13) (by kernel_rfl) rfl rfl (Ent.nil _) ?_ ?_
      · (refine o_give (g_load (evv rfl) (by rfl) (by rfl)) rfl rfl ?_); refine o_nil ?_
        refine h_one (i := 13) (by kernel_rfl) rfl (Ent.nil _) ?_
        (refine o_give (g_load (evv rfl) (by rfl) (by rfl)) rfl rfl ?_); refine o_nil ?_
        (refine h_giveN (i := 15) (by kernel_rfl) rfl (g_bin (evv rfl) (evv rfl) (by rfl)) (by simp only [inR]; omega) rfl ?_)
        (refine h_give (i := 16) (by kernel_rfl) rfl (g_subS (evv rfl) _ _ bnd_none (bnd_some (evv rfl) rfl) (by omega) (by omega)) rfl rfl ?_)
        (refine h_give (i := 19) (by kernel_rfl) rfl (g_idxAN (evv rfl) (evv rfl) (by omega)) rfl rfl ?_)
        refine h_one (i := 20) (by kernel_rfl) rfl (Ent.nil _) ?_
        (refine o_store1 (evv rfl) (evv rfl) (by rfl) (by rfl) (by rfl) ?_); refine o_nil ?_
        refine h_done (by kernel_rfl) (Ent.nil _) ?_
        exact c_cut () (by repeat (first | exact trivial | refine ⟨rfl, ?_⟩ | refine envsub_v rfl (by first | rfl | (refine int_eq ?_; first | omega | (simp; omega) | (simp; done)) | (refine bool_eq ?_; first | (simp [*]; done) | (simp; done)) | (refine str_eq ?_; simp; done) | (refine ptr_eq ?_; omega) | fail) ?_)) (by rw [← e7]; exact Lay.ent)
      · (refine o_give (g_load (evv rfl) (by rfl) (by rfl)) rfl rfl ?_); refine o_nil ?_
        (refine h_giveN (i := 15) (by kernel_rfl) rfl (g_bin (evv rfl) (evv rfl) (by rfl)) (by simp only [inR]; omega) rfl ?_)
        refine h_one (i := 7) (by kernel_rfl) rfl (Ent.nil _) ?_
        (refine o_give (g_load (evv rfl) (by rfl) (by rfl)) rfl rfl ?_); refine o_nil ?_
        (refine h_give (i := 16) (by kernel_rfl) rfl (g_subS (evv rfl) _ _ bnd_none (bnd_some (evv rfl) rfl) (by omega) (by omega)) rfl rfl ?_)
        (refine h_give (i := 19) (by kernel_rfl) rfl (g_idxAN (evv rfl) (evv rfl) (by omega)) rfl rfl ?_)
        refine h_one (i := 20) (by kernel_rfl) rfl (Ent.nil _) ?_
        (refine o_store1 (evv rfl) (evv rfl) (by rfl) (by rfl) (by rfl) ?_); refine o_nil ?_
        refine h_done (by kernel_rfl) (Ent.nil _) ?_
        exact c_cut () (by repeat (first | exact trivial | refine ⟨rfl, ?_⟩ | refine envsub_v rfl (by first | rfl | (refine int_eq ?_; first | omega | (simp; omega) | (simp; done)) | (refine bool_eq ?_; first | (simp [*]; done) | (simp; done)) | (refine str_eq ?_; simp; done) | (refine ptr_eq ?_; omega) | fail) ?_)) (by rw [← e7]; exact Lay.ent)
    intro u
    dsimp only [List.cons_append, List.nil_append]
    refine c_code ?_
    refine r_draw (id := 9) Mixed.h ?_
    refine d_take (i := 0) (by kernel_rfl) rfl (fun W0 => g_move (evv rfl)) rfl ?_
    refine d_take (i := 1) (by kernel_rfl) rfl (fun W0 => g_move (evv rfl)) rfl ?_
    refine d_take (i := 2) (by kernel_rfl) rfl (fun W0 => g_move (evv rfl)) rfl ?_
    refine d_take (i := 3) (by kernel_rfl) rfl (fun W0 => g_move (evv rfl)) rfl ?_
    refine d_take (i := 4) (by kernel_rfl) rfl (fun W0 => g_nil (evv rfl)) rfl ?_
    refine d_take (i := 5) (by kernel_rfl) rfl (fun W0 => g_fld (evv rfl)) rfl ?_
    refine d_take (i := 6) (by kernel_rfl) rfl (fun W0 => g_idxAN (evv rfl) (evv rfl) (by omega)) rfl ?_
    refine d_take (i := 9) (by kernel_rfl) rfl (fun W0 => g_nil (evv rfl)) rfl ?_
    refine d_take (i := 10) (by kernel_rfl) rfl (fun W0 => g_fld (evv rfl)) rfl ?_
    refine d_one (i := 7) (by kernel_rfl) rfl ?_
    refine o_give (g_load (evv rfl) (by rfl) (by rfl)) rfl rfl ?_
    refine o_nil ?_
    refine d_one (i := 8) (by kernel_rfl) rfl ?_
    refine o_give (g_lenS TyU.h (evv rfl)) rfl rfl ?_
    refine o_nil ?_
    refine d_take (i := 11) (by kernel_rfl) rfl (fun W0 => g_idxAN (evv rfl) (evv rfl) (by omega)) rfl ?_
    refine d_one (i := 12) (by kernel_rfl) rfl ?_
    refine o_store1 (evv rfl) (evv rfl) (by rfl) (by rfl) (by rfl) ?_
    refine o_nil ?_
    refine d_done (by kernel_rfl) ?_
    refine c_blk ?_
    refine c_code ?_
    refine r_region (id := 2) ?_
    refine o_give (g_move (evv rfl)) rfl rfl ?_
    refine o_giveN (g_bin (evv rfl) (evv rfl) (by rfl)) (by simp only [inR]; omega) rfl ?_
    refine o_give (g_assign (evv rfl)) rfl rfl ?_
    refine o_nil ?_
    refine c_loop (2, cutAt ks 0 b0 s0, (cutAt ks 0 b0 s0).length, cutAt ks 1 b1 s1, (cutAt ks 1 b1 s1).length) ?_ ?_ (by repeat (first | exact trivial | refine ⟨rfl, ?_⟩ | refine envsub_v rfl (by first | rfl | (refine int_eq ?_; first | omega | (simp; omega) | (simp; done)) | (refine bool_eq ?_; first | (simp [*]; done) | (simp; done)) | (refine str_eq ?_; simp; done) | (refine ptr_eq ?_; omega) | fail) ?_)) ?_ <;> (try dsimp only)
    · exact ⟨by omega, by simp, by simp, by simp, by simp⟩
    · omega
    · exact Lay.ent
  · simp [show ¬ (2 : Nat) = 0 from by decide] at e1 e2 e3 e4
    rw [e1, e2, e3, e4]
    refine r_seq ?_
    refine r_seq ?_
    refine r_region (id := 1) ?_
    refine o_give (g_move (evv rfl)) rfl rfl ?_
    refine o_give (g_bin (evv rfl) (evv rfl) (by rfl)) rfl rfl ?_
    refine o_nil ?_
    refine c_code ?_
    refine r_cond_false rfl ?_
    refine r_exit rfl ?_
    refine c_code ?_
    refine r_seq ?_
    refine r_region (id := 10) ?_
    refine o_give (g_move (evv rfl)) rfl rfl ?_
    refine o_give (g_nil (evv rfl)) rfl rfl ?_
    refine o_give (g_fld (evv rfl)) rfl rfl ?_
    refine o_store1 (evv rfl) (evv rfl) (by rfl) (by rfl) (by rfl) ?_
    refine o_nil ?_
    refine c_code ?_
    refine r_region (id := 11) ?_
    refine o_give (g_move (evv rfl)) rfl rfl ?_
    refine o_give (g_nil (evv rfl)) rfl rfl ?_
    refine o_give (g_fld (evv rfl)) rfl rfl ?_
    refine o_store1 (evv rfl) (evv rfl) (by rfl) (by rfl) (by rfl) ?_
    refine o_nil ?_
    first | refine r_ret (rs := []) rfl rfl _ (rp_shut) ?_ | refine c_end (rs := []) rfl rfl _ (rp_shut) ?_
    (refine ⟨?_, ?_⟩ <;> first | rfl | trivial | omega)
end VK
