/- What the platter's methods do, on: New, Arm, Cut, Clone; and where there is no platter. Conditions: few bytes. -/
import Derived.Test.YtbhlcncfpkfopaaPlat
namespace VK
open Go Go.Proofs
set_option linter.unusedSimpArgs false
set_option linter.unusedVariables false
set_option maxRecDepth 100000
set_option maxHeartbeats 40000000
theorem pt_open {p : Nat} {b0 b1 : List UInt8} {s0 s1 lv am : Nat} {dn : Bool} {c : Cx} {k : List KI} {E : Env} {L : List Atom} {x : Code} (h : ∀ v0 v1, Run c x k E (blk p ⟨[v0, .int .i64 (s0 : Int), v1, .int .i64 (s1 : Int), .int .i64 (lv : Int), .int .i64 (am : Int), .bool dn], 58⟩ :: rom [(v0, bR b0), (v1, bR b1)] :: L)) : Run c x k E (pt p ⟨b0, s0, b1, s1, lv, am, dn⟩ :: L) :=
  r_exA fun vs => h vs.1 vs.2
theorem New_c (F : List Atom) : Fn Try.prog 8 [] F fun v L' => ∃ p, v = .pointer (some ⟨p, 0, none⟩) ∧ L' = pt p zeroPt :: F := by
  refine fn_intro Try.func8 rfl Try.ntmps8 rfl (fun W0 => ?_)
  simp only [argE]
  refine r_seq ?_
  refine r_region (id := 0) ?_
  refine o_give (g_assign (evv rfl)) rfl rfl ?_
  refine o_nil ?_
  refine c_code ?_
  refine r_seq ?_
  refine r_region (id := 1) ?_
  refine o_give (v := agg [(Go.Value.slice none 0 0), (Go.Value.int Go.IntKind.i64 0), (Go.Value.slice none 0 0), (Go.Value.int Go.IntKind.i64 0), (Go.Value.int Go.IntKind.i64 0), (Go.Value.int Go.IntKind.i64 0), (Go.Value.bool false)]) (g_buildC rfl (by rfl)) rfl rfl ?_
  refine o_boxA (evv rfl) rfl (fun _ => ?_)
  refine o_give (g_assign (evv rfl)) rfl rfl ?_
  refine o_nil ?_
  refine c_code ?_
  rename_i p
  first | refine r_ret (rs := [.tmp 0]) rfl rfl _ ((Ent.cons ((Ent.romNil.trans Ent.romNilIn).trans Ent.romNilIn)).trans (pt_shut (b0 := []) (b1 := []) (s0 := 0) (s1 := 0) (lv := 0) (am := 0) (dn := false))) ?_ | refine c_end (rs := [.tmp 0]) rfl rfl _ ((Ent.cons ((Ent.romNil.trans Ent.romNilIn).trans Ent.romNilIn)).trans (pt_shut (b0 := []) (b1 := []) (s0 := 0) (s1 := 0) (lv := 0) (am := 0) (dn := false))) ?_
  exact ⟨p, rfl, rfl⟩
def armT (x : Pt) (c : Int) : Pt := if x.down = true then x else { x with armed := (max c 0).toNat }
theorem Arm_c (F : List Atom) (p : Nat) (x : Pt) (c : Int) :
    Fn Try.prog 9 [.pointer (some ⟨p, 0, none⟩), .int .i64 c] (pt p x :: F) fun v L' => v = .tuple #[] ∧ L' = pt p (armT x c) :: F := by
  obtain ⟨b0, s0, b1, s1, lv, am, dn⟩ := x
  refine fn_intro Try.func9 rfl Try.ntmps9 rfl (fun W0 => ?_)
  simp only [argE]
  refine pt_open fun v0 v1 => ?_
  cases dn with
  | true =>
    refine r_seq ?_
    refine r_region (id := 0) ?_
    refine o_give (g_move (evv rfl)) rfl rfl ?_
    refine o_give (g_pnil TyU.h (evv rfl) (evv rfl) (by simp) (by rfl)) rfl rfl ?_
    refine o_give (g_move (evv rfl)) rfl rfl ?_
    refine o_gyes rfl ?_
    refine o_give (g_move (evv rfl)) rfl rfl ?_
    refine o_gyes rfl ?_
    refine o_give (g_nil (evv rfl)) rfl rfl ?_
    refine o_gyes rfl ?_
    refine o_give (g_fld (evv rfl)) rfl rfl ?_
    refine o_gyes rfl ?_
    refine o_give (g_load (evv rfl) (by rfl) (by rfl)) rfl rfl ?_
    refine o_gyes rfl ?_
    refine o_give (g_not (evv rfl)) rfl rfl ?_
    refine o_give (g_pick (b := true) (evv rfl) (fun _ => (evv rfl)) (fun h => by cases h)) rfl rfl ?_
    refine o_nil ?_
    refine c_code ?_
    refine r_cond_false rfl ?_
    refine r_skip ?_
    first | refine r_ret (rs := []) rfl rfl _ (pt_shut) ?_ | refine c_end (rs := []) rfl rfl _ (pt_shut) ?_
    (refine ⟨?_, ?_⟩ <;> first | rfl | trivial | omega)
  | false =>
    have e1 : max c 0 = (((max c 0).toNat : Nat) : Int) := by omega
    refine r_seq ?_
    refine r_region (id := 0) ?_
    refine o_give (g_move (evv rfl)) rfl rfl ?_
    refine o_give (g_pnil TyU.h (evv rfl) (evv rfl) (by simp) (by rfl)) rfl rfl ?_
    refine o_give (g_move (evv rfl)) rfl rfl ?_
    refine o_gyes rfl ?_
    refine o_give (g_move (evv rfl)) rfl rfl ?_
    refine o_gyes rfl ?_
    refine o_give (g_nil (evv rfl)) rfl rfl ?_
    refine o_gyes rfl ?_
    refine o_give (g_fld (evv rfl)) rfl rfl ?_
    refine o_gyes rfl ?_
    refine o_give (g_load (evv rfl) (by rfl) (by rfl)) rfl rfl ?_
    refine o_gyes rfl ?_
    refine o_give (g_not (evv rfl)) rfl rfl ?_
    refine o_give (g_pick (b := true) (evv rfl) (fun _ => (evv rfl)) (fun h => by cases h)) rfl rfl ?_
    refine o_nil ?_
    refine c_code ?_
    refine r_cond_true rfl ?_
    refine r_region (id := 1) ?_
    refine o_give (g_move (evv rfl)) rfl rfl ?_
    refine o_give (g_move (evv rfl)) rfl rfl ?_
    refine o_give (g_max2 (evv rfl) (evv rfl)) rfl rfl ?_
    refine o_give (g_nil (evv rfl)) rfl rfl ?_
    refine o_give (g_fld (evv rfl)) rfl rfl ?_
    refine o_store1 (evv rfl) (evv rfl) (by rfl) (by rfl) (by rfl) ?_
    refine o_nil ?_
    rw [e1]
    skip
    first | refine r_ret (rs := []) rfl rfl _ (pt_shut) ?_ | refine c_end (rs := []) rfl rfl _ (pt_shut) ?_
    (refine ⟨?_, ?_⟩ <;> first | rfl | trivial | omega)
/-- how many bytes are kept beside those that last -/
def moreT (ks : List Int) (i n s : Nat) : Nat := if i < ks.length then min (max (ks.getD i default) 0).toNat (n - s) else 0
def cutAt (ks : List Int) (i : Nat) (b : List UInt8) (s : Nat) : List UInt8 := b.take (s + moreT ks i b.length s)
def cutT (x : Pt) (ks : List Int) : Pt := ⟨cutAt ks 0 x.b0 x.s0, (cutAt ks 0 x.b0 x.s0).length, cutAt ks 1 x.b1 x.s1, (cutAt ks 1 x.b1 x.s1).length, x.live, 0, false⟩
theorem cut_le (ks : List Int) (i : Nat) (b : List UInt8) (s : Nat) : (cutAt ks i b s).length ≤ b.length := by simp only [cutAt, List.length_take]; omega
theorem more_le (ks : List Int) (i n s : Nat) : moreT ks i n s ≤ n - s := by unfold moreT; split <;> omega
theorem Cut_c (F : List Atom) (p : Nat) (x : Pt) (h : x.ok) (kv : Value) (ks : List Int) [rd : Rd F kv (mrow i64v 3 ks)] (hk : ∀ k ∈ ks, inR .i64 k) :
    Fn Try.prog 13 [.pointer (some ⟨p, 0, none⟩), kv] (pt p x :: F) fun v L' => v = .tuple #[] ∧ L' = pt p (cutT x ks) :: F := by
  refine fn_lenM (rd.ent Ent.drop) fun hlen => ?_
  have hlen : ks.length ≤ 2 ^ 63 - 1 := hlen
  obtain ⟨hl, ha, hb, hn0, hn1, har⟩ := h
  obtain ⟨b0, s0, b1, s1, lv, am, dn⟩ := x
  dsimp only at hl ha hb hn0 hn1 har
  refine fn_intro Try.func13 rfl Try.ntmps13 rfl (fun W0 => ?_)
  simp only [argE]
  refine r_seq ?_
  refine r_seq ?_
  refine r_region (id := 0) ?_
  refine o_give (g_move (evv rfl)) rfl rfl ?_
  refine o_give (g_pnil TyU.h (evv rfl) (evv rfl) (by simp) (by rfl)) rfl rfl ?_
  refine o_nil ?_
  refine c_code ?_
  refine r_cond_false rfl ?_
  refine r_skip ?_
  refine c_code ?_
  refine r_seq ?_
  refine r_seq ?_
  refine r_region (id := 1) ?_
  refine o_give (g_move (evv rfl)) rfl rfl ?_
  refine o_nil ?_
  refine c_code ?_
  refine r_block ?_
  have key : ∀ b0 : List UInt8, True := fun _ => trivial
  clear key
  refine r_exA fun vs => ?_
  obtain ⟨v0, v1⟩ := vs
  dsimp only [ptX, ptB, List.cons_append, List.nil_append]
  refine r_loopE (σ := Nat × Value × Value × List UInt8 × Nat × List UInt8 × Nat) (fun ⟨i, u0, u1, c0, t0, c1, t1⟩ => i ≤ 2 ∧ c0 = (if i = 0 then b0 else cutAt ks 0 b0 s0) ∧ t0 = (if i = 0 then s0 else (cutAt ks 0 b0 s0).length) ∧ c1 = (if i < 2 then b1 else cutAt ks 1 b1 s1) ∧ t1 = (if i < 2 then s1 else (cutAt ks 1 b1 s1).length)) (fun ⟨i, u0, u1, c0, t0, c1, t1⟩ => 2 - i) (fun ⟨i, u0, u1, c0, t0, c1, t1⟩ => [(9, .v (.int .i64 i))]) [0, 1] (fun ⟨i, u0, u1, c0, t0, c1, t1⟩ => blk p ⟨[u0, .int .i64 (t0 : Int), u1, .int .i64 (t1 : Int), .int .i64 (lv : Int), .int .i64 (am : Int), .bool dn], 58⟩ :: rom [(u0, bR c0), (u1, bR c1)] :: F) (0, v0, v1, b0, s0, b1, s1) (by dsimp only [pickE, pick1, lk2, Nat.reduceBEq, Nat.reduceAdd, Nat.zero_add, cond_true, cond_false] <;> exact rfl) ?_ (by repeat (first | exact trivial | refine ⟨rfl, ?_⟩ | refine envsub_v rfl (by first | rfl | (refine int_eq ?_; first | omega | (simp; omega) | (simp; done)) | (refine bool_eq ?_; first | (simp [*]; done) | (simp; done)) | (refine str_eq ?_; simp; done) | (refine ptr_eq ?_; omega) | fail) ?_)) ?_ ?_
  · exact ⟨by omega, rfl, rfl, rfl, rfl⟩
  · exact Ent.refl _
  rintro ⟨i, u0, u1, c0, t0, c1, t1⟩ ⟨hi, e1, e2, e3, e4⟩; dsimp only [List.cons_append, List.nil_append]
  rcases (by omega : i = 0 ∨ i = 1 ∨ i = 2) with rfl | rfl | rfl
  · simp [show ¬ (1 : Nat) = 0 from by decide] at e1 e2 e3 e4
    rw [e1, e2, e3, e4]
    clear e1 e2 e3 e4
    have hm := more_le ks 0 b0.length s0
    have hc0 := cut_le ks 0 b0 s0
    have hc1 := cut_le ks 1 b1 s1
    refine r_seq ?_
    refine r_region (id := 2) ?_
    refine o_give (g_bin (evv rfl) (evv rfl) (by rfl)) rfl rfl ?_
    refine o_nil ?_
    refine c_code ?_
    refine r_seq ?_
    refine r_cond_true rfl ?_
    refine r_skip ?_
    refine c_code ?_
    refine r_seq ?_
    refine r_block ?_
    refine r_seq ?_
    refine r_region (id := 3) ?_
    refine o_give (g_move (evv rfl)) rfl rfl ?_
    refine o_give (g_assign (evv rfl)) rfl rfl ?_
    refine o_nil ?_
    refine c_code ?_
    refine r_seq ?_
    refine r_region (id := 4) ?_
    refine o_give (g_move (evv rfl)) rfl rfl ?_
    refine o_give (g_move (evv rfl)) rfl rfl ?_
    refine o_give (g_nil (evv rfl)) rfl rfl ?_
    refine o_give (g_fld (evv rfl)) rfl rfl ?_
    refine o_give (g_idxAN (evv rfl) (evv rfl) (by omega)) rfl rfl ?_
    refine o_give (g_assign (evv rfl)) rfl rfl ?_
    refine o_nil ?_
    refine c_code ?_
    refine r_seq ?_
    refine r_region (id := 5) ?_
    refine o_give (g_assign (evv rfl)) rfl rfl ?_
    refine o_nil ?_
    refine c_code ?_
    refine r_seq ?_
    refine r_seq ?_
    refine r_region (id := 6) ?_
    refine o_give (g_move (evv rfl)) rfl rfl ?_
    refine o_give (g_move (evv rfl)) rfl rfl ?_
    refine o_give (g_lenM (evv rfl)) rfl rfl ?_
    refine o_give (g_bin (evv rfl) (evv rfl) (by rfl)) rfl rfl ?_
    refine o_nil ?_
    refine c_code ?_
    repeat (first | refine r_seq ?_ | refine c_code ?_ | refine c_blk ?_ | refine r_block ?_ | refine r_skip ?_)
    refine r_cutE (σ := Unit) (fun u => [(6, .v (.int .i64 ((moreT ks 0 b0.length s0 : Nat) : Int)))]) [0,1,5,9] (fun u => blk p ⟨[u0, .int .i64 (s0 : Int), u1, .int .i64 (s1 : Int), .int .i64 (lv : Int), .int .i64 (am : Int), .bool dn], 58⟩ :: rom [(u0, bR b0), (u1, bR b1)] :: F) (by dsimp only [pickE, pick1, lk2, Nat.reduceBEq, Nat.reduceAdd, Nat.zero_add, cond_true, cond_false] <;> exact rfl) ?_ ?_
    · refine r_cond rfl (fun hk0 => ?_) (fun hk0 => ?_) <;> (try simp only [decide_eq_true_eq, decide_eq_false_iff_not, Bool.and_eq_true, Bool.or_eq_true, Bool.not_eq_true', Bool.and_eq_false_iff, Bool.or_eq_false_iff, Bool.not_eq_false', Bool.not_eq_true, Bool.not_eq_false, Bool.true_eq_false, Bool.false_eq_true, Int.not_lt, Int.not_le, not_and, not_or, ne_eq] at hk0)
      · have e5 : min (max (ks.getD 0 default) 0) ((b0.length : Int) - (s0 : Int)) = ((moreT ks 0 b0.length s0 : Nat) : Int) := by
          unfold moreT
          rw [if_pos (by omega)]
          omega
        refine r_quiet (id := 7) Mixed.h (by kernel_rfl) ?_
        refine q_give (g_move (evv rfl)) rfl rfl ?_
        refine q_give (g_move (evv rfl)) rfl rfl ?_
        refine q_give (g_idxMN (evv rfl) (evv rfl) (by rfl) (by first | omega | (simp only [List.length_set, List.length_append, List.length_cons, List.length_nil, List.length_map, List.length_take, List.length_drop, List.length_replicate]; omega))) rfl rfl ?_
        refine q_give (g_loadM (evv rfl) (by rfl) (by first | omega | (simp only [List.length_set, List.length_append, List.length_cons, List.length_nil, List.length_map, List.length_take, List.length_drop, List.length_replicate]; omega))) rfl rfl ?_
        refine q_give (g_max2 (evv rfl) (evv rfl)) rfl rfl ?_
        refine q_give (g_move (evv rfl)) rfl rfl ?_
        refine q_give (g_nil (evv rfl)) rfl rfl ?_
        refine q_give (g_fld (evv rfl)) rfl rfl ?_
        refine q_give (g_load (evv rfl) (by rfl) (by rfl)) rfl rfl ?_
        refine q_give (g_lenM (evv rfl)) rfl rfl ?_
        refine q_give (g_move (evv rfl)) rfl rfl ?_
        refine q_give (g_nil (evv rfl)) rfl rfl ?_
        refine q_give (g_fld (evv rfl)) rfl rfl ?_
        refine q_give (g_load (evv rfl) (by rfl) (by rfl)) rfl rfl ?_
        refine q_giveN (g_bin (evv rfl) (evv rfl) (by rfl)) (by simp only [inR]; omega) rfl ?_
        refine q_give (g_min2 (evv rfl) (evv rfl)) rfl rfl ?_
        refine q_give (g_assign (evv rfl)) rfl rfl ?_
        refine q_nil ?_
        simp only [i64v] at *
        rw [e5]
        exact c_cut () (by repeat (first | exact trivial | refine ⟨rfl, ?_⟩ | refine envsub_v rfl (by first | rfl | (refine int_eq ?_; first | omega | (simp; omega) | (simp; done)) | (refine bool_eq ?_; first | (simp [*]; done) | (simp; done)) | (refine str_eq ?_; simp; done) | (refine ptr_eq ?_; omega) | fail) ?_)) (Lay.ent)
      · have e6 : moreT ks 0 b0.length s0 = 0 := by unfold moreT; rw [if_neg (by omega)]
        rw [e6]
        refine r_skip ?_
        exact c_cut () (by repeat (first | exact trivial | refine ⟨rfl, ?_⟩ | refine envsub_v rfl (by first | rfl | (refine int_eq ?_; first | omega | (simp; omega) | (simp; done)) | (refine bool_eq ?_; first | (simp [*]; done) | (simp; done)) | (refine str_eq ?_; simp; done) | (refine ptr_eq ?_; omega) | fail) ?_)) (Lay.ent)
    intro u
    dsimp only [List.cons_append, List.nil_append]
    have e7 : (b0.drop 0).take (s0 + moreT ks 0 b0.length s0 - 0) = cutAt ks 0 b0 s0 := by simp only [cutAt, List.drop_zero, Nat.sub_zero]
    repeat (first | refine r_seq ?_ | refine c_code ?_ | refine c_blk ?_ | refine r_block ?_ | refine r_skip ?_)
    refine r_cutE (σ := Value) (fun w => []) [0, 1, 4, 5, 9, 10, 11, 12, 13, 14, 15, 16, 17, 18, 19, 20, 21, 22, 23, 24, 25, 26, 27, 28, 29, 30, 31, 32, 33, 34, 35, 36] (fun w => sl w (bR (cutAt ks 0 b0 s0)) :: blk p ⟨[w, .int .i64 (s0 : Int), u1, .int .i64 (s1 : Int), .int .i64 (lv : Int), .int .i64 (am : Int), .bool dn], 58⟩ :: rom [(u0, bR b0), (u1, bR b1)] :: F) (by dsimp only [pickE, pick1, lk2, Nat.reduceBEq, Nat.reduceAdd, Nat.zero_add, cond_true, cond_false] <;> exact rfl) ?_ ?_
    · refine r_held (id := 8) [] Mixed.h ?_
      (refine h_give (i := 0) (by kernel_rfl) rfl (g_move (evv rfl)) rfl rfl ?_)
      (refine h_give (i := 1) (by kernel_rfl) rfl (g_move (evv rfl)) rfl rfl ?_)
      (refine h_give (i := 2) (by kernel_rfl) rfl (g_nil (evv rfl)) rfl rfl ?_)
      (refine h_give (i := 3) (by kernel_rfl) rfl (g_fld (evv rfl)) rfl rfl ?_)
      (refine h_give (i := 5) (by kernel_rfl) rfl (g_move (evv rfl)) rfl rfl ?_)
      (refine h_give (i := 6) (by kernel_rfl) rfl (g_nil (evv rfl)) rfl rfl ?_)
      (refine h_give (i := 7) (by kernel_rfl) rfl (g_fld (evv rfl)) rfl rfl ?_)
      (refine h_give (i := 9) (by kernel_rfl) rfl (g_move (evv rfl)) rfl rfl ?_)
      refine h_two (i := 4) (j := 8) (by kernel_rfl) rfl rfl (Ent.nil _) ?_ ?_
      · (refine o_give (g_load (evv rfl) (by rfl) (by rfl)) rfl rfl ?_); refine o_nil ?_
        refine h_one (i := 8) (by kernel_rfl) rfl (Ent.nil _) ?_
        (refine o_give (g_load (evv rfl) (by rfl) (by rfl)) rfl rfl ?_); refine o_nil ?_
        (refine h_giveN (i := 10) (by kernel_rfl) rfl (g_bin (evv rfl) (evv rfl) (by rfl)) (by simp only [inR]; omega) rfl ?_)
        refine h_one (i := 11) (by kernel_rfl) rfl (Ent.nil _) ?_
        (refine o_give (g_subM (evv rfl) _ _ bnd_none (bnd_some (evv rfl) rfl) (by rfl) (by omega) (by omega)) rfl rfl ?_); refine o_nil ?_
        refine h_one (i := 12) (by kernel_rfl) rfl (Ent.nil _) ?_
        ((refine o_call rfl _ (Ent.refl _) (Clone_c _ _ _ (by first | assumption | omega | (simp only [List.length_take, List.length_drop]; omega))) rfl ?_; rintro cw _ ⟨-, rfl⟩)); refine o_nil ?_
        (refine h_give (i := 13) (by kernel_rfl) rfl (g_nil (evv rfl)) rfl rfl ?_)
        (refine h_give (i := 14) (by kernel_rfl) rfl (g_fld (evv rfl)) rfl rfl ?_)
        refine h_one (i := 15) (by kernel_rfl) rfl (Ent.nil _) ?_
        (refine o_store1 (evv rfl) (evv rfl) (by rfl) (by rfl) (by rfl) ?_); refine o_nil ?_
        refine h_done (by kernel_rfl) (Ent.nil _) ?_
        exact c_cut cw (by repeat (first | exact trivial | refine ⟨rfl, ?_⟩ | refine envsub_v rfl (by first | rfl | (refine int_eq ?_; first | omega | (simp; omega) | (simp; done)) | (refine bool_eq ?_; first | (simp [*]; done) | (simp; done)) | (refine str_eq ?_; simp; done) | (refine ptr_eq ?_; omega) | fail) ?_)) (by rw [← e7]; exact Lay.ent)
      · (refine o_give (g_load (evv rfl) (by rfl) (by rfl)) rfl rfl ?_); refine o_nil ?_
        (refine h_giveN (i := 10) (by kernel_rfl) rfl (g_bin (evv rfl) (evv rfl) (by rfl)) (by simp only [inR]; omega) rfl ?_)
        refine h_one (i := 4) (by kernel_rfl) rfl (Ent.nil _) ?_
        (refine o_give (g_load (evv rfl) (by rfl) (by rfl)) rfl rfl ?_); refine o_nil ?_
        refine h_one (i := 11) (by kernel_rfl) rfl (Ent.nil _) ?_
        (refine o_give (g_subM (evv rfl) _ _ bnd_none (bnd_some (evv rfl) rfl) (by rfl) (by omega) (by omega)) rfl rfl ?_); refine o_nil ?_
        refine h_one (i := 12) (by kernel_rfl) rfl (Ent.nil _) ?_
        ((refine o_call rfl _ (Ent.refl _) (Clone_c _ _ _ (by first | assumption | omega | (simp only [List.length_take, List.length_drop]; omega))) rfl ?_; rintro cw _ ⟨-, rfl⟩)); refine o_nil ?_
        (refine h_give (i := 13) (by kernel_rfl) rfl (g_nil (evv rfl)) rfl rfl ?_)
        (refine h_give (i := 14) (by kernel_rfl) rfl (g_fld (evv rfl)) rfl rfl ?_)
        refine h_one (i := 15) (by kernel_rfl) rfl (Ent.nil _) ?_
        (refine o_store1 (evv rfl) (evv rfl) (by rfl) (by rfl) (by rfl) ?_); refine o_nil ?_
        refine h_done (by kernel_rfl) (Ent.nil _) ?_
        exact c_cut cw (by repeat (first | exact trivial | refine ⟨rfl, ?_⟩ | refine envsub_v rfl (by first | rfl | (refine int_eq ?_; first | omega | (simp; omega) | (simp; done)) | (refine bool_eq ?_; first | (simp [*]; done) | (simp; done)) | (refine str_eq ?_; simp; done) | (refine ptr_eq ?_; omega) | fail) ?_)) (by rw [← e7]; exact Lay.ent)
    intro w
    dsimp only [List.cons_append, List.nil_append]
    refine c_code ?_
    refine r_region (id := 9) ?_
    refine o_give (g_move (evv rfl)) rfl rfl ?_
    refine o_give (g_move (evv rfl)) rfl rfl ?_
    refine o_give (g_nil (evv rfl)) rfl rfl ?_
    refine o_give (g_fld (evv rfl)) rfl rfl ?_
    refine o_give (g_load (evv rfl) (by rfl) (by rfl)) rfl rfl ?_
    refine o_give (g_lenM (evv rfl)) rfl rfl ?_
    refine o_give (g_nil (evv rfl)) rfl rfl ?_
    refine o_give (g_fld (evv rfl)) rfl rfl ?_
    refine o_store1 (evv rfl) (evv rfl) (by rfl) (by rfl) (by rfl) ?_
    refine o_nil ?_
    refine c_blk ?_
    refine c_code ?_
    refine r_region (id := 10) ?_
    refine o_giveN (g_bin (evv rfl) (evv rfl) (by rfl)) (by simp only [inR]; omega) rfl ?_
    refine o_give (g_move (evv rfl)) rfl rfl ?_
    refine o_nil ?_
    refine c_loop (1, w, u1, cutAt ks 0 b0 s0, (cutAt ks 0 b0 s0).length, b1, s1) ?_ ?_ (by repeat (first | exact trivial | refine ⟨rfl, ?_⟩ | refine envsub_v rfl (by first | rfl | (refine int_eq ?_; first | omega | (simp; omega) | (simp; done)) | (refine bool_eq ?_; first | (simp [*]; done) | (simp; done)) | (refine str_eq ?_; simp; done) | (refine ptr_eq ?_; omega) | fail) ?_)) ?_ <;> (try dsimp only)
    · exact ⟨by omega, by simp, by simp, by simp, by simp⟩
    · omega
    · exact Ent.swap.trans (Ent.cons (Ent.romIn.trans (romSubM (l' := [(w, bR (cutAt ks 0 b0 s0)), (u1, bR b1)]) (fun x hx => by simp only [List.mem_cons, List.not_mem_nil, or_false] at hx ⊢; rcases hx with rfl | rfl <;> simp))))
  · simp [show ¬ (1 : Nat) = 0 from by decide] at e1 e2 e3 e4
    rw [e1, e2, e3, e4]
    clear e1 e2 e3 e4
    have hm := more_le ks 1 b1.length s1
    have hc0 := cut_le ks 0 b0 s0
    have hc1 := cut_le ks 1 b1 s1
    refine r_seq ?_
    refine r_region (id := 2) ?_
    refine o_give (g_bin (evv rfl) (evv rfl) (by rfl)) rfl rfl ?_
    refine o_nil ?_
    refine c_code ?_
    refine r_seq ?_
    refine r_cond_true rfl ?_
    refine r_skip ?_
    refine c_code ?_
    refine r_seq ?_
    refine r_block ?_
    refine r_seq ?_
    refine r_region (id := 3) ?_
    refine o_give (g_move (evv rfl)) rfl rfl ?_
    refine o_give (g_assign (evv rfl)) rfl rfl ?_
    refine o_nil ?_
    refine c_code ?_
    refine r_seq ?_
    refine r_region (id := 4) ?_
    refine o_give (g_move (evv rfl)) rfl rfl ?_
    refine o_give (g_move (evv rfl)) rfl rfl ?_
    refine o_give (g_nil (evv rfl)) rfl rfl ?_
    refine o_give (g_fld (evv rfl)) rfl rfl ?_
    refine o_give (g_idxAN (evv rfl) (evv rfl) (by omega)) rfl rfl ?_
    refine o_give (g_assign (evv rfl)) rfl rfl ?_
    refine o_nil ?_
    refine c_code ?_
    refine r_seq ?_
    refine r_region (id := 5) ?_
    refine o_give (g_assign (evv rfl)) rfl rfl ?_
    refine o_nil ?_
    refine c_code ?_
    refine r_seq ?_
    refine r_seq ?_
    refine r_region (id := 6) ?_
    refine o_give (g_move (evv rfl)) rfl rfl ?_
    refine o_give (g_move (evv rfl)) rfl rfl ?_
    refine o_give (g_lenM (evv rfl)) rfl rfl ?_
    refine o_give (g_bin (evv rfl) (evv rfl) (by rfl)) rfl rfl ?_
    refine o_nil ?_
    refine c_code ?_
    repeat (first | refine r_seq ?_ | refine c_code ?_ | refine c_blk ?_ | refine r_block ?_ | refine r_skip ?_)
    refine r_cutE (σ := Unit) (fun u => [(6, .v (.int .i64 ((moreT ks 1 b1.length s1 : Nat) : Int)))]) [0,1,5,9] (fun u => blk p ⟨[u0, .int .i64 ((cutAt ks 0 b0 s0).length : Int), u1, .int .i64 (s1 : Int), .int .i64 (lv : Int), .int .i64 (am : Int), .bool dn], 58⟩ :: rom [(u0, bR (cutAt ks 0 b0 s0)), (u1, bR b1)] :: F) (by dsimp only [pickE, pick1, lk2, Nat.reduceBEq, Nat.reduceAdd, Nat.zero_add, cond_true, cond_false] <;> exact rfl) ?_ ?_
    · refine r_cond rfl (fun hk0 => ?_) (fun hk0 => ?_) <;> (try simp only [decide_eq_true_eq, decide_eq_false_iff_not, Bool.and_eq_true, Bool.or_eq_true, Bool.not_eq_true', Bool.and_eq_false_iff, Bool.or_eq_false_iff, Bool.not_eq_false', Bool.not_eq_true, Bool.not_eq_false, Bool.true_eq_false, Bool.false_eq_true, Int.not_lt, Int.not_le, not_and, not_or, ne_eq] at hk0)
      · have e5 : min (max (ks.getD 1 default) 0) ((b1.length : Int) - (s1 : Int)) = ((moreT ks 1 b1.length s1 : Nat) : Int) := by
          unfold moreT
          rw [if_pos (by omega)]
          omega
        refine r_quiet (id := 7) Mixed.h (by kernel_rfl) ?_
        refine q_give (g_move (evv rfl)) rfl rfl ?_
        refine q_give (g_move (evv rfl)) rfl rfl ?_
        refine q_give (g_idxMN (evv rfl) (evv rfl) (by rfl) (by first | omega | (simp only [List.length_set, List.length_append, List.length_cons, List.length_nil, List.length_map, List.length_take, List.length_drop, List.length_replicate]; omega))) rfl rfl ?_
        refine q_give (g_loadM (evv rfl) (by rfl) (by first | omega | (simp only [List.length_set, List.length_append, List.length_cons, List.length_nil, List.length_map, List.length_take, List.length_drop, List.length_replicate]; omega))) rfl rfl ?_
        refine q_give (g_max2 (evv rfl) (evv rfl)) rfl rfl ?_
        refine q_give (g_move (evv rfl)) rfl rfl ?_
        refine q_give (g_nil (evv rfl)) rfl rfl ?_
        refine q_give (g_fld (evv rfl)) rfl rfl ?_
        refine q_give (g_load (evv rfl) (by rfl) (by rfl)) rfl rfl ?_
        refine q_give (g_lenM (evv rfl)) rfl rfl ?_
        refine q_give (g_move (evv rfl)) rfl rfl ?_
        refine q_give (g_nil (evv rfl)) rfl rfl ?_
        refine q_give (g_fld (evv rfl)) rfl rfl ?_
        refine q_give (g_load (evv rfl) (by rfl) (by rfl)) rfl rfl ?_
        refine q_giveN (g_bin (evv rfl) (evv rfl) (by rfl)) (by simp only [inR]; omega) rfl ?_
        refine q_give (g_min2 (evv rfl) (evv rfl)) rfl rfl ?_
        refine q_give (g_assign (evv rfl)) rfl rfl ?_
        refine q_nil ?_
        simp only [i64v] at *
        rw [e5]
        exact c_cut () (by repeat (first | exact trivial | refine ⟨rfl, ?_⟩ | refine envsub_v rfl (by first | rfl | (refine int_eq ?_; first | omega | (simp; omega) | (simp; done)) | (refine bool_eq ?_; first | (simp [*]; done) | (simp; done)) | (refine str_eq ?_; simp; done) | (refine ptr_eq ?_; omega) | fail) ?_)) (Lay.ent)
      · have e6 : moreT ks 1 b1.length s1 = 0 := by unfold moreT; rw [if_neg (by omega)]
        rw [e6]
        refine r_skip ?_
        exact c_cut () (by repeat (first | exact trivial | refine ⟨rfl, ?_⟩ | refine envsub_v rfl (by first | rfl | (refine int_eq ?_; first | omega | (simp; omega) | (simp; done)) | (refine bool_eq ?_; first | (simp [*]; done) | (simp; done)) | (refine str_eq ?_; simp; done) | (refine ptr_eq ?_; omega) | fail) ?_)) (Lay.ent)
    intro u
    dsimp only [List.cons_append, List.nil_append]
    have e7 : (b1.drop 0).take (s1 + moreT ks 1 b1.length s1 - 0) = cutAt ks 1 b1 s1 := by simp only [cutAt, List.drop_zero, Nat.sub_zero]
    repeat (first | refine r_seq ?_ | refine c_code ?_ | refine c_blk ?_ | refine r_block ?_ | refine r_skip ?_)
    refine r_cutE (σ := Value) (fun w => []) [0, 1, 4, 5, 9, 10, 11, 12, 13, 14, 15, 16, 17, 18, 19, 20, 21, 22, 23, 24, 25, 26, 27, 28, 29, 30, 31, 32, 33, 34, 35, 36] (fun w => sl w (bR (cutAt ks 1 b1 s1)) :: blk p ⟨[u0, .int .i64 ((cutAt ks 0 b0 s0).length : Int), w, .int .i64 (s1 : Int), .int .i64 (lv : Int), .int .i64 (am : Int), .bool dn], 58⟩ :: rom [(u0, bR (cutAt ks 0 b0 s0)), (u1, bR b1)] :: F) (by dsimp only [pickE, pick1, lk2, Nat.reduceBEq, Nat.reduceAdd, Nat.zero_add, cond_true, cond_false] <;> exact rfl) ?_ ?_
    · refine r_held (id := 8) [] Mixed.h ?_
      (refine h_give (i := 0) (by kernel_rfl) rfl (g_move (evv rfl)) rfl rfl ?_)
      (refine h_give (i := 1) (by kernel_rfl) rfl (g_move (evv rfl)) rfl rfl ?_)
      (refine h_give (i := 2) (by kernel_rfl) rfl (g_nil (evv rfl)) rfl rfl ?_)
      (refine h_give (i := 3) (by kernel_rfl) rfl (g_fld (evv rfl)) rfl rfl ?_)
      (refine h_give (i := 5) (by kernel_rfl) rfl (g_move (evv rfl)) rfl rfl ?_)
      (refine h_give (i := 6) (by kernel_rfl) rfl (g_nil (evv rfl)) rfl rfl ?_)
      (refine h_give (i := 7) (by kernel_rfl) rfl (g_fld (evv rfl)) rfl rfl ?_)
      (refine h_give (i := 9) (by kernel_rfl) rfl (g_move (evv rfl)) rfl rfl ?_)
      refine h_two (i := 4) (j := 8) (by kernel_rfl) rfl rfl (Ent.nil _) ?_ ?_
      · (refine o_give (g_load (evv rfl) (by rfl) (by rfl)) rfl rfl ?_); refine o_nil ?_
        refine h_one (i := 8) (by kernel_rfl) rfl (Ent.nil _) ?_
        (refine o_give (g_load (evv rfl) (by rfl) (by rfl)) rfl rfl ?_); refine o_nil ?_
        (refine h_giveN (i := 10) (by kernel_rfl) rfl (g_bin (evv rfl) (evv rfl) (by rfl)) (by simp only [inR]; omega) rfl ?_)
        refine h_one (i := 11) (by kernel_rfl) rfl (Ent.nil _) ?_
        (refine o_give (g_subM (evv rfl) _ _ bnd_none (bnd_some (evv rfl) rfl) (by rfl) (by omega) (by omega)) rfl rfl ?_); refine o_nil ?_
        refine h_one (i := 12) (by kernel_rfl) rfl (Ent.nil _) ?_
        ((refine o_call rfl _ (Ent.refl _) (Clone_c _ _ _ (by first | assumption | omega | (simp only [List.length_take, List.length_drop]; omega))) rfl ?_; rintro cw _ ⟨-, rfl⟩)); refine o_nil ?_
        (refine h_give (i := 13) (by kernel_rfl) rfl (g_nil (evv rfl)) rfl rfl ?_)
        (refine h_give (i := 14) (by kernel_rfl) rfl (g_fld (evv rfl)) rfl rfl ?_)
        refine h_one (i := 15) (by kernel_rfl) rfl (Ent.nil _) ?_
        (refine o_store1 (evv rfl) (evv rfl) (by rfl) (by rfl) (by rfl) ?_); refine o_nil ?_
        refine h_done (by kernel_rfl) (Ent.nil _) ?_
        exact c_cut cw (by repeat (first | exact trivial | refine ⟨rfl, ?_⟩ | refine envsub_v rfl (by first | rfl | (refine int_eq ?_; first | omega | (simp; omega) | (simp; done)) | (refine bool_eq ?_; first | (simp [*]; done) | (simp; done)) | (refine str_eq ?_; simp; done) | (refine ptr_eq ?_; omega) | fail) ?_)) (by rw [← e7]; exact Lay.ent)
      · (refine o_give (g_load (evv rfl) (by rfl) (by rfl)) rfl rfl ?_); refine o_nil ?_
        (refine h_giveN (i := 10) (by kernel_rfl) rfl (g_bin (evv rfl) (evv rfl) (by rfl)) (by simp only [inR]; omega) rfl ?_)
        refine h_one (i := 4) (by kernel_rfl) rfl (Ent.nil _) ?_
        (refine o_give (g_load (evv rfl) (by rfl) (by rfl)) rfl rfl ?_); refine o_nil ?_
        refine h_one (i := 11) (by kernel_rfl) rfl (Ent.nil _) ?_
        (refine o_give (g_subM (evv rfl) _ _ bnd_none (bnd_some (evv rfl) rfl) (by rfl) (by omega) (by omega)) rfl rfl ?_); refine o_nil ?_
        refine h_one (i := 12) (by kernel_rfl) rfl (Ent.nil _) ?_
        ((refine o_call rfl _ (Ent.refl _) (Clone_c _ _ _ (by first | assumption | omega | (simp only [List.length_take, List.length_drop]; omega))) rfl ?_; rintro cw _ ⟨-, rfl⟩)); refine o_nil ?_
        (refine h_give (i := 13) (by kernel_rfl) rfl (g_nil (evv rfl)) rfl rfl ?_)
        (refine h_give (i := 14) (by kernel_rfl) rfl (g_fld (evv rfl)) rfl rfl ?_)
        refine h_one (i := 15) (by kernel_rfl) rfl (Ent.nil _) ?_
        (refine o_store1 (evv rfl) (evv rfl) (by rfl) (by rfl) (by rfl) ?_); refine o_nil ?_
        refine h_done (by kernel_rfl) (Ent.nil _) ?_
        exact c_cut cw (by repeat (first | exact trivial | refine ⟨rfl, ?_⟩ | refine envsub_v rfl (by first | rfl | (refine int_eq ?_; first | omega | (simp; omega) | (simp; done)) | (refine bool_eq ?_; first | (simp [*]; done) | (simp; done)) | (refine str_eq ?_; simp; done) | (refine ptr_eq ?_; omega) | fail) ?_)) (by rw [← e7]; exact Lay.ent)
    intro w
    dsimp only [List.cons_append, List.nil_append]
    refine c_code ?_
    refine r_region (id := 9) ?_
    refine o_give (g_move (evv rfl)) rfl rfl ?_
    refine o_give (g_move (evv rfl)) rfl rfl ?_
    refine o_give (g_nil (evv rfl)) rfl rfl ?_
    refine o_give (g_fld (evv rfl)) rfl rfl ?_
    refine o_give (g_load (evv rfl) (by rfl) (by rfl)) rfl rfl ?_
    refine o_give (g_lenM (evv rfl)) rfl rfl ?_
    refine o_give (g_nil (evv rfl)) rfl rfl ?_
    refine o_give (g_fld (evv rfl)) rfl rfl ?_
    refine o_store1 (evv rfl) (evv rfl) (by rfl) (by rfl) (by rfl) ?_
    refine o_nil ?_
    refine c_blk ?_
    refine c_code ?_
    refine r_region (id := 10) ?_
    refine o_giveN (g_bin (evv rfl) (evv rfl) (by rfl)) (by simp only [inR]; omega) rfl ?_
    refine o_give (g_move (evv rfl)) rfl rfl ?_
    refine o_nil ?_
    refine c_loop (2, u0, w, cutAt ks 0 b0 s0, (cutAt ks 0 b0 s0).length, cutAt ks 1 b1 s1, (cutAt ks 1 b1 s1).length) ?_ ?_ (by repeat (first | exact trivial | refine ⟨rfl, ?_⟩ | refine envsub_v rfl (by first | rfl | (refine int_eq ?_; first | omega | (simp; omega) | (simp; done)) | (refine bool_eq ?_; first | (simp [*]; done) | (simp; done)) | (refine str_eq ?_; simp; done) | (refine ptr_eq ?_; omega) | fail) ?_)) ?_ <;> (try dsimp only)
    · exact ⟨by omega, by simp, by simp, by simp, by simp⟩
    · omega
    · exact Ent.swap.trans (Ent.cons (Ent.romIn.trans (romSubM (l' := [(u0, bR (cutAt ks 0 b0 s0)), (w, bR (cutAt ks 1 b1 s1))]) (fun x hx => by simp only [List.mem_cons, List.not_mem_nil, or_false] at hx ⊢; rcases hx with rfl | rfl <;> simp))))
  · simp [show ¬ (2 : Nat) = 0 from by decide] at e1 e2 e3 e4
    rw [e1, e2, e3, e4]
    refine r_seq ?_
    refine r_region (id := 2) ?_
    refine o_give (g_bin (evv rfl) (evv rfl) (by rfl)) rfl rfl ?_
    refine o_nil ?_
    refine c_code ?_
    refine r_seq ?_
    refine r_cond_false rfl ?_
    refine r_exit rfl ?_
    refine c_code ?_
    refine r_region (id := 11) ?_
    refine o_give (g_move (evv rfl)) rfl rfl ?_
    refine o_give (g_move (evv rfl)) rfl rfl ?_
    refine o_give (g_nil (evv rfl)) rfl rfl ?_
    refine o_give (g_fld (evv rfl)) rfl rfl ?_
    refine o_store1 (evv rfl) (evv rfl) (by rfl) (by rfl) (by rfl) ?_
    refine o_give (g_nil (evv rfl)) rfl rfl ?_
    refine o_give (g_fld (evv rfl)) rfl rfl ?_
    refine o_store1 (evv rfl) (evv rfl) (by rfl) (by rfl) (by rfl) ?_
    refine o_nil ?_
    first | refine r_ret (rs := []) rfl rfl _ (pt_shut) ?_ | refine c_end (rs := []) rfl rfl _ (pt_shut) ?_
    (refine ⟨?_, ?_⟩ <;> first | rfl | trivial | omega)
end VK
