/- What a call of a script does to the platter; whether it has what the reference has. Conditions: few bytes. -/
import Derived.Test.YtbhlcncfpkfopaaPlat5
namespace VK
open Go Go.Proofs
set_option linter.unusedSimpArgs false
set_option linter.unusedVariables false
set_option maxRecDepth 100000
set_option maxHeartbeats 40000000
section
variable {c : Cx} {k : List KI} {E : Env} {L : List Atom} {all rest : List Oper} {ty : TypeId} {pos : String} {aft : Array Edge}
theorem o_storeB {t e : TypeId} {i : TI} {x y : Operand} {v : Value} {z : Int} {l : List UInt8} {j : Nat} {f : Atom → List Atom} [ti : TyI c.P t i]
    (hx : Evs c E x (elemP v j)) (hy : Evs c E y (.int .u8 z)) [p : Pick (sl v) L (mrow by8 e l) f] (h0 : 0 ≤ z) (h1 : z ≤ 255) (hn : i.size = 1) (hj : j < l.length)
    (hk : Ops c all rest k E (f (sl v (mrow by8 e (l.set j (UInt8.ofNat z.toNat)))))) : Ops c all (⟨none, .store t x y, ty, pos, aft, none⟩ :: rest) k E L :=
  o_storeM (UInt8.ofNat z.toNat) hx hy (by8_of h0 h1).symm hn hj hk
end
def sizeP (x : Pt) : Nat := x.b0.length + x.b1.length
theorem tick_size (x : Pt) : sizeP (tick x) = sizeP x := rfl
theorem chg_size (x : Pt) (c a : Int) : sizeP (chg x c a).2.2 = sizeP x := by
  unfold chg
  split
  · rfl
  · split
    · rfl
    · split
      · rfl
      · split <;> rfl
theorem setB_ok {x : Pt} (h : x.ok) {i : Int} {b : List UInt8} (h1 : (x.b i.toNat).length ≤ b.length) (hi : i = 0 ∨ i = 1) (h2 : b.length ≤ 1000000000) : (x.setB i b).ok := by
  obtain ⟨a1, a2, a3, a4, a5, a6⟩ := h
  rcases hi with rfl | rfl
  · exact ⟨a1, Nat.le_trans a2 h1, a3, h2, a5, a6⟩
  · exact ⟨a1, a2, Nat.le_trans a3 h1, a4, h2, a6⟩
theorem doT_ok {x : Pt} (h : x.ok) {c : RCall} (hn : inR .i64 c.n) (hs : sizeP x + c.b.length ≤ 1000000000) : (doT x c).2.ok ∧ sizeP (doT x c).2 ≤ sizeP x + c.b.length := by
  have hkr : 0 ≤ kindQ c ∧ kindQ c < 6 := by unfold kindQ; omega
  simp only [inR] at hn
  rcases (by omega : kindQ c = 0 ∨ kindQ c = 1 ∨ kindQ c = 2 ∨ kindQ c = 3 ∨ kindQ c = 4 ∨ kindQ c = 5) with hk | hk | hk | hk | hk | hk
  · rw [doT_0 hk, appT]
    have hc := chg_ok h 0 c.area
    have hz := chg_size x 0 c.area
    have hat := chg_at (x := x) (at_ := c.area) (call := 0) (by decide)
    generalize chg x 0 c.area = r at *
    dsimp only
    split
    · rename_i hd
      have ha := hat hd
      have hb : (r.2.2.b c.area.toNat).length ≤ sizeP r.2.2 := by
        rcases ha with ha | ha <;> rw [ha] <;> simp [Pt.b, sizeP]
      refine ⟨setB_ok hc (by simp) ha (by simp; omega), ?_⟩
      rcases ha with ha | ha <;> rw [ha] <;> simp [Pt.setB, Pt.b, sizeP] at hz ⊢ <;> omega
    · exact ⟨hc, by omega⟩
  · rw [doT_1 hk, synT]
    have hc := chg_ok h 1 c.area
    have hz := chg_size x 1 c.area
    have hat := chg_at0 (x := x) (at_ := c.area) (call := 1) (by decide)
    generalize chg x 1 c.area = r at *
    dsimp only
    split
    · rename_i hd
      have ha := hat hd
      obtain ⟨a1, a2, a3, a4, a5, a6⟩ := hc
      rcases ha with ha | ha <;> rw [ha]
      · exact ⟨⟨a1, Nat.le_refl _, a3, a4, a5, a6⟩, by simp [Pt.setS, sizeP] at hz ⊢; omega⟩
      · exact ⟨⟨a1, a2, Nat.le_refl _, a4, a5, a6⟩, by simp [Pt.setS, sizeP] at hz ⊢; omega⟩
    · exact ⟨hc, by omega⟩
  · rw [doT_2 hk, wipT]
    have hc := chg_ok h 2 c.area
    have hz := chg_size x 2 c.area
    have hat := chg_at0 (x := x) (at_ := c.area) (call := 2) (by decide)
    generalize chg x 2 c.area = r at *
    dsimp only
    split
    · rename_i hd
      have ha := hat hd
      obtain ⟨a1, a2, a3, a4, a5, a6⟩ := hc
      rcases ha with ha | ha <;> rw [ha]
      · exact ⟨⟨a1, Nat.le_refl _, a3, Nat.zero_le _, a5, a6⟩, by simp [Pt.setS, Pt.setB, sizeP] at hz ⊢; omega⟩
      · exact ⟨⟨a1, a2, Nat.le_refl _, a4, Nat.zero_le _, a6⟩, by simp [Pt.setS, Pt.setB, sizeP] at hz ⊢; omega⟩
    · exact ⟨hc, by omega⟩
  · rw [doT_3 hk, flpT]
    have hc := chg_ok h 3 0
    have hz := chg_size x 3 0
    generalize chg x 3 0 = r at *
    dsimp only
    split
    · obtain ⟨a1, a2, a3, a4, a5, a6⟩ := hc
      exact ⟨⟨by simp only; omega, a2, a3, a4, a5, a6⟩, by simp [sizeP] at hz ⊢; omega⟩
    · exact ⟨hc, by omega⟩
  · have e : doT x c = (0, armT x c.n) := by simp [doT, hk]
    rw [e]
    show (armT x c.n).ok ∧ sizeP (armT x c.n) ≤ _
    unfold armT
    split
    · exact ⟨h, by omega⟩
    · obtain ⟨a1, a2, a3, a4, a5, a6⟩ := h
      exact ⟨⟨a1, a2, a3, a4, a5, by simp only; omega⟩, by simp [sizeP]⟩
  · have e : doT x c = (0, cutT x c.ks) := by simp [doT, hk]
    rw [e]
    obtain ⟨a1, a2, a3, a4, a5, a6⟩ := h
    have c0 := cut_le c.ks 0 x.b0 x.s0
    have c1 := cut_le c.ks 1 x.b1 x.s1
    exact ⟨⟨a1, Nat.le_refl _, Nat.le_refl _, Nat.le_trans c0 a4, Nat.le_trans c1 a5, Nat.zero_le _⟩, by simp [cutT, sizeP]; omega⟩
theorem do_c (F : List Atom) (p : Nat) (x : Pt) (h : x.ok) (c : RCall) [rd : RdC F c] (hk : ∀ k ∈ c.ks, inR .i64 k) (hb : c.b.length ≤ 100000000) :
    Fn Try.prog 18 [.pointer (some ⟨p, 0, none⟩), agg (rcallC c)] (pt p x :: F) fun v L' => v = .int .i64 (doT x c).1 ∧ L' = pt p (doT x c).2 :: F := by
  have rb := rd.b
  have rk := rd.k
  refine fn_intro Try.func18 rfl Try.ntmps18 rfl (fun W0 => ?_)
  simp only [argE]
  have hk5 : c.kind % 18446744073709551616 % 6 = kindQ c := rfl
  refine r_seq ?_
  refine r_region (id := 0) ?_
  refine o_boxA (evv rfl) rfl (fun _ => ?_)
  refine o_give (g_assign (evv rfl)) rfl rfl ?_
  refine o_nil ?_
  refine c_code ?_
  refine r_seq ?_
  refine r_seq ?_
  refine r_region (id := 1) ?_
  refine o_give (g_fld (evv rfl)) rfl rfl ?_
  refine o_give (g_load (evv rfl) (by rfl) (by rfl)) rfl rfl ?_
  refine o_giveU (g_conv TyU.h TyU.h (evv rfl)) (by rfl) rfl ?_
  refine o_give (g_remP (evv rfl) (evv rfl) (by omega) (by omega)) rfl rfl ?_
  refine o_nil ?_
  refine c_code ?_
  refine r_block ?_
  refine r_seq ?_
  rw [hk5]
  rename_i q
  generalize hkc : kindQ c = kc
  have hkr : 0 ≤ kc ∧ kc < 6 := by rw [← hkc]; unfold kindQ; omega
  obtain ⟨kind, area, bv, b, n, kv, ks⟩ := c
  dsimp only at rb rk hk hb
  refine r_ent (pt p x :: blk q ⟨[.int .i64 kind, .int .i64 area, bv, .int .i64 n, kv], 47⟩ :: F) Ent.swap ?_
  rcases (by omega : kc = 0 ∨ kc = 1 ∨ kc = 2 ∨ kc = 3 ∨ kc = 4 ∨ kc = 5) with rfl | rfl | rfl | rfl | rfl | rfl
  · rw [doT_0 hkc]
    refine r_region (id := 2) ?_
    refine o_give (g_bin (evv rfl) (evv rfl) (by rfl)) rfl rfl ?_
    refine o_give (g_assign (evv rfl)) rfl rfl ?_
    refine o_nil ?_
    refine c_code ?_
    refine r_cond_true rfl ?_
    refine r_seq ?_
    refine r_region (id := 3) ?_
    refine o_lit0 by8 (by rfl) rfl (fun _ => ?_)
    refine o_give (g_fld (evv rfl)) rfl rfl ?_
    refine o_give (g_load (evv rfl) (by rfl) (by rfl)) rfl rfl ?_
    refine o_appM (evv rfl) (evv rfl) (by rfl) (by rfl) (by rfl) (by (try simp only [bsOf, List.length_append, List.length_cons, List.length_nil]); omega) rfl (fun _ => ?_)
    refine o_give (g_assign (evv rfl)) rfl rfl ?_
    refine o_nil ?_
    refine c_code ?_
    refine r_seq ?_
    rename_i w
    simp only [List.nil_append]
    have hb9 : b.length ≤ 1000000000 := by omega
    refine r_region (id := 4) ?_
    refine o_give (g_move (evv rfl)) rfl rfl ?_
    refine o_give (g_fld (evv rfl)) rfl rfl ?_
    refine o_give (g_load (evv rfl) (by rfl) (by rfl)) rfl rfl ?_
    refine o_give (g_move (evv rfl)) rfl rfl ?_
    (refine o_call rfl _ (PickR.ent (K := pt _)) (Append_c _ _ _ (by assumption) _ _ _ (by first | assumption | omega)) rfl ?_; rintro _ _ ⟨rfl, rfl⟩)
    refine o_give (g_assign (evv rfl)) rfl rfl ?_
    refine o_nil ?_
    refine c_code ?_
    refine r_seq ?_
    refine r_seq ?_
    refine r_region (id := 5) ?_
    refine o_give (g_assign (evv rfl)) rfl rfl ?_
    refine o_nil ?_
    refine c_code ?_
    refine r_block ?_
    refine r_loopE (σ := Nat × List UInt8) (fun ⟨j, l⟩ => j ≤ b.length ∧ l.length = b.length) (fun ⟨j, l⟩ => b.length - j) (fun ⟨j, l⟩ => [(7, .v (.int .i64 j))]) [0, 3, 5, 6, 11] (fun ⟨j, l⟩ => pt p (appT x area b).2 :: sl w (bR l) :: F) (0, b) (by dsimp only [pickE, pick1, lk2, Nat.reduceBEq, Nat.reduceAdd, Nat.zero_add, cond_true, cond_false] <;> exact rfl) ?_ (by repeat (first | exact trivial | refine ⟨rfl, ?_⟩ | refine envsub_v rfl (by first | rfl | (refine int_eq ?_; first | omega | (simp; omega) | (simp; done)) | (refine bool_eq ?_; first | (simp [*]; done) | (simp; done)) | (refine str_eq ?_; simp; done) | (refine ptr_eq ?_; omega) | fail) ?_)) ?_ ?_
    · exact ⟨Nat.zero_le _, rfl⟩
    · exact Lay.ent
    rintro ⟨j, l⟩ ⟨hj, hl⟩; dsimp only [List.cons_append, List.nil_append]
    refine r_seq ?_
    refine r_seq ?_
    refine r_region (id := 6) ?_
    refine o_give (g_move (evv rfl)) rfl rfl ?_
    refine o_give (g_move (evv rfl)) rfl rfl ?_
    refine o_give (g_lenM (evv rfl)) rfl rfl ?_
    refine o_give (g_bin (evv rfl) (evv rfl) (by rfl)) rfl rfl ?_
    refine o_nil ?_
    refine c_code ?_
    refine r_cond rfl (fun hj1 => ?_) (fun hj1 => ?_) <;> (try simp only [decide_eq_true_eq, decide_eq_false_iff_not, Bool.and_eq_true, Bool.or_eq_true, Bool.not_eq_true', Bool.and_eq_false_iff, Bool.or_eq_false_iff, Bool.not_eq_false', Bool.not_eq_true, Bool.not_eq_false, Bool.true_eq_false, Bool.false_eq_true, Int.not_lt, Int.not_le, not_and, not_or, ne_eq] at hj1)
    · refine r_skip ?_
      refine c_code ?_
      refine r_seq ?_
      refine r_block ?_
      refine r_region (id := 8) ?_
      refine o_give (g_move (evv rfl)) rfl rfl ?_
      refine o_give (g_move (evv rfl)) rfl rfl ?_
      refine o_give (g_idxMN (evv rfl) (evv rfl) (by rfl) (by first | omega | (have := of_decide_eq_true hg; omega) | (simp at hg; omega) | (simp only [List.length_set, List.length_append, List.length_cons, List.length_nil, List.length_map, List.length_take, List.length_drop, List.length_replicate]; omega))) rfl rfl ?_
      refine o_storeB (evv rfl) (evv rfl) (by omega) (by omega) (by rfl) (by first | omega | (have := of_decide_eq_true hg; omega) | (simp at hg; omega) | (simp only [List.length_set, List.length_append, List.length_cons, List.length_nil, List.length_map, List.length_take, List.length_drop, List.length_replicate]; omega)) ?_
      refine o_nil ?_
      refine c_blk ?_
      refine c_code ?_
      refine r_region (id := 7) ?_
      refine o_give (g_move (evv rfl)) rfl rfl ?_
      refine o_giveN (g_bin (evv rfl) (evv rfl) (by rfl)) (by simp only [inR]; omega) rfl ?_
      refine o_give (g_assign (evv rfl)) rfl rfl ?_
      refine o_nil ?_
      refine c_loop (j + 1, l.set j (UInt8.ofNat (238 : Int).toNat)) ?_ ?_ (by repeat (first | exact trivial | refine ⟨rfl, ?_⟩ | refine envsub_v rfl (by first | rfl | (refine int_eq ?_; first | omega | (simp; omega) | (simp; done)) | (refine bool_eq ?_; first | (simp [*]; done) | (simp; done)) | (refine str_eq ?_; simp; done) | (refine ptr_eq ?_; omega) | fail) ?_)) ?_ <;> (try dsimp only)
      · exact ⟨by omega, by simpa using hl⟩
      · omega
      · exact Ent.refl _
    · refine r_exit rfl ?_
      refine c_code ?_
      refine r_seq ?_
      refine r_region (id := 9) ?_
      refine o_give (g_move (evv rfl)) rfl rfl ?_
      refine o_give (g_assign (evv rfl)) rfl rfl ?_
      refine o_nil ?_
      refine c_code ?_
      first | refine r_ret (rs := [.tmp 4]) rfl rfl _ ((Lay.ent (L' := pt p (appT x area b).2 :: F))) ?_ | refine c_end (rs := [.tmp 4]) rfl rfl _ ((Lay.ent (L' := pt p (appT x area b).2 :: F))) ?_
      (refine ⟨?_, ?_⟩ <;> first | rfl | trivial | omega)
  · rw [doT_1 hkc]
    refine r_region (id := 2) ?_
    refine o_give (g_bin (evv rfl) (evv rfl) (by rfl)) rfl rfl ?_
    refine o_give (g_assign (evv rfl)) rfl rfl ?_
    refine o_nil ?_
    refine c_code ?_
    refine r_cond_false rfl ?_
    refine r_seq ?_
    refine r_region (id := 10) ?_
    refine o_give (g_bin (evv rfl) (evv rfl) (by rfl)) rfl rfl ?_
    refine o_give (g_assign (evv rfl)) rfl rfl ?_
    refine o_nil ?_
    refine c_code ?_
    refine r_cond_true rfl ?_
    refine r_seq ?_
    refine r_region (id := 11) ?_
    refine o_give (g_move (evv rfl)) rfl rfl ?_
    refine o_give (g_fld (evv rfl)) rfl rfl ?_
    refine o_give (g_load (evv rfl) (by rfl) (by rfl)) rfl rfl ?_
    (refine o_call rfl _ (PickR.ent (K := pt _)) (Sync_c _ _ _ (by assumption) _) rfl ?_; rintro _ _ ⟨rfl, rfl⟩)
    refine o_give (g_assign (evv rfl)) rfl rfl ?_
    refine o_nil ?_
    refine c_code ?_
    first | refine r_ret (rs := [.tmp 4]) rfl rfl _ ((Lay.ent (L' := pt p (synT x area).2 :: F))) ?_ | refine c_end (rs := [.tmp 4]) rfl rfl _ ((Lay.ent (L' := pt p (synT x area).2 :: F))) ?_
    (refine ⟨?_, ?_⟩ <;> first | rfl | trivial | omega)
  · rw [doT_2 hkc]
    refine r_region (id := 2) ?_
    refine o_give (g_bin (evv rfl) (evv rfl) (by rfl)) rfl rfl ?_
    refine o_give (g_assign (evv rfl)) rfl rfl ?_
    refine o_nil ?_
    refine c_code ?_
    refine r_cond_false rfl ?_
    refine r_seq ?_
    refine r_region (id := 10) ?_
    refine o_give (g_bin (evv rfl) (evv rfl) (by rfl)) rfl rfl ?_
    refine o_give (g_assign (evv rfl)) rfl rfl ?_
    refine o_nil ?_
    refine c_code ?_
    refine r_cond_false rfl ?_
    refine r_seq ?_
    refine r_region (id := 12) ?_
    refine o_give (g_bin (evv rfl) (evv rfl) (by rfl)) rfl rfl ?_
    refine o_give (g_assign (evv rfl)) rfl rfl ?_
    refine o_nil ?_
    refine c_code ?_
    refine r_cond_true rfl ?_
    refine r_seq ?_
    refine r_region (id := 13) ?_
    refine o_give (g_move (evv rfl)) rfl rfl ?_
    refine o_give (g_fld (evv rfl)) rfl rfl ?_
    refine o_give (g_load (evv rfl) (by rfl) (by rfl)) rfl rfl ?_
    (refine o_call rfl _ (PickR.ent (K := pt _)) (Wipe_c _ _ _ (by assumption) _) rfl ?_; rintro _ _ ⟨rfl, rfl⟩)
    refine o_give (g_assign (evv rfl)) rfl rfl ?_
    refine o_nil ?_
    refine c_code ?_
    first | refine r_ret (rs := [.tmp 4]) rfl rfl _ ((Lay.ent (L' := pt p (wipT x area).2 :: F))) ?_ | refine c_end (rs := [.tmp 4]) rfl rfl _ ((Lay.ent (L' := pt p (wipT x area).2 :: F))) ?_
    (refine ⟨?_, ?_⟩ <;> first | rfl | trivial | omega)
  · rw [doT_3 hkc]
    refine r_region (id := 2) ?_
    refine o_give (g_bin (evv rfl) (evv rfl) (by rfl)) rfl rfl ?_
    refine o_give (g_assign (evv rfl)) rfl rfl ?_
    refine o_nil ?_
    refine c_code ?_
    refine r_cond_false rfl ?_
    refine r_seq ?_
    refine r_region (id := 10) ?_
    refine o_give (g_bin (evv rfl) (evv rfl) (by rfl)) rfl rfl ?_
    refine o_give (g_assign (evv rfl)) rfl rfl ?_
    refine o_nil ?_
    refine c_code ?_
    refine r_cond_false rfl ?_
    refine r_seq ?_
    refine r_region (id := 12) ?_
    refine o_give (g_bin (evv rfl) (evv rfl) (by rfl)) rfl rfl ?_
    refine o_give (g_assign (evv rfl)) rfl rfl ?_
    refine o_nil ?_
    refine c_code ?_
    refine r_cond_false rfl ?_
    refine r_seq ?_
    refine r_region (id := 14) ?_
    refine o_give (g_bin (evv rfl) (evv rfl) (by rfl)) rfl rfl ?_
    refine o_give (g_assign (evv rfl)) rfl rfl ?_
    refine o_nil ?_
    refine c_code ?_
    refine r_cond_true rfl ?_
    refine r_seq ?_
    refine r_region (id := 15) ?_
    refine o_give (g_move (evv rfl)) rfl rfl ?_
    (refine o_call rfl _ (PickR.ent (K := pt _)) (Flip_c _ _ _ (by assumption)) rfl ?_; rintro _ _ ⟨rfl, rfl⟩)
    refine o_give (g_assign (evv rfl)) rfl rfl ?_
    refine o_nil ?_
    refine c_code ?_
    first | refine r_ret (rs := [.tmp 4]) rfl rfl _ ((Lay.ent (L' := pt p (flpT x).2 :: F))) ?_ | refine c_end (rs := [.tmp 4]) rfl rfl _ ((Lay.ent (L' := pt p (flpT x).2 :: F))) ?_
    (refine ⟨?_, ?_⟩ <;> first | rfl | trivial | omega)
  · have hd : doT x ⟨kind, area, bv, b, n, kv, ks⟩ = (0, armT x n) := by simp only [doT, hkc]; rfl
    rw [hd]
    refine r_region (id := 2) ?_
    refine o_give (g_bin (evv rfl) (evv rfl) (by rfl)) rfl rfl ?_
    refine o_give (g_assign (evv rfl)) rfl rfl ?_
    refine o_nil ?_
    refine c_code ?_
    refine r_cond_false rfl ?_
    refine r_seq ?_
    refine r_region (id := 10) ?_
    refine o_give (g_bin (evv rfl) (evv rfl) (by rfl)) rfl rfl ?_
    refine o_give (g_assign (evv rfl)) rfl rfl ?_
    refine o_nil ?_
    refine c_code ?_
    refine r_cond_false rfl ?_
    refine r_seq ?_
    refine r_region (id := 12) ?_
    refine o_give (g_bin (evv rfl) (evv rfl) (by rfl)) rfl rfl ?_
    refine o_give (g_assign (evv rfl)) rfl rfl ?_
    refine o_nil ?_
    refine c_code ?_
    refine r_cond_false rfl ?_
    refine r_seq ?_
    refine r_region (id := 14) ?_
    refine o_give (g_bin (evv rfl) (evv rfl) (by rfl)) rfl rfl ?_
    refine o_give (g_assign (evv rfl)) rfl rfl ?_
    refine o_nil ?_
    refine c_code ?_
    refine r_cond_false rfl ?_
    refine r_seq ?_
    refine r_region (id := 16) ?_
    refine o_give (g_bin (evv rfl) (evv rfl) (by rfl)) rfl rfl ?_
    refine o_give (g_assign (evv rfl)) rfl rfl ?_
    refine o_nil ?_
    refine c_code ?_
    refine r_cond_true rfl ?_
    refine r_seq ?_
    refine r_region (id := 17) ?_
    refine o_give (g_move (evv rfl)) rfl rfl ?_
    refine o_give (g_fld (evv rfl)) rfl rfl ?_
    refine o_give (g_load (evv rfl) (by rfl) (by rfl)) rfl rfl ?_
    (refine o_call rfl _ (PickR.ent (K := pt _)) (Arm_c _ _ _ _) rfl ?_; rintro _ _ ⟨rfl, rfl⟩)
    refine o_nil ?_
    refine c_code ?_
    refine r_seq ?_
    refine r_region (id := 18) ?_
    refine o_give (g_assign (evv rfl)) rfl rfl ?_
    refine o_nil ?_
    refine c_code ?_
    first | refine r_ret (rs := [.tmp 4]) rfl rfl _ ((Lay.ent (L' := pt p (armT x n) :: F))) ?_ | refine c_end (rs := [.tmp 4]) rfl rfl _ ((Lay.ent (L' := pt p (armT x n) :: F))) ?_
    (refine ⟨?_, ?_⟩ <;> first | rfl | trivial | omega)
  · have hd : doT x ⟨kind, area, bv, b, n, kv, ks⟩ = (0, cutT x ks) := by simp only [doT, hkc]; rfl
    rw [hd]
    refine r_region (id := 2) ?_
    refine o_give (g_bin (evv rfl) (evv rfl) (by rfl)) rfl rfl ?_
    refine o_give (g_assign (evv rfl)) rfl rfl ?_
    refine o_nil ?_
    refine c_code ?_
    refine r_cond_false rfl ?_
    refine r_seq ?_
    refine r_region (id := 10) ?_
    refine o_give (g_bin (evv rfl) (evv rfl) (by rfl)) rfl rfl ?_
    refine o_give (g_assign (evv rfl)) rfl rfl ?_
    refine o_nil ?_
    refine c_code ?_
    refine r_cond_false rfl ?_
    refine r_seq ?_
    refine r_region (id := 12) ?_
    refine o_give (g_bin (evv rfl) (evv rfl) (by rfl)) rfl rfl ?_
    refine o_give (g_assign (evv rfl)) rfl rfl ?_
    refine o_nil ?_
    refine c_code ?_
    refine r_cond_false rfl ?_
    refine r_seq ?_
    refine r_region (id := 14) ?_
    refine o_give (g_bin (evv rfl) (evv rfl) (by rfl)) rfl rfl ?_
    refine o_give (g_assign (evv rfl)) rfl rfl ?_
    refine o_nil ?_
    refine c_code ?_
    refine r_cond_false rfl ?_
    refine r_seq ?_
    refine r_region (id := 16) ?_
    refine o_give (g_bin (evv rfl) (evv rfl) (by rfl)) rfl rfl ?_
    refine o_give (g_assign (evv rfl)) rfl rfl ?_
    refine o_nil ?_
    refine c_code ?_
    refine r_cond_false rfl ?_
    refine r_skip ?_
    refine c_blk ?_
    refine c_code ?_
    refine r_seq ?_
    refine r_region (id := 19) ?_
    refine o_give (g_move (evv rfl)) rfl rfl ?_
    refine o_give (g_fld (evv rfl)) rfl rfl ?_
    refine o_give (g_load (evv rfl) (by rfl) (by rfl)) rfl rfl ?_
    (refine o_call rfl _ (PickR.ent (K := pt _)) (Cut_c _ _ _ (by assumption) _ _ (by assumption)) rfl ?_; rintro _ _ ⟨rfl, rfl⟩)
    refine o_nil ?_
    refine c_code ?_
    refine r_seq ?_
    refine r_region (id := 20) ?_
    refine o_give (g_assign (evv rfl)) rfl rfl ?_
    refine o_nil ?_
    refine c_code ?_
    first | refine r_ret (rs := [.tmp 4]) rfl rfl _ ((Lay.ent (L' := pt p (cutT x ks) :: F))) ?_ | refine c_end (rs := [.tmp 4]) rfl rfl _ ((Lay.ent (L' := pt p (cutT x ks) :: F))) ?_
    (refine ⟨?_, ?_⟩ <;> first | rfl | trivial | omega)
end VK
