/- PlatterLasts, walked. Conditions: few bytes. -/
import Derived.Test.YtbhlcncfpkfopaaPlat9
namespace VK
open Go Go.Proofs
set_option linter.unusedSimpArgs false
set_option linter.unusedVariables false
set_option maxRecDepth 100000
set_option maxHeartbeats 40000000
section
variable {c : Cx} {k : List KI} {E : Env} {L : List Atom} {all ops : List Oper}
/-- a value whose guard was met -/
theorem o_sure {t : Nat} {g : Bool} {v : Value} (h : lk E t = some (.gv g v)) (hg : g = true) (hk : Ops c all ops k ((t, .v v) :: E) L) : Ops c all ops k E L := by
  unfold Ops at *
  intro a w he hs
  refine hk a w ⟨he.size, he.defers, fun t' x hx => ?_⟩ hs
  simp only [lk] at hx
  cases hb : Nat.beq t t' with
  | true =>
    rw [hb] at hx
    have : t = t' := Nat.eq_of_beq_eq_true hb
    subst this
    simp at hx
    subst hx
    have := he.known t _ h
    rw [this]
    simp [EV.val, hg]
  | false => rw [hb] at hx; exact he.known t' x (by simpa using hx)
end
def pcV (p : Value × List UInt8) : Value := p.1
instance : Inhabited (Value × List UInt8) := ⟨(.slice none 0 0, [])⟩
theorem app0 {x : Pt} (h : x.down = false) (m : List UInt8) : appT x 0 m = (if x.armed = 1 then 170 else 0, { tick x with b0 := x.b0 ++ m }) := by
  rw [appT, chg_go (.inr (.inl rfl)) h (by omega) (by omega)]; rfl
theorem syn0 (y : Pt) : synT y 0 = if y.down = true then (170, y) else (if y.armed = 1 then 170 else 0, if y.armed = 1 then tick y else { tick y with s0 := y.b0.length }) := by
  by_cases hd : y.down = true
  · rw [if_pos hd, synT, chg_down (.inr (.inl rfl)) hd]; rfl
  · rw [if_neg hd, synT, chg_go (.inr (.inl rfl)) (by simpa using hd) (by omega) (by omega)]
    by_cases ha : y.armed = 1
    · simp [ha]
    · simp [ha]; rfl
structure LastI (n : Nat) (x : Pt) : Prop where
  ok : x.ok
  live : x.live = 0
  len : x.b0.length ≤ 1000 * n
theorem LastI.mono {n m : Nat} {x : Pt} (h : LastI n x) (hn : n ≤ m) : LastI m x := ⟨h.ok, h.live, by have := h.len; omega⟩
def aft (x : Pt) (m : List UInt8) : Pt := { tick x with b0 := x.b0 ++ m }
theorem aft_b0 (x : Pt) (m : List UInt8) : (aft x m).b0 = x.b0 ++ m := rfl
theorem aft_s0 (x : Pt) (m : List UInt8) : (aft x m).s0 = x.s0 := rfl
theorem app0' {x : Pt} (h : x.down = false) (m : List UInt8) : appT x 0 m = (if x.armed = 1 then 170 else 0, aft x m) := app0 h m
theorem aft_I {n : Nat} {x : Pt} {m : List UInt8} (h : LastI n x) (hm : m.length ≤ 1000) (hn : n < 60) : LastI (n + 1) (aft x m) := by
  obtain ⟨⟨h1, h2, h3, h4, h5, h6⟩, h7, h8⟩ := h
  refine ⟨⟨h1, ?_, h3, ?_, h5, ?_⟩, h7, ?_⟩ <;> simp only [aft, tick, List.length_append] <;> omega
theorem syn_I {n : Nat} {y : Pt} (h : LastI n y) : ∃ c z, synT y 0 = (c, z) ∧ LastI n z ∧ z.b0 = y.b0 ∧ (c = 0 → z.s0 = y.b0.length) ∧ (c ≠ 0 → z.s0 = y.s0) := by
  rw [syn0]
  obtain ⟨⟨h1, h2, h3, h4, h5, h6⟩, h7, h8⟩ := h
  by_cases hd : y.down = true
  · rw [if_pos hd]
    exact ⟨_, _, rfl, ⟨⟨h1, h2, h3, h4, h5, h6⟩, h7, h8⟩, rfl, fun e => absurd e (by decide), fun _ => rfl⟩
  · rw [if_neg hd]
    by_cases ha : y.armed = 1
    · rw [if_pos ha, if_pos ha]
      refine ⟨_, _, rfl, ⟨⟨h1, h2, h3, h4, h5, ?_⟩, h7, h8⟩, rfl, fun e => absurd e (by decide), fun _ => rfl⟩
      simp only [tick]; omega
    · rw [if_neg ha, if_neg ha]
      refine ⟨_, _, rfl, ⟨⟨h1, ?_, h3, h4, h5, ?_⟩, h7, h8⟩, rfl, fun _ => rfl, fun e => absurd rfl e⟩ <;> simp only [tick] <;> omega
theorem PlatterLasts_c (W : World) (vp vs : Value) (pieces : List (Value × List UInt8)) (syncs : List Bool) (calls keep : Int) [rp' : Rd [base W] vp (mrow pcV 28 pieces)] [rs : Rd [base W] vs (mrow boolv 4 syncs)]
    (hp : ∀ p ∈ pieces, Rd [base W] p.1 (bR p.2)) (hpl : ∀ p ∈ pieces, p.2.length ≤ 100000000) (hc : inR .i64 calls) (hkp : inR .i64 keep) :
    Fn Try.prog 3 [vp, vs, .int .i64 calls, .int .i64 keep] [base W] fun w L' => w = .bool true ∧ L' = [base W] := by
  have k0 : zeroPt.ok := ⟨.inl rfl, Nat.le_refl _, Nat.le_refl _, Nat.zero_le _, Nat.zero_le _, Nat.zero_le _⟩
  refine fn_lenM rp' fun hlen => ?_
  have hlen : pieces.length ≤ 2 ^ 63 - 1 := hlen
  refine fn_lenM rs fun hlen2 => ?_
  have hlen2 : syncs.length ≤ 2 ^ 63 - 1 := hlen2
  have hc' := hc
  have hk' := hkp
  simp only [inR] at hc' hk'
  refine fn_intro Try.func3 rfl Try.ntmps3 rfl (fun W0 => ?_)
  simp only [argE]
  have hI0 : LastI 0 (armT zeroPt calls) := ⟨⟨.inl rfl, Nat.le_refl _, Nat.le_refl _, Nat.zero_le _, Nat.zero_le _, by simp [armT, zeroPt]; omega⟩, rfl, Nat.zero_le _⟩
  refine r_seq ?_
  refine r_region (id := 0) ?_
  refine o_give (g_assign (evv rfl)) rfl rfl ?_
  refine o_nil ?_
  refine c_code ?_
  refine r_seq ?_
  refine r_seq ?_
  refine r_region (id := 1) ?_
  (refine o_call rfl _ (Ent.refl _) (awake_c _) rfl ?_; rintro _ _ ⟨rfl, rfl⟩)
  refine o_give (g_not (evv rfl)) rfl rfl ?_
  refine o_nil ?_
  refine c_code ?_
  refine r_cond_false rfl ?_
  refine r_skip ?_
  refine c_code ?_
  refine r_seq ?_
  refine r_region (id := 3) ?_
  (refine o_call rfl _ (Ent.refl _) (New_c _) rfl ?_; rintro _ _ ⟨np, rfl, rfl⟩)
  refine o_give (g_assign (evv rfl)) rfl rfl ?_
  refine o_nil ?_
  refine c_code ?_
  refine r_seq ?_
  refine r_seq ?_
  refine r_region (id := 4) ?_
  refine o_give (g_move (evv rfl)) rfl rfl ?_
  refine o_give (g_pnil TyU.h (evv rfl) (evv rfl) (by simp) (by rfl)) rfl rfl ?_
  refine o_nil ?_
  refine c_code ?_
  refine r_cond_false rfl ?_
  refine r_skip ?_
  refine c_code ?_
  refine r_seq ?_
  refine r_region (id := 6) ?_
  refine o_give (g_move (evv rfl)) rfl rfl ?_
  refine o_give (g_move (evv rfl)) rfl rfl ?_
  (refine o_call rfl _ (PickR.ent (K := pt _)) (Arm_c _ _ _ _) rfl ?_; rintro _ _ ⟨rfl, rfl⟩)
  refine o_nil ?_
  refine c_code ?_
  refine r_seq ?_
  refine r_region (id := 7) ?_
  refine o_give (g_assign (evv rfl)) rfl rfl ?_
  refine o_nil ?_
  refine c_code ?_
  refine r_seq ?_
  refine r_region (id := 8) ?_
  refine o_give (g_assign (evv rfl)) rfl rfl ?_
  refine o_nil ?_
  refine c_code ?_
  refine r_seq ?_
  refine r_seq ?_
  refine r_region (id := 9) ?_
  refine o_give (g_assign (evv rfl)) rfl rfl ?_
  refine o_nil ?_
  refine c_code ?_
  repeat (first | refine r_seq ?_ | refine c_code ?_ | refine c_blk ?_ | refine r_skip ?_)
  refine r_cutE (σ := { x : Pt // LastI 60 x }) (fun x => [(10, .v (str x.1.b0)), (11, .v (.int .i64 (x.1.s0 : Int)))]) [3,9] (fun x => pt np x.1 :: [base W]) (by dsimp only [pickE, pick1, lk2, Nat.reduceBEq, Nat.reduceAdd, Nat.zero_add, cond_true, cond_false] <;> exact rfl) ?_ ?_
  · refine r_block ?_
    refine r_loopE (σ := Nat × Pt) (fun ⟨k, x⟩ => k ≤ 60 ∧ LastI k x) (fun ⟨k, x⟩ => 60 - k) (fun ⟨k, x⟩ => [(10, .v (str x.b0)), (11, .v (.int .i64 (x.s0 : Int))), (12, .v (.int .i64 k))]) [0, 1, 3, 9] (fun ⟨k, x⟩ => pt np x :: [base W]) (0, armT zeroPt calls) (by dsimp only [pickE, pick1, lk2, Nat.reduceBEq, Nat.reduceAdd, Nat.zero_add, cond_true, cond_false] <;> exact rfl) ?_ (by repeat (first | exact trivial | refine ⟨rfl, ?_⟩ | refine envsub_v rfl (by first | rfl | (refine int_eq ?_; first | omega | (simp; omega) | (simp; done)) | (refine bool_eq ?_; first | (simp [*]; done) | (simp; done)) | (refine str_eq ?_; simp; done) | (refine ptr_eq ?_; omega) | fail) ?_)) ?_ ?_
    · exact ⟨Nat.zero_le _, hI0⟩
    · exact Ent.refl _
    rintro ⟨k, x⟩ ⟨hk, hx⟩; dsimp only [List.cons_append, List.nil_append]
    obtain ⟨hok, hl, hb⟩ := hx
    refine r_seq ?_
    refine r_seq ?_
    refine r_region (id := 10) ?_
    refine o_give (g_move (evv rfl)) rfl rfl ?_
    refine o_give (g_move (evv rfl)) rfl rfl ?_
    refine o_give (g_lenM (evv rfl)) rfl rfl ?_
    refine o_give (g_bin (evv rfl) (evv rfl) (by rfl)) rfl rfl ?_
    refine o_give (g_move (evv rfl)) rfl rfl ?_
    refine o_lazy rfl (fun hg => g_move (by first | exact evv rfl | exact evg rfl (by rw [hp]; rfl) | exact evg rfl hp | exact evg rfl hg | exact evg rfl (by first | (simp_all; done) | (simp [*]; done) | fail) | fail)) rfl rfl ?_
    refine o_lazy rfl (fun hg => g_bin (by first | exact evv rfl | exact evg rfl (by rw [hp]; rfl) | exact evg rfl hp | exact evg rfl hg | exact evg rfl (by first | (simp_all; done) | (simp [*]; done) | fail) | fail) (by first | exact evv rfl | exact evg rfl (by rw [hp]; rfl) | exact evg rfl hp | exact evg rfl hg | exact evg rfl (by first | (simp_all; done) | (simp [*]; done) | fail) | fail) (by rfl)) rfl rfl ?_
    refine o_give (g_pick_and (evv rfl) (evv rfl) (fun hp => (by first | exact evv rfl | exact evg rfl (by rw [hp]; rfl) | exact evg rfl hp | exact evg rfl hg | exact evg rfl (by first | (simp_all; done) | (simp [*]; done) | fail) | fail))) rfl rfl ?_
    refine o_give (g_move (evv rfl)) rfl rfl ?_
    refine o_lazy rfl (fun hg => g_move (by first | exact evv rfl | exact evg rfl (by rw [hp]; rfl) | exact evg rfl hp | exact evg rfl hg | exact evg rfl (by first | (simp_all; done) | (simp [*]; done) | fail) | fail)) rfl rfl ?_
    refine o_split (t := 31) rfl (fun hs => ?_) (fun hs => ?_)
    · refine o_sure (t := 32) rfl hs ?_
      refine o_gyes rfl ?_
      (refine o_call rfl _ (PickR.ent (K := pt _)) (Down_c _ _ _) rfl ?_; rintro _ _ ⟨rfl, rfl⟩)
      refine o_gyes rfl ?_
      refine o_give (g_not (evv rfl)) rfl rfl ?_
      refine o_give (g_pick (b := true) (evv rfl) (fun _ => (evv rfl)) (fun h => by cases h)) rfl rfl ?_
      refine o_nil ?_
      refine c_code ?_
      refine r_cond rfl (fun hd => ?_) (fun hd => ?_) <;> (try simp only [decide_eq_true_eq, decide_eq_false_iff_not, Bool.and_eq_true, Bool.or_eq_true, Bool.not_eq_true', Bool.and_eq_false_iff, Bool.or_eq_false_iff, Bool.not_eq_false', Bool.not_eq_true, Bool.not_eq_false, Bool.true_eq_false, Bool.false_eq_true, Int.not_lt, Int.not_le, not_and, not_or, ne_eq] at hd)
      · simp only [Bool.and_eq_true, decide_eq_true_eq] at hs
        have hk8 : k < pieces.length := by omega
        have hs2' : k < 60 := by omega
        haveI := hp (pieces.getD k default) (by simp [hk8])
        have hpl2 := hpl (pieces.getD k default) (by simp [hk8])
        haveI : Rd [base W] (pcV (pieces.getD k default)) (bR (pieces.getD k default).2) := hp (pieces.getD k default) (by simp [hk8])
        have hdn : x.down = false := by simpa using hd
        refine r_skip ?_
        refine c_code ?_
        refine r_seq ?_
        refine r_block ?_
        refine r_seq ?_
        refine r_seq ?_
        refine r_region (id := 12) ?_
        refine o_give (g_move (evv rfl)) rfl rfl ?_
        refine o_give (g_move (evv rfl)) rfl rfl ?_
        refine o_give (g_idxMN (evv rfl) (evv rfl) (by rfl) (by first | omega | (have := of_decide_eq_true hg; omega) | (simp at hg; omega) | (simp only [List.length_set, List.length_append, List.length_cons, List.length_nil, List.length_map, List.length_take, List.length_drop, List.length_replicate]; omega))) rfl rfl ?_
        refine o_give (g_loadM (evv rfl) (by rfl) (by first | omega | (have := of_decide_eq_true hg; omega) | (simp at hg; omega) | (simp only [List.length_set, List.length_append, List.length_cons, List.length_nil, List.length_map, List.length_take, List.length_drop, List.length_replicate]; omega))) rfl rfl ?_
        refine o_give (g_lenM (evv rfl)) rfl rfl ?_
        refine o_give (g_bin (evv rfl) (evv rfl) (by rfl)) rfl rfl ?_
        refine o_nil ?_
        refine c_code ?_
        refine r_cond rfl (fun hlong => ?_) (fun hlong => ?_) <;> (try simp only [decide_eq_true_eq, decide_eq_false_iff_not, Bool.and_eq_true, Bool.or_eq_true, Bool.not_eq_true', Bool.and_eq_false_iff, Bool.or_eq_false_iff, Bool.not_eq_false', Bool.not_eq_true, Bool.not_eq_false, Bool.true_eq_false, Bool.false_eq_true, Int.not_lt, Int.not_le, not_and, not_or, ne_eq] at hlong)
        · refine r_seq ?_
          refine r_region (id := 13) ?_
          refine o_give (g_assign (evv rfl)) rfl rfl ?_
          refine o_nil ?_
          refine c_code ?_
          first | refine r_ret (rs := [.tmp 8]) rfl rfl _ ((Lay.ent (L' := [base W]))) ?_ | refine c_end (rs := [.tmp 8]) rfl rfl _ ((Lay.ent (L' := [base W]))) ?_
          exact ⟨rfl, rfl⟩
        · refine r_skip ?_
          refine c_code ?_
          refine r_seq ?_
          refine r_region (id := 14) ?_
          refine o_give (g_move (evv rfl)) rfl rfl ?_
          refine o_give (g_move (evv rfl)) rfl rfl ?_
          refine o_give (g_move (evv rfl)) rfl rfl ?_
          refine o_give (g_idxMN (evv rfl) (evv rfl) (by rfl) (by first | omega | (have := of_decide_eq_true hg; omega) | (simp at hg; omega) | (simp only [List.length_set, List.length_append, List.length_cons, List.length_nil, List.length_map, List.length_take, List.length_drop, List.length_replicate]; omega))) rfl rfl ?_
          refine o_give (g_loadM (evv rfl) (by rfl) (by first | omega | (have := of_decide_eq_true hg; omega) | (simp at hg; omega) | (simp only [List.length_set, List.length_append, List.length_cons, List.length_nil, List.length_map, List.length_take, List.length_drop, List.length_replicate]; omega))) rfl rfl ?_
          (refine o_call rfl _ (PickR.ent (K := pt _)) (Append_c _ _ _ (by assumption) _ _ _ (by first | assumption | omega)) rfl ?_; rintro _ _ ⟨rfl, rfl⟩)
          refine o_nil ?_
          refine c_code ?_
          refine r_seq ?_
          rw [app0' hdn]
          have hlong' : (pieces.getD k default).2.length ≤ 1000 := by omega
          have hyI := aft_I ⟨hok, hl, hb⟩ hlong' hs2'
          have hyok := hyI.ok
          have hyl := hyI.len
          generalize hpe : (pieces.getD k default).2 = pe at *
          refine r_region (id := 15) ?_
          refine o_give (g_move (evv rfl)) rfl rfl ?_
          refine o_give (g_move (evv rfl)) rfl rfl ?_
          refine o_give (g_move (evv rfl)) rfl rfl ?_
          refine o_give (g_idxMN (evv rfl) (evv rfl) (by rfl) (by first | omega | (have := of_decide_eq_true hg; omega) | (simp at hg; omega) | (simp only [List.length_set, List.length_append, List.length_cons, List.length_nil, List.length_map, List.length_take, List.length_drop, List.length_replicate]; omega))) rfl rfl ?_
          refine o_give (g_loadM (evv rfl) (by rfl) (by first | omega | (have := of_decide_eq_true hg; omega) | (simp at hg; omega) | (simp only [List.length_set, List.length_append, List.length_cons, List.length_nil, List.length_map, List.length_take, List.length_drop, List.length_replicate]; omega))) rfl rfl ?_
          refine o_give (g_b2sM (evv rfl)) rfl rfl ?_
          refine o_give (g_cat (evv rfl) (evv rfl) (by (try simp only [bsOf, List.length_append, List.length_cons, List.length_nil]); omega)) rfl rfl ?_
          refine o_give (g_assign (evv rfl)) rfl rfl ?_
          refine o_nil ?_
          refine c_code ?_
          refine r_seq ?_
          refine r_region (id := 16) ?_
          refine o_give (g_move (evv rfl)) rfl rfl ?_
          refine o_give (g_move (evv rfl)) rfl rfl ?_
          refine o_give (g_lenM (evv rfl)) rfl rfl ?_
          refine o_give (g_bin (evv rfl) (evv rfl) (by rfl)) rfl rfl ?_
          refine o_give (g_move (evv rfl)) rfl rfl ?_
          refine o_lazy rfl (fun hg => g_move (by first | exact evv rfl | exact evg rfl (by rw [hp]; rfl) | exact evg rfl hp | exact evg rfl hg | exact evg rfl (by first | (simp_all; done) | (simp [*]; done) | fail) | fail)) rfl rfl ?_
          refine o_lazy rfl (fun hg => g_move (by first | exact evv rfl | exact evg rfl (by rw [hp]; rfl) | exact evg rfl hp | exact evg rfl hg | exact evg rfl (by first | (simp_all; done) | (simp [*]; done) | fail) | fail)) rfl rfl ?_
          refine o_lazy rfl (fun hg => g_idxMN (evg rfl hg) (evg rfl hg) (by rfl) (by first | omega | (have := of_decide_eq_true hg; omega) | (simp at hg; omega) | (simp only [List.length_set, List.length_append, List.length_cons, List.length_nil, List.length_map, List.length_take, List.length_drop, List.length_replicate]; omega))) rfl rfl ?_
          refine o_lazy rfl (fun hg => g_loadM (evg rfl hg) (by rfl) (by first | omega | (have := of_decide_eq_true hg; omega) | (simp at hg; omega) | (simp only [List.length_set, List.length_append, List.length_cons, List.length_nil, List.length_map, List.length_take, List.length_drop, List.length_replicate]; omega))) rfl rfl ?_
          refine o_give (g_pick_and (evv rfl) (evv rfl) (fun hp => (by first | exact evv rfl | exact evg rfl (by rw [hp]; rfl) | exact evg rfl hp | exact evg rfl hg | exact evg rfl (by first | (simp_all; done) | (simp [*]; done) | fail) | fail))) rfl rfl ?_
          refine o_give (g_move (evv rfl)) rfl rfl ?_
          refine o_lazy rfl (fun hg => g_move (by first | exact evv rfl | exact evg rfl (by rw [hp]; rfl) | exact evg rfl hp | exact evg rfl hg | exact evg rfl (by first | (simp_all; done) | (simp [*]; done) | fail) | fail)) rfl rfl ?_
          refine o_split (t := 67) rfl (fun hg => ?_) (fun hg => ?_)
          · refine o_sure (t := 68) rfl hg ?_
            refine o_gyes rfl ?_
            (refine o_call rfl _ (PickR.ent (K := pt _)) (Sync_c _ _ _ (by assumption) _) rfl ?_; rintro _ _ ⟨rfl, rfl⟩)
            refine o_gyes rfl ?_
            refine o_give (g_bin (evv rfl) (evv rfl) (by rfl)) rfl rfl ?_
            refine o_give (g_pick (b := true) (evv rfl) (fun _ => (evv rfl)) (fun h => by cases h)) rfl rfl ?_
            refine o_nil ?_
            refine c_code ?_
            obtain ⟨sc, z, ez, hzI, hzb, hz0, hz1⟩ := syn_I hyI
            rw [ez]
            have e1 : z.b0 = x.b0 ++ pe := hzb
            refine r_cond rfl (fun hcs => ?_) (fun hcs => ?_) <;> (try simp only [decide_eq_true_eq, decide_eq_false_iff_not, Bool.and_eq_true, Bool.or_eq_true, Bool.not_eq_true', Bool.and_eq_false_iff, Bool.or_eq_false_iff, Bool.not_eq_false', Bool.not_eq_true, Bool.not_eq_false, Bool.true_eq_false, Bool.false_eq_true, Int.not_lt, Int.not_le, not_and, not_or, ne_eq] at hcs)
            · have e2 : z.s0 = (x.b0 ++ pe).length := hz0 hcs
              refine r_region (id := 17) ?_
              refine o_give (g_move (evv rfl)) rfl rfl ?_
              refine o_give (g_lenS TyU.h (evv rfl)) rfl rfl ?_
              refine o_give (g_assign (evv rfl)) rfl rfl ?_
              refine o_nil ?_
              refine c_blk ?_
              refine c_code ?_
              refine r_region (id := 11) ?_
              refine o_give (g_move (evv rfl)) rfl rfl ?_
              refine o_giveN (g_bin (evv rfl) (evv rfl) (by rfl)) (by simp only [inR]; omega) rfl ?_
              refine o_give (g_assign (evv rfl)) rfl rfl ?_
              refine o_nil ?_
              refine c_loop (k + 1, z) ?_ ?_ (by simp only [e1, e2]; repeat (first | exact trivial | refine ⟨rfl, ?_⟩ | refine envsub_v rfl (by first | rfl | (refine int_eq ?_; first | omega | (simp; omega) | (simp; done)) | (refine bool_eq ?_; first | (simp [*]; done) | (simp; done)) | (refine str_eq ?_; simp; done) | (refine ptr_eq ?_; omega) | fail) ?_)) ?_ <;> (try dsimp only)
              · exact ⟨by omega, hzI⟩
              · omega
              · exact Ent.refl _
            · have e2 : z.s0 = x.s0 := hz1 hcs
              refine r_skip ?_
              refine c_blk ?_
              refine c_code ?_
              refine r_region (id := 11) ?_
              refine o_give (g_move (evv rfl)) rfl rfl ?_
              refine o_giveN (g_bin (evv rfl) (evv rfl) (by rfl)) (by simp only [inR]; omega) rfl ?_
              refine o_give (g_assign (evv rfl)) rfl rfl ?_
              refine o_nil ?_
              refine c_loop (k + 1, z) ?_ ?_ (by simp only [e1, e2]; repeat (first | exact trivial | refine ⟨rfl, ?_⟩ | refine envsub_v rfl (by first | rfl | (refine int_eq ?_; first | omega | (simp; omega) | (simp; done)) | (refine bool_eq ?_; first | (simp [*]; done) | (simp; done)) | (refine str_eq ?_; simp; done) | (refine ptr_eq ?_; omega) | fail) ?_)) ?_ <;> (try dsimp only)
              · exact ⟨by omega, hzI⟩
              · omega
              · exact Ent.refl _
          · refine o_lazy (v0 := undef) rfl (fun hg => absurd hg (by first | (simp; done) | fail)) rfl rfl ?_
            refine o_lazy (v0 := undef) rfl (fun hg => absurd hg (by first | (simp; done) | fail)) rfl rfl ?_
            refine o_give (g_pick (b := false) (evv rfl) (fun h => by cases h) (fun _ => (evv rfl))) rfl rfl ?_
            refine o_nil ?_
            refine c_code ?_
            refine r_cond_false rfl ?_
            refine r_skip ?_
            refine c_blk ?_
            refine c_code ?_
            refine r_region (id := 11) ?_
            refine o_give (g_move (evv rfl)) rfl rfl ?_
            refine o_giveN (g_bin (evv rfl) (evv rfl) (by rfl)) (by simp only [inR]; omega) rfl ?_
            refine o_give (g_assign (evv rfl)) rfl rfl ?_
            refine o_nil ?_
            refine c_loop (k + 1, aft x pe) ?_ ?_ (by simp only [aft_b0, aft_s0]; repeat (first | exact trivial | refine ⟨rfl, ?_⟩ | refine envsub_v rfl (by first | rfl | (refine int_eq ?_; first | omega | (simp; omega) | (simp; done)) | (refine bool_eq ?_; first | (simp [*]; done) | (simp; done)) | (refine str_eq ?_; simp; done) | (refine ptr_eq ?_; omega) | fail) ?_)) ?_ <;> (try dsimp only)
            · exact ⟨by omega, hyI⟩
            · omega
            · exact Ent.refl _
      · refine r_exit rfl ?_
        exact c_cut ⟨x, LastI.mono ⟨hok, hl, hb⟩ hk⟩ (by repeat (first | exact trivial | refine ⟨rfl, ?_⟩ | refine envsub_v rfl (by first | rfl | (refine int_eq ?_; first | omega | (simp; omega) | (simp; done)) | (refine bool_eq ?_; first | (simp [*]; done) | (simp; done)) | (refine str_eq ?_; simp; done) | (refine ptr_eq ?_; omega) | fail) ?_)) (Lay.ent)
    · refine o_lazy (v0 := undef) rfl (fun hg => absurd hg (by first | (simp; done) | fail)) rfl rfl ?_
      refine o_lazy (v0 := undef) rfl (fun hg => absurd hg (by first | (simp; done) | fail)) rfl rfl ?_
      refine o_give (g_pick (b := false) (evv rfl) (fun h => by cases h) (fun _ => (evv rfl))) rfl rfl ?_
      refine o_nil ?_
      refine c_code ?_
      refine r_cond_false rfl ?_
      refine r_exit rfl ?_
      skip
      exact c_cut ⟨x, LastI.mono ⟨hok, hl, hb⟩ hk⟩ (by repeat (first | exact trivial | refine ⟨rfl, ?_⟩ | refine envsub_v rfl (by first | rfl | (refine int_eq ?_; first | omega | (simp; omega) | (simp; done)) | (refine bool_eq ?_; first | (simp [*]; done) | (simp; done)) | (refine str_eq ?_; simp; done) | (refine ptr_eq ?_; omega) | fail) ?_)) (Lay.ent)
  · rintro ⟨x, hx⟩
    dsimp only [List.cons_append, List.nil_append]
    have hxok := hx.ok
    have hxl := hx.len
    have hkk : ∀ k ∈ [keep], inR .i64 k := fun k h => by simp at h; subst h; exact hkp
    have hz : (cutT x [keep]).ok := by
      have c0 := cut_le [keep] 0 x.b0 x.s0
      have c1 := cut_le [keep] 1 x.b1 x.s1
      obtain ⟨h1, h2, h3, h4, h5, h6⟩ := hxok
      constructor <;> simp only [cutT] <;> omega
    have hz2 : (cutT (cutT x [keep]) []).ok := by
      have c0 := cut_le [keep] 0 x.b0 x.s0
      have c1 := cut_le [keep] 1 x.b1 x.s1
      have d0 := cut_le [] 0 (cutAt [keep] 0 x.b0 x.s0) (cutAt [keep] 0 x.b0 x.s0).length
      have d1 := cut_le [] 1 (cutAt [keep] 1 x.b1 x.s1) (cutAt [keep] 1 x.b1 x.s1).length
      obtain ⟨h1, h2, h3, h4, h5, h6⟩ := hxok
      constructor <;> simp only [cutT] <;> omega
    have hs0 := hxok.a
    have hn0 := hxok.n0
    refine c_code ?_
    refine r_seq ?_
    refine r_region (id := 18) ?_
    refine o_give (g_move (evv rfl)) rfl rfl ?_
    refine o_give (g_move (evv rfl)) rfl rfl ?_
    refine o_litI rfl (by rfl) rfl (fun _ => ?_)
    (refine o_call rfl _ (PickR.ent (K := pt _)) (Cut_c _ _ _ (by assumption) _ _ (by assumption)) rfl ?_; rintro _ _ ⟨rfl, rfl⟩)
    refine o_nil ?_
    refine c_code ?_
    refine r_seq ?_
    refine r_region (id := 19) ?_
    refine o_give (g_move (evv rfl)) rfl rfl ?_
    (refine o_call rfl _ (PickR.ent (K := pt _)) (Read_c _ _ _ (by assumption) _) rfl ?_; rintro cw _ ⟨-, rfl⟩)
    refine o_give (g_b2sM (evv rfl)) rfl rfl ?_
    refine o_give (g_assign (evv rfl)) rfl rfl ?_
    refine o_nil ?_
    refine c_code ?_
    refine r_seq ?_
    refine r_region (id := 20) ?_
    refine o_give (g_move (evv rfl)) rfl rfl ?_
    refine o_give (g_max2 (evv rfl) (evv rfl)) rfl rfl ?_
    refine o_give (g_move (evv rfl)) rfl rfl ?_
    refine o_give (g_lenS TyU.h (evv rfl)) rfl rfl ?_
    refine o_give (g_move (evv rfl)) rfl rfl ?_
    refine o_giveN (g_bin (evv rfl) (evv rfl) (by rfl)) (by simp only [inR]; omega) rfl ?_
    refine o_give (g_min2 (evv rfl) (evv rfl)) rfl rfl ?_
    refine o_give (g_assign (evv rfl)) rfl rfl ?_
    refine o_nil ?_
    refine c_code ?_
    refine r_seq ?_
    refine r_seq ?_
    have e0 : (max keep 0).toNat = max keep 0 := by omega
    have hn : min (max keep 0) ((x.b0.length : Int) - (x.s0 : Int)) = (((min (max keep 0).toNat (x.b0.length - x.s0)) : Nat) : Int) := by omega
    try rw [hn]
    refine r_region (id := 21) ?_
    refine o_give (g_move (evv rfl)) rfl rfl ?_
    refine o_give (g_move (evv rfl)) rfl rfl ?_
    refine o_give (g_move (evv rfl)) rfl rfl ?_
    refine o_give (g_move (evv rfl)) rfl rfl ?_
    refine o_giveN (g_bin (evv rfl) (evv rfl) (by rfl)) (by simp only [inR]; omega) rfl ?_
    refine o_give (g_subS (evv rfl) _ _ bnd_none (bnd_some (evv rfl) rfl) (by omega) (by omega)) rfl rfl ?_
    refine o_give (g_binS (evv rfl) (evv rfl) (by rfl)) rfl rfl ?_
    refine o_give (g_move (evv rfl)) rfl rfl ?_
    refine o_lazy rfl (fun hg => g_move (by first | exact evv rfl | exact evg rfl (by rw [hp]; rfl) | exact evg rfl hp | exact evg rfl hg | exact evg rfl (by first | (simp_all; done) | (simp [*]; done) | fail) | fail)) rfl rfl ?_
    have f1 : rdT (cutT x [keep]) 0 = List.take (x.s0 + min (max keep 0).toNat (x.b0.length - x.s0)) x.b0 := by
      show cutAt [keep] 0 x.b0 x.s0 = _
      simp [cutAt, moreT]
    refine o_split (t := 95) rfl (fun hs => ?_) (fun hs => ?_)
    · exfalso
      simp only [Nat.sub_zero, List.drop_zero, ← f1] at hs
      simp at hs
    · refine o_sure (t := 96) rfl (by rw [hs]; rfl) ?_
      refine o_gyes rfl ?_
      (refine o_call rfl _ (PickR.ent (K := pt _)) (Synced_c _ _ _ _) rfl ?_; rintro _ _ ⟨rfl, rfl⟩)
      refine o_gyes rfl ?_
      refine o_give (g_move (evv rfl)) rfl rfl ?_
      refine o_gyes rfl ?_
      refine o_give (g_lenS TyU.h (evv rfl)) rfl rfl ?_
      refine o_gyes rfl ?_
      refine o_give (g_bin (evv rfl) (evv rfl) (by rfl)) rfl rfl ?_
      refine o_give (g_pick (b := false) (evv rfl) (fun h => by cases h) (fun _ => (evv rfl))) rfl rfl ?_
      refine o_give (g_move (evv rfl)) rfl rfl ?_
      refine o_lazy rfl (fun hg => g_move (by first | exact evv rfl | exact evg rfl (by rw [hp]; rfl) | exact evg rfl hp | exact evg rfl hg | exact evg rfl (by first | (simp_all; done) | (simp [*]; done) | fail) | fail)) rfl rfl ?_
      refine o_split (t := 102) rfl (fun hs2 => ?_) (fun hs2 => ?_)
      · exfalso
        have f2 : syT (cutT x [keep]) 0 = ((rdT (cutT x [keep]) 0).length : Int) := rfl
        rw [f2] at hs2
        simp at hs2
      · refine o_sure (t := 103) rfl (by rw [hs2]; rfl) ?_
        refine o_gyes rfl ?_
        (refine o_call rfl _ (PickR.ent (K := pt _)) (Down_c _ _ _) rfl ?_; rintro _ _ ⟨rfl, rfl⟩)
        refine o_give (g_pick (b := false) (evv rfl) (fun h => by cases h) (fun _ => (evv rfl))) rfl rfl ?_
        refine o_nil ?_
        refine c_code ?_
        refine r_cond_false rfl ?_
        refine r_skip ?_
        refine c_code ?_
        refine r_seq ?_
        haveI : ∀ L, Rd L (.slice none 0 0) (mrow i64v 3 []) := fun L => Rd.nilM _ _
        have hk0 : ∀ k ∈ ([] : List Int), inR .i64 k := fun k h => by simp at h
        refine r_region (id := 23) ?_
        refine o_give (g_move (evv rfl)) rfl rfl ?_
        (refine o_call rfl _ (PickR.ent (K := pt _)) (Cut_c _ _ _ (by assumption) _ _ (by assumption)) rfl ?_; rintro _ _ ⟨rfl, rfl⟩)
        refine o_nil ?_
        refine c_code ?_
        refine r_seq ?_
        refine r_region (id := 24) ?_
        refine o_give (g_move (evv rfl)) rfl rfl ?_
        (refine o_call rfl _ (PickR.ent (K := pt _)) (Read_c _ _ _ (by assumption) _) rfl ?_; rintro cw _ ⟨-, rfl⟩)
        refine o_give (g_b2sM (evv rfl)) rfl rfl ?_
        refine o_give (g_move (evv rfl)) rfl rfl ?_
        refine o_give (g_binS (evv rfl) (evv rfl) (by rfl)) rfl rfl ?_
        refine o_give (g_move (evv rfl)) rfl rfl ?_
        refine o_lazy rfl (fun hg => g_move (by first | exact evv rfl | exact evg rfl (by rw [hp]; rfl) | exact evg rfl hp | exact evg rfl hg | exact evg rfl (by first | (simp_all; done) | (simp [*]; done) | fail) | fail)) rfl rfl ?_
        have f3 : rdT (cutT (cutT x [keep]) []) 0 = rdT (cutT x [keep]) 0 := by
          show cutAt [] 0 (cutAt [keep] 0 x.b0 x.s0) (cutAt [keep] 0 x.b0 x.s0).length = cutAt [keep] 0 x.b0 x.s0
          rw [cut_all]
        refine o_split (t := 113) rfl (fun hs3 => ?_) (fun hs3 => ?_)
        · refine o_sure (t := 114) rfl hs3 ?_
          refine o_gyes rfl ?_
          (refine o_call rfl _ (PickR.ent (K := pt _)) (Live_c _ _ _) rfl ?_; rintro _ _ ⟨rfl, rfl⟩)
          refine o_gyes rfl ?_
          refine o_give (g_bin (evv rfl) (evv rfl) (by rfl)) rfl rfl ?_
          refine o_give (g_pick (b := true) (evv rfl) (fun _ => (evv rfl)) (fun h => by cases h)) rfl rfl ?_
          refine o_give (g_assign (evv rfl)) rfl rfl ?_
          refine o_nil ?_
          refine c_code ?_
          skip
          have f4 : (cutT (cutT x [keep]) []).live = 0 := hx.live
          rw [f4]
          first | refine r_ret (rs := [.tmp 8]) rfl rfl _ ((Lay.ent (L' := [base W]))) ?_ | refine c_end (rs := [.tmp 8]) rfl rfl _ ((Lay.ent (L' := [base W]))) ?_
          exact ⟨rfl, rfl⟩
        · exfalso
          rw [f3] at hs3
          simp at hs3
end VK
