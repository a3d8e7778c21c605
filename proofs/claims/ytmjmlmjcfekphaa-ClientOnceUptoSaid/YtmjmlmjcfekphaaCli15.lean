/- ClientPlays, walked. Conditions: the script's lists are read. -/
import Derived.Test.YtmjmlmjcfekphaaCli14
--%norm
namespace VK
open Go Go.Proofs
set_option linter.unusedSimpArgs false
set_option linter.unusedVariables false
set_option maxRecDepth 100000
set_option maxHeartbeats 40000000
/-- several slices, all read -/
class AllRd (L : List Atom) (l : List (Value × Row)) : Prop where
  h : ∀ p ∈ l, Rd L p.1 p.2
instance (priority := high) AllRd.head (L : List Atom) (l : List (Value × Row)) : AllRd (rom l :: L) l := ⟨fun p hp => @Rd.rom l L p.1 p.2 ⟨fun _ q => by unfold rom at q; exact q p hp⟩⟩
instance (priority := low) AllRd.tail (A : Atom) (L : List Atom) (l : List (Value × Row)) [k : AllRd L l] : AllRd (A :: L) l := ⟨fun p hp => Rd.ent Ent.drop (k.h p hp)⟩
theorem reqL_get {id : Int} {vs : List Value} {i : Nat} (h : i < vs.length) : (reqL id vs).getD i default = reqM id i (vs.getD i undef) := by
  simp [reqL, List.getD_eq_getElem?_getD, h]
theorem reqEq {L : List Atom} {id : Int} {e : EntS} {vs vs2 : List Value} [h1 : AllRd L (reqRom e vs)] [h2 : AllRd L (reqRom e vs2)] (hl : vs.length = vs2.length) : ∀ i, i < (reqL id vs).length → MsgEq L ((reqL id vs).getD i default) ((reqL id vs2).getD i default) := by
  intro i hi
  rw [reqL_len] at hi
  have hi2 : i < vs2.length := by omega
  have m1 : (vs.getD i undef, entR [e]) ∈ reqRom e vs := by simp [reqRom, hi]
  have m2 : (vs2.getD i undef, entR [e]) ∈ reqRom e vs2 := by simp [reqRom, hi2]
  rw [reqL_get hi, reqL_get hi2]
  exact ⟨rfl, ⟨[e], h1.h _ m1, h2.h _ m2⟩, ⟨[], Rd.nilM str _, Rd.nilM str _⟩⟩
/-- a deed whose lists are read -/
structure DoOk (W : World) (d : DoF) : Prop where
  ho : d.op.ok
  ht : inR .i64 d.m.to_
  es : ∃ es, Rd [base W] d.m.ents (entR es)
  ns : ∃ ns, Rd [base W] d.m.names (mrow str 9 ns) ∧ ns.length ≤ 1048576
abbrev StP (id n : Int) := {x : Int × Int × Int × OpS // CliOk id n x.1 x.2.1 x.2.2.1}
theorem rem4_range (k : Int) : 0 ≤ rem4 k ∧ rem4 k ≤ 3 := by unfold rem4; omega
theorem ok_call {id n num left t : Int} {o : OpS} (k : CliOk id n num left t) (h : callE num t o = 0) : CliOk id n (num + 1) 4 4 := by
  obtain ⟨h1, h2, h3, h4, h5, h6⟩ := k
  unfold callE at h
  split at h
  · omega
  · split at h
    · omega
    · split at h
      · omega
      · exact ⟨h1, h2, by omega, by omega, by omega, by omega⟩
theorem ClientPlays_c (W : World) (id n : Int) (v : Value) (l : List DoF) [rd : Rd [base W] v (frow doC 54 39 l)] (hm : ∀ d ∈ l, DoOk W d) :
    Fn Try.prog 4 [.int .i64 id, .int .i64 n, v] [base W] fun w L' => w = .bool true ∧ L' = [base W] := by
  refine fn_lenF rd fun hlen => ?_
  have hlen : l.length ≤ 2 ^ 63 - 1 := hlen
  by_cases hc : cliOk id n
  · skip
    refine fn_intro Try.func4 rfl Try.ntmps4 rfl (fun W0 => ?_)
    simp only [argE]
    refine r_seq ?_
    refine r_region (id := 0) ?_
    refine o_give (g_assign (evv rfl)) rfl rfl ?_
    refine o_nil ?_
    refine c_code ?_
    refine r_seq ?_
    refine r_seq ?_
    refine r_region (id := 1) ?_
    (refine o_call rfl _ (Ent.refl _) (cAwake_c _) rfl ?_; rintro _ _ ⟨rfl, hLz⟩; obtain rfl := hLz.symm; clear hLz)
    refine o_give (g_not (evv rfl)) rfl rfl ?_
    refine o_nil ?_
    refine c_code ?_
    refine r_cond_false rfl ?_
    refine r_skip ?_
    refine c_code ?_
    refine r_seq ?_
    refine r_region (id := 3) ?_
    refine o_give (g_move (evv rfl)) rfl rfl ?_
    refine o_give (g_move (evv rfl)) rfl rfl ?_
    (refine o_call rfl _ (Ent.refl _) (CNewN_c _ _ _ (by assumption)) rfl ?_; rintro _ _ ⟨cb, rfl, rfl⟩)
    refine o_give (g_move (evv rfl)) rfl rfl ?_
    refine o_give (g_extract (evv rfl) (by rfl)) rfl rfl ?_
    refine o_give (g_extract (evv rfl) (by rfl)) rfl rfl ?_
    refine o_give (g_assign (evv rfl)) rfl rfl ?_
    refine o_give (g_assign (evv rfl)) rfl rfl ?_
    refine o_nil ?_
    refine c_code ?_
    refine r_seq ?_
    refine r_region (id := 4) ?_
    refine o_give (g_move (evv rfl)) rfl rfl ?_
    refine o_give (g_move (evv rfl)) rfl rfl ?_
    (refine o_call rfl _ (Ent.refl _) (rNewN_c _ _ _ (by assumption)) rfl ?_; rintro _ _ ⟨rb, rfl, rfl⟩)
    refine o_give (g_assign (evv rfl)) rfl rfl ?_
    refine o_nil ?_
    refine c_code ?_
    refine r_seq ?_
    refine r_seq ?_
    refine r_region (id := 5) ?_
    refine o_give (g_move (evv rfl)) rfl rfl ?_
    refine o_give (g_pnil TyU.h (evv rfl) (evv rfl) (by simp) (by rfl)) rfl rfl ?_
    refine o_give (g_move (evv rfl)) rfl rfl ?_
    refine o_give (g_pnil TyU.h (evv rfl) (evv rfl) (by simp) (by rfl)) rfl rfl ?_
    refine o_give (g_binB TyU.h (evv rfl) (evv rfl) (by rfl)) rfl rfl ?_
    refine o_give (g_move (evv rfl)) rfl rfl ?_
    refine o_gyes rfl ?_
    refine o_give (g_move (evv rfl)) rfl rfl ?_
    refine o_gyes rfl ?_
    refine o_give (g_bin (evv rfl) (evv rfl) (by rfl)) rfl rfl ?_
    refine o_gyes rfl ?_
    refine o_give (g_move (evv rfl)) rfl rfl ?_
    refine o_gyes rfl ?_
    refine o_give (g_pnil TyU.h (evv rfl) (evv rfl) (by simp) (by rfl)) rfl rfl ?_
    refine o_gyes rfl ?_
    refine o_give (g_binB TyU.h (evv rfl) (evv rfl) (by rfl)) rfl rfl ?_
    refine o_give (g_pick (b := false) (evv rfl) (fun h => by cases h) (fun _ => (evv rfl))) rfl rfl ?_
    refine o_give (g_move (evv rfl)) rfl rfl ?_
    refine o_gyes rfl ?_
    refine o_give (g_move (evv rfl)) rfl rfl ?_
    refine o_gyes rfl ?_
    refine o_give (g_pnil TyU.h (evv rfl) (evv rfl) (by simp) (by rfl)) rfl rfl ?_
    refine o_gyes rfl ?_
    refine o_give (g_move (evv rfl)) rfl rfl ?_
    refine o_lazy rfl (fun hg => g_move (by first | exact evv rfl | exact evg rfl (by rw [hp]; rfl) | exact evg rfl hp | exact evg rfl hg | exact evg rfl (by first | (simp_all; done) | (simp [*]; done) | fail) | fail)) rfl rfl ?_
    refine o_lazy rfl (fun hg => g_bin (by first | exact evv rfl | exact evg rfl (by rw [hp]; rfl) | exact evg rfl hp | exact evg rfl hg | exact evg rfl (by first | (simp_all; done) | (simp [*]; done) | fail) | fail) (by first | exact evv rfl | exact evg rfl (by rw [hp]; rfl) | exact evg rfl hp | exact evg rfl hg | exact evg rfl (by first | (simp_all; done) | (simp [*]; done) | fail) | fail) (by rfl)) rfl rfl ?_
    refine o_gyes rfl ?_
    refine o_give (g_pick (b := false) (evv rfl) (fun h => by cases h) (fun _ => (evv rfl))) rfl rfl ?_
    refine o_give (g_pick (b := false) (evv rfl) (fun h => by cases h) (fun _ => (evv rfl))) rfl rfl ?_
    refine o_nil ?_
    refine c_code ?_
    refine r_cond_false rfl ?_
    refine r_skip ?_
    refine c_code ?_
    refine r_seq ?_
    refine r_seq ?_
    refine r_region (id := 7) ?_
    refine o_give (g_move (evv rfl)) rfl rfl ?_
    refine o_give (g_pnil TyU.h (evv rfl) (evv rfl) (by simp) (by rfl)) rfl rfl ?_
    refine o_nil ?_
    refine c_code ?_
    refine r_cond_false rfl ?_
    refine r_skip ?_
    refine c_code ?_
    refine r_seq ?_
    refine r_seq ?_
    refine r_region (id := 9) ?_
    refine o_give (g_assign (evv rfl)) rfl rfl ?_
    refine o_nil ?_
    refine c_code ?_
    refine r_block ?_
    refine r_loopE (σ := Nat × Int × Int × Int × OpS) (fun x => x.1 ≤ l.length ∧ CliOk id n x.2.1 x.2.2.1 x.2.2.2.1) (fun x => l.length - x.1) (fun x => [(10, .v (.int .i64 (x.1 : Int)))]) [0, 2, 7, 9] (fun x => blk cb ⟨cliC id n x.2.1 x.2.2.1 (decide (0 < x.2.2.2.1)) x.2.2.2.2, 68⟩ :: blk rb ⟨rcC id n x.2.1 x.2.2.2.1 x.2.2.2.2, 54⟩ :: [base W]) (0, 0, 0, 0, zeroOp) (by dsimp only [pickE, pick1, lk2, Nat.reduceBEq, Nat.reduceAdd, Nat.zero_add, cond_true, cond_false] <;> exact rfl) ?_ (by repeat (first | exact trivial | refine ⟨rfl, ?_⟩ | refine envsub_v rfl (by first | rfl | (refine int_eq ?_; first | omega | (simp; omega) | (simp; done)) | (refine bool_eq ?_; first | (simp [*]; done) | (simp; done)) | (refine str_eq ?_; simp; done) | (refine ptr_eq ?_; omega) | fail) ?_)) ?_ ?_
    · obtain ⟨hn, hi⟩ := hc
      exact ⟨Nat.zero_le _, show CliOk id n 0 0 0 from ⟨hi, hn, by omega, by omega, by omega, by omega⟩⟩
    · exact (show Ent _ (blk cb ⟨cliC id n 0 0 false zeroOp, 68⟩ :: blk rb ⟨rcC id n 0 0 zeroOp, 54⟩ :: [base W]) from Lay.ent)
    rintro ⟨i, num, left, t, o⟩ ⟨hi, k⟩; dsimp only [List.cons_append, List.nil_append]
    dsimp only at hi k
    have hki := k.hi
    have hkn := k.hn
    refine r_seq ?_
    refine r_seq ?_
    refine r_region (id := 10) ?_
    refine o_give (g_move (evv rfl)) rfl rfl ?_
    refine o_give (g_move (evv rfl)) rfl rfl ?_
    refine o_give (g_lenF (evv rfl)) rfl rfl ?_
    refine o_give (g_bin (evv rfl) (evv rfl) (by rfl)) rfl rfl ?_
    refine o_give (g_move (evv rfl)) rfl rfl ?_
    refine o_lazy rfl (fun hg => g_move (by first | exact evv rfl | exact evg rfl (by rw [hp]; rfl) | exact evg rfl hp | exact evg rfl hg | exact evg rfl (by first | (simp_all; done) | (simp [*]; done) | fail) | fail)) rfl rfl ?_
    refine o_lazy rfl (fun hg => g_bin (by first | exact evv rfl | exact evg rfl (by rw [hp]; rfl) | exact evg rfl hp | exact evg rfl hg | exact evg rfl (by first | (simp_all; done) | (simp [*]; done) | fail) | fail) (by first | exact evv rfl | exact evg rfl (by rw [hp]; rfl) | exact evg rfl hp | exact evg rfl hg | exact evg rfl (by first | (simp_all; done) | (simp [*]; done) | fail) | fail) (by rfl)) rfl rfl ?_
    refine o_give (g_pick_and (evv rfl) (evv rfl) (fun hp => (by first | exact evv rfl | exact evg rfl (by rw [hp]; rfl) | exact evg rfl hp | exact evg rfl hg | exact evg rfl (by first | (simp_all; done) | (simp [*]; done) | fail) | fail))) rfl rfl ?_
    refine o_nil ?_
    refine c_code ?_
    refine r_cond rfl (fun hcond => ?_) (fun hcond => ?_) <;> (try simp only [decide_eq_true_eq, decide_eq_false_iff_not, Bool.and_eq_true, Bool.or_eq_true, Bool.not_eq_true', Bool.and_eq_false_iff, Bool.or_eq_false_iff, Bool.not_eq_false', Bool.not_eq_true, Bool.not_eq_false, Bool.true_eq_false, Bool.false_eq_true, Int.not_lt, Int.not_le, not_and, not_or, ne_eq] at hcond)
    · have hil : i < l.length := by omega
      have hd := hm (l.getD i default) (by simp [hil])
      obtain ⟨ho, hto, ⟨es, r1⟩, ⟨ns, r2, hns⟩⟩ := hd
      refine r_skip ?_
      refine c_code ?_
      refine r_seq ?_
      refine r_block ?_
      refine r_seq ?_
      refine r_region (id := 12) ?_
      refine o_give (g_move (evv rfl)) rfl rfl ?_
      refine o_give (g_move (evv rfl)) rfl rfl ?_
      refine o_give (g_idxFN (evv rfl) (evv rfl) (by rfl) (by rfl) (by first | omega | (have := of_decide_eq_true hg; omega) | (simp at hg; omega) | (simp only [List.length_set, List.length_append, List.length_cons, List.length_nil, List.length_map, List.length_take, List.length_drop, List.length_replicate]; omega))) rfl rfl ?_
      refine o_give (g_loadFr (evv rfl) (by rfl) (by first | (intro; rfl) | exact LenC.h) (by rfl) (by rfl) (by first | omega | (have := of_decide_eq_true hg; omega) | (simp at hg; omega) | (simp only [List.length_set, List.length_append, List.length_cons, List.length_nil, List.length_map, List.length_take, List.length_drop, List.length_replicate]; omega))) rfl rfl ?_
      refine o_alloc (cs := ((Go.Value.int Go.IntKind.i64 0) :: (Go.Value.int Go.IntKind.i64 0) :: (Go.Value.string { data := #[] }) :: (Go.Value.string { data := #[] }) :: (Go.Value.string { data := #[] }) :: (Go.Value.int Go.IntKind.i64 0) :: (Go.Value.int Go.IntKind.i64 0) :: (Go.Value.int Go.IntKind.i64 0) :: (Go.Value.int Go.IntKind.i64 0) :: (Go.Value.int Go.IntKind.i64 0) :: (Go.Value.int Go.IntKind.i64 0) :: (Go.Value.int Go.IntKind.i64 0) :: (Go.Value.int Go.IntKind.i64 0) :: (Go.Value.int Go.IntKind.i64 0) :: (Go.Value.int Go.IntKind.i64 0) :: (bys (List.replicate 32 0) ++ (Go.Value.slice none 0 0) :: (Go.Value.string { data := #[] }) :: (Go.Value.int Go.IntKind.i64 0) :: (Go.Value.bool false) :: (Go.Value.int Go.IntKind.i64 0) :: (Go.Value.string { data := #[] }) :: (Go.Value.slice none 0 0) :: []))) rfl rfl (fun _ => ?_)
      refine o_storeW (evv rfl) (evv rfl) (by first | rfl | assumption | exact LenC.h _ | (simp [bys, *]; done) | fail) (by first | (intro _ _ _; exact bys_one _) | exact AllOne.h | (intro _ _ _ u hu; simp at hu; rcases hu with rfl | rfl | rfl | rfl | rfl | rfl | rfl | rfl <;> rfl) | fail) (by first | rfl | exact (LenC.h _).trans rfl | exact (LenC.h _).trans (LenC.h _).symm | (simp [bys, *]; done) | (simp only [bys, List.length_map, *]; rfl) | fail) ?_
      refine o_nil ?_
      refine c_code ?_
      refine r_seq ?_
      refine r_seq ?_
      rename_i q
      generalize l.getD i default = D at *
      refine r_region (id := 13) ?_
      refine o_give (g_fld (evv rfl)) (by first | (simp only [Nat.zero_add, Nat.reduceAdd]; rfl) | rfl) rfl ?_
      refine o_give (g_loadGt (evv rfl) (by rfl)) rfl rfl ?_
      refine o_giveU (g_conv TyU.h TyU.h (evv rfl)) (by rfl) rfl ?_
      refine o_give (g_remP (evv rfl) (evv rfl) (by omega) (by omega)) rfl rfl ?_
      refine o_nil ?_
      refine c_code ?_
      repeat (first | refine r_seq ?_ | refine c_code ?_ | refine c_blk ?_ | refine r_skip ?_)
      refine r_cutE (σ := StP id n) (fun x => []) [0,2,7,9,10] (fun x => blk cb ⟨cliC id n x.1.1 x.1.2.1 (decide (0 < x.1.2.2.1)) x.1.2.2.2, 68⟩ :: blk rb ⟨rcC id n x.1.1 x.1.2.2.1 x.1.2.2.2, 54⟩ :: [base W]) (by dsimp only [pickE, pick1, lk2, Nat.reduceBEq, Nat.reduceAdd, Nat.zero_add, cond_true, cond_false] <;> exact rfl) ?_ ?_
      · refine r_block ?_
        refine r_seq ?_
        refine r_region (id := 19) ?_
        refine o_give (g_bin (evv rfl) (evv rfl) (by rfl)) rfl rfl ?_
        refine o_give (g_assign (evv rfl)) rfl rfl ?_
        refine o_nil ?_
        refine c_code ?_
        refine r_cond rfl (fun h0 => ?_) (fun h0 => ?_) <;> (try simp only [decide_eq_true_eq, decide_eq_false_iff_not, Bool.and_eq_true, Bool.or_eq_true, Bool.not_eq_true', Bool.and_eq_false_iff, Bool.or_eq_false_iff, Bool.not_eq_false', Bool.not_eq_true, Bool.not_eq_false, Bool.true_eq_false, Bool.false_eq_true, Int.not_lt, Int.not_le, not_and, not_or, ne_eq] at h0)
        · by_cases hE : callE num t D.op = 0
          · refine r_seq ?_
            refine r_region (id := 20) ?_
            refine o_give (g_move (evv rfl)) rfl rfl ?_
            refine o_give (g_fld (evv rfl)) (by first | (simp only [Nat.zero_add, Nat.reduceAdd]; rfl) | rfl) rfl ?_
            refine o_give (g_loadPt (evv rfl) (by rfl)) rfl rfl ?_
            (refine o_call rfl _ (PickR.ent (K := blk cb)) (CallY_c _ cb id n num left t o _ ho k hE) rfl ?_; rintro _ _ ⟨u, vs, rfl, hvs, rfl⟩)
            refine o_give (g_move (evv rfl)) rfl rfl ?_
            refine o_give (g_extract (evv rfl) (by rfl)) rfl rfl ?_
            refine o_give (g_extract (evv rfl) (by rfl)) rfl rfl ?_
            refine o_give (g_assign (evv rfl)) rfl rfl ?_
            refine o_give (g_assign (evv rfl)) rfl rfl ?_
            refine o_nil ?_
            refine c_code ?_
            refine r_seq ?_
            refine r_region (id := 21) ?_
            refine o_give (g_move (evv rfl)) rfl rfl ?_
            refine o_give (g_fld (evv rfl)) (by first | (simp only [Nat.zero_add, Nat.reduceAdd]; rfl) | rfl) rfl ?_
            refine o_give (g_loadPt (evv rfl) (by rfl)) rfl rfl ?_
            (refine o_call rfl _ (PickR.ent (K := blk rb)) (rCallY_c _ rb id n num left t o _ ho k hE) rfl ?_; rintro _ _ ⟨u2, vs2, rfl, hvs2, rfl⟩)
            refine o_give (g_move (evv rfl)) rfl rfl ?_
            refine o_give (g_extract (evv rfl) (by rfl)) rfl rfl ?_
            refine o_give (g_extract (evv rfl) (by rfl)) rfl rfl ?_
            refine o_give (g_assign (evv rfl)) rfl rfl ?_
            refine o_give (g_assign (evv rfl)) rfl rfl ?_
            refine o_nil ?_
            refine c_code ?_
            refine r_seq ?_
            refine r_region (id := 22) ?_
            refine o_give (g_move (evv rfl)) rfl rfl ?_
            refine o_give (g_move (evv rfl)) rfl rfl ?_
            refine o_give (g_bin (evv rfl) (evv rfl) (by rfl)) rfl rfl ?_
            refine o_give (g_move (evv rfl)) rfl rfl ?_
            refine o_gyes rfl ?_
            refine o_give (g_move (evv rfl)) rfl rfl ?_
            refine o_gyes rfl ?_
            refine o_give (g_move (evv rfl)) rfl rfl ?_
            refine o_gyes rfl ?_
            (refine o_call rfl _ (Ent.refl _) (SameOut_c _ u u2 (reqL id vs) (reqL id vs2) (by rw [reqL_len, reqL_len]; omega) (reqEq (e := ⟨id, num + 1, D.op⟩) (by omega))) rfl ?_; rintro _ _ ⟨rfl, hLz⟩; obtain rfl := hLz.symm; clear hLz)
            refine o_gyes rfl ?_
            refine o_give (g_not (evv rfl)) rfl rfl ?_
            refine o_give (g_pick (b := false) (evv rfl) (fun h => by cases h) (fun _ => (evv rfl))) rfl rfl ?_
            refine o_nil ?_
            refine c_code ?_
            refine r_cond_false rfl ?_
            refine r_skip ?_
            refine c_blk ?_
            exact c_cut (⟨(num + 1, 4, 4, D.op), ok_call k hE⟩ : StP id n) (by repeat (first | exact trivial | refine ⟨rfl, ?_⟩ | refine envsub_v rfl (by first | rfl | (refine int_eq ?_; first | omega | (simp; omega) | (simp; done)) | (refine bool_eq ?_; first | (simp [*]; done) | (simp; done)) | (refine str_eq ?_; simp; done) | (refine ptr_eq ?_; omega) | fail) ?_)) ((show Ent _ (blk cb ⟨cliC id n (num + 1) 4 true D.op, 68⟩ :: blk rb ⟨rcC id n (num + 1) 4 D.op, 54⟩ :: [base W]) from Lay.ent))
          · refine r_seq ?_
            refine r_region (id := 20) ?_
            refine o_give (g_move (evv rfl)) rfl rfl ?_
            refine o_give (g_fld (evv rfl)) (by first | (simp only [Nat.zero_add, Nat.reduceAdd]; rfl) | rfl) rfl ?_
            refine o_give (g_loadPt (evv rfl) (by rfl)) rfl rfl ?_
            (refine o_call rfl _ (PickR.ent (K := blk cb)) (CallN_c _ cb id n num left t o _ ho k hE) rfl ?_; rintro _ _ ⟨rfl, rfl⟩)
            refine o_give (g_move (evv rfl)) rfl rfl ?_
            refine o_give (g_extract (evv rfl) (by rfl)) rfl rfl ?_
            refine o_give (g_extract (evv rfl) (by rfl)) rfl rfl ?_
            refine o_give (g_assign (evv rfl)) rfl rfl ?_
            refine o_give (g_assign (evv rfl)) rfl rfl ?_
            refine o_nil ?_
            refine c_code ?_
            refine r_seq ?_
            refine r_region (id := 21) ?_
            refine o_give (g_move (evv rfl)) rfl rfl ?_
            refine o_give (g_fld (evv rfl)) (by first | (simp only [Nat.zero_add, Nat.reduceAdd]; rfl) | rfl) rfl ?_
            refine o_give (g_loadPt (evv rfl) (by rfl)) rfl rfl ?_
            (refine o_call rfl _ (PickR.ent (K := blk rb)) (rCallN_c _ rb id n num left t o _ ho k hE) rfl ?_; rintro _ _ ⟨rfl, rfl⟩)
            refine o_give (g_move (evv rfl)) rfl rfl ?_
            refine o_give (g_extract (evv rfl) (by rfl)) rfl rfl ?_
            refine o_give (g_extract (evv rfl) (by rfl)) rfl rfl ?_
            refine o_give (g_assign (evv rfl)) rfl rfl ?_
            refine o_give (g_assign (evv rfl)) rfl rfl ?_
            refine o_nil ?_
            refine c_code ?_
            refine r_seq ?_
            refine r_region (id := 22) ?_
            refine o_give (g_move (evv rfl)) rfl rfl ?_
            refine o_give (g_move (evv rfl)) rfl rfl ?_
            refine o_give (g_bin (evv rfl) (evv rfl) (by rfl)) rfl rfl ?_
            refine o_give (g_move (evv rfl)) rfl rfl ?_
            refine o_lazy rfl (fun hg => g_move (by first | exact evv rfl | exact evg rfl (by rw [hp]; rfl) | exact evg rfl hp | exact evg rfl hg | exact evg rfl (by first | (simp_all; done) | (simp [*]; done) | fail) | fail)) rfl rfl ?_
            refine o_lazy rfl (fun hg => g_move (by first | exact evv rfl | exact evg rfl (by rw [hp]; rfl) | exact evg rfl hp | exact evg rfl hg | exact evg rfl (by first | (simp_all; done) | (simp [*]; done) | fail) | fail)) rfl rfl ?_
            simp only [decide_true, Bool.not_true]
            refine o_sure (t := 120) rfl rfl ?_
            refine o_sure (t := 121) rfl rfl ?_
            refine o_gyes rfl ?_
            (refine o_call rfl _ (Ent.refl _) (SameOut_c _ (.slice none 0 0) (.slice none 0 0) [] [] (ra := Rd.nilF msgC 47 _) (rb := Rd.nilF msgC 47 _) rfl (fun _ h => absurd h (Nat.not_lt_zero _))) rfl ?_; rintro _ _ ⟨rfl, hLz⟩; obtain rfl := hLz.symm; clear hLz)
            refine o_gyes rfl ?_
            refine o_give (g_not (evv rfl)) rfl rfl ?_
            refine o_give (g_pick (b := false) (evv rfl) (fun h => by cases h) (fun _ => (evv rfl))) rfl rfl ?_
            refine o_nil ?_
            refine c_code ?_
            refine r_cond_false rfl ?_
            refine r_skip ?_
            refine c_blk ?_
            skip
            exact c_cut (⟨(num, left, t, o), k⟩ : StP id n) (by repeat (first | exact trivial | refine ⟨rfl, ?_⟩ | refine envsub_v rfl (by first | rfl | (refine int_eq ?_; first | omega | (simp; omega) | (simp; done)) | (refine bool_eq ?_; first | (simp [*]; done) | (simp; done)) | (refine str_eq ?_; simp; done) | (refine ptr_eq ?_; omega) | fail) ?_)) (Lay.ent)
        · refine r_seq ?_
          refine r_region (id := 24) ?_
          refine o_give (g_bin (evv rfl) (evv rfl) (by rfl)) rfl rfl ?_
          refine o_give (g_assign (evv rfl)) rfl rfl ?_
          refine o_nil ?_
          refine c_code ?_
          refine r_cond rfl (fun h1 => ?_) (fun h1 => ?_) <;> (try simp only [decide_eq_true_eq, decide_eq_false_iff_not, Bool.and_eq_true, Bool.or_eq_true, Bool.not_eq_true', Bool.and_eq_false_iff, Bool.or_eq_false_iff, Bool.not_eq_false', Bool.not_eq_true, Bool.not_eq_false, Bool.true_eq_false, Bool.false_eq_true, Int.not_lt, Int.not_le, not_and, not_or, ne_eq] at h1)
          · by_cases t0 : t = 0
            · subst t0
              simp only [show decide ((0 : Int) < 0) = false from rfl]
              refine r_seq ?_
              refine r_region (id := 25) ?_
              refine o_give (g_move (evv rfl)) rfl rfl ?_
              (refine o_call rfl _ (PickR.ent (K := blk cb)) (Tick0_c _ cb id n num left o) rfl ?_; rintro _ _ ⟨rfl, rfl⟩)
              refine o_give (g_move (evv rfl)) rfl rfl ?_
              (refine o_call rfl _ (PickR.ent (K := blk rb)) (rTick0_c _ rb id n num o) rfl ?_; rintro _ _ ⟨rfl, rfl⟩)
              (refine o_call rfl _ (Ent.refl _) (SameOut_c _ (.slice none 0 0) (.slice none 0 0) [] [] (ra := Rd.nilF msgC 47 _) (rb := Rd.nilF msgC 47 _) rfl (fun _ h => absurd h (Nat.not_lt_zero _))) rfl ?_; rintro _ _ ⟨rfl, hLz⟩; obtain rfl := hLz.symm; clear hLz)
              refine o_give (g_not (evv rfl)) rfl rfl ?_
              refine o_nil ?_
              refine c_code ?_
              refine r_cond_false rfl ?_
              refine r_skip ?_
              refine c_blk ?_
              exact c_cut (⟨(num, left, 0, o), k⟩ : StP id n) (by repeat (first | exact trivial | refine ⟨rfl, ?_⟩ | refine envsub_v rfl (by first | rfl | (refine int_eq ?_; first | omega | (simp; omega) | (simp; done)) | (refine bool_eq ?_; first | (simp [*]; done) | (simp; done)) | (refine str_eq ?_; simp; done) | (refine ptr_eq ?_; omega) | fail) ?_)) ((show Ent _ (blk cb ⟨cliC id n num left false o, 68⟩ :: blk rb ⟨rcC id n num 0 o, 54⟩ :: [base W]) from Lay.ent))
            · have hlt : left = t := k.he (by have := k.ht; omega)
              subst hlt
              by_cases t1 : left = 1
              · subst t1
                simp only [show decide ((0 : Int) < 1) = true from rfl]
                refine r_seq ?_
                refine r_region (id := 25) ?_
                refine o_give (g_move (evv rfl)) rfl rfl ?_
                (refine o_call rfl _ (PickR.ent (K := blk cb)) (Tick1_c _ cb id n num o hki hkn) rfl ?_; rintro u _ ⟨vs, hvs, rfl⟩)
                refine o_give (g_move (evv rfl)) rfl rfl ?_
                (refine o_call rfl _ (PickR.ent (K := blk rb)) (rTick1_c _ rb id n num o hki hkn) rfl ?_; rintro u2 _ ⟨vs2, hvs2, rfl⟩)
                (refine o_call rfl _ (Ent.refl _) (SameOut_c _ u u2 (reqL id vs) (reqL id vs2) (by rw [reqL_len, reqL_len]; omega) (reqEq (e := ⟨id, num, o⟩) (by omega))) rfl ?_; rintro _ _ ⟨rfl, hLz⟩; obtain rfl := hLz.symm; clear hLz)
                refine o_give (g_not (evv rfl)) rfl rfl ?_
                refine o_nil ?_
                refine c_code ?_
                refine r_cond_false rfl ?_
                refine r_skip ?_
                refine c_blk ?_
                exact c_cut (⟨(num, 4, 4, o), show CliOk id n num 4 4 from ⟨k.hi, k.hn, k.hu, by omega, by omega, by omega⟩⟩ : StP id n) (by repeat (first | exact trivial | refine ⟨rfl, ?_⟩ | refine envsub_v rfl (by first | rfl | (refine int_eq ?_; first | omega | (simp; omega) | (simp; done)) | (refine bool_eq ?_; first | (simp [*]; done) | (simp; done)) | (refine str_eq ?_; simp; done) | (refine ptr_eq ?_; omega) | fail) ?_)) ((show Ent _ (blk cb ⟨cliC id n num 4 true o, 68⟩ :: blk rb ⟨rcC id n num 4 o, 54⟩ :: [base W]) from Lay.ent))
              · have t2 : 2 ≤ left := by have := k.ht; omega
                have t3 : left ≤ 4 := k.ht.2
                simp only [decide_eq_true (show 0 < left by omega)]
                refine r_seq ?_
                refine r_region (id := 25) ?_
                refine o_give (g_move (evv rfl)) rfl rfl ?_
                (refine o_call rfl _ (PickR.ent (K := blk cb)) (Tick2_c _ cb id n num left o t2 t3) rfl ?_; rintro _ _ ⟨rfl, rfl⟩)
                refine o_give (g_move (evv rfl)) rfl rfl ?_
                (refine o_call rfl _ (PickR.ent (K := blk rb)) (rTick2_c _ rb id n num left o t2 t3) rfl ?_; rintro _ _ ⟨rfl, rfl⟩)
                (refine o_call rfl _ (Ent.refl _) (SameOut_c _ (.slice none 0 0) (.slice none 0 0) [] [] (ra := Rd.nilF msgC 47 _) (rb := Rd.nilF msgC 47 _) rfl (fun _ h => absurd h (Nat.not_lt_zero _))) rfl ?_; rintro _ _ ⟨rfl, hLz⟩; obtain rfl := hLz.symm; clear hLz)
                refine o_give (g_not (evv rfl)) rfl rfl ?_
                refine o_nil ?_
                refine c_code ?_
                refine r_cond_false rfl ?_
                refine r_skip ?_
                refine c_blk ?_
                exact c_cut (⟨(num, left - 1, left - 1, o), show CliOk id n num (left - 1) (left - 1) from ⟨k.hi, k.hn, k.hu, by omega, by omega, by omega⟩⟩ : StP id n) (by repeat (first | exact trivial | refine ⟨rfl, ?_⟩ | refine envsub_v rfl (by first | rfl | (refine int_eq ?_; first | omega | (simp; omega) | (simp; done)) | (refine bool_eq ?_; first | (simp [*]; done) | (simp; done)) | (refine str_eq ?_; simp; done) | (refine ptr_eq ?_; omega) | fail) ?_)) ((by rw [decide_eq_true (show 0 < left - 1 by omega)]; exact Lay.ent))
          · have r3 : Rd [base W] (msgD D id num).ents (entR es) := by rw [msgD_ents]; exact r1
            have r4 : Rd [base W] (msgD D id num).names (mrow str 9 ns) := by rw [msgD_names]; exact r2
            repeat (first | refine r_seq ?_ | refine c_code ?_ | refine c_blk ?_ | refine r_block ?_ | refine r_skip ?_)
            refine r_cutE (σ := Nat) (fun r => [(16, .v (.pointer (some ⟨r, 0, none⟩)))]) [0, 2, 7, 9, 10, 11, 12, 13, 14, 15, 54, 55, 56, 57, 58, 59, 60, 61, 64, 65, 66, 67, 68, 69, 70, 71, 100, 101, 102, 103, 104, 105, 106, 107, 108, 109, 110, 111, 112, 113, 114, 115, 116, 117, 118, 119, 120, 121, 122, 123, 124, 125, 126, 127, 128, 129, 130, 131, 132] (fun r => blk r ⟨msgC (msgD D id num), 37⟩ :: blk cb ⟨cliC id n num left (decide (0 < t)) o, 68⟩ :: blk rb ⟨rcC id n num t o, 54⟩ :: [base W]) (by dsimp only [pickE, pick1, lk2, Nat.reduceBEq, Nat.reduceAdd, Nat.zero_add, cond_true, cond_false] <;> exact rfl) ?_ ?_
            · refine r_held (id := 14) ([blk q ⟨doC D, 39⟩, blk rb ⟨rcC id n num t o, 54⟩]) Mixed.h ?_
              (refine h_give (i := 0) (by kernel_rfl) rfl (g_loadW (evv rfl) (by rfl) (LenC.h _)) rfl rfl ?_)
              (refine h_give (i := 1) (by kernel_rfl) rfl (g_move (evv rfl)) rfl rfl ?_)
              (refine h_give (i := 2) (by kernel_rfl) rfl (g_move (evv rfl)) rfl rfl ?_)
              (refine h_give (i := 3) (by kernel_rfl) rfl (g_nil (evv rfl)) rfl rfl ?_)
              (refine h_give (i := 4) (by kernel_rfl) rfl (g_fld (evv rfl)) (by first | (simp only [Nat.zero_add, Nat.reduceAdd]; rfl) | rfl) rfl ?_)
              (refine h_give (i := 5) (by kernel_rfl) rfl (g_loadGt (evv rfl) (by rfl)) rfl rfl ?_)
              refine h_two (i := 6) (j := 7) (by kernel_rfl) rfl rfl (Lay.ent) ?_ ?_
              · ((refine o_call rfl _ (Ent.refl _) (msgD_c _ D id num hki es ns) rfl ?_; rintro _ _ ⟨rfl, hLz⟩; obtain rfl := hLz.symm; clear hLz)); refine o_nil ?_
                refine h_one (i := 7) (by kernel_rfl) rfl (Lay.ent) ?_
                (refine o_alloc (cs := ((Go.Value.int Go.IntKind.i64 0) :: (Go.Value.int Go.IntKind.i64 0) :: (Go.Value.int Go.IntKind.i64 0) :: (Go.Value.int Go.IntKind.i64 0) :: (Go.Value.int Go.IntKind.i64 0) :: (Go.Value.int Go.IntKind.i64 0) :: (Go.Value.int Go.IntKind.i64 0) :: (Go.Value.int Go.IntKind.i64 0) :: (bys (List.replicate 32 0) ++ (Go.Value.slice none 0 0) :: (Go.Value.string { data := #[] }) :: (Go.Value.int Go.IntKind.i64 0) :: (Go.Value.bool false) :: (Go.Value.int Go.IntKind.i64 0) :: (Go.Value.string { data := #[] }) :: (Go.Value.slice none 0 0) :: []))) rfl rfl (fun _ => ?_)); refine o_nil ?_
                refine h_one (i := 8) (by kernel_rfl) rfl (Lay.ent) ?_
                (refine o_storeW (evv rfl) (evv rfl) (by first | rfl | assumption | exact LenC.h _ | (simp [bys, *]; done) | fail) (by first | (intro _ _ _; exact bys_one _) | exact AllOne.h | (intro _ _ _ u hu; simp at hu; rcases hu with rfl | rfl | rfl | rfl | rfl | rfl | rfl | rfl <;> rfl) | fail) (by first | rfl | exact (LenC.h _).trans rfl | exact (LenC.h _).trans (LenC.h _).symm | (simp [bys, *]; done) | (simp only [bys, List.length_map, *]; rfl) | fail) ?_); refine o_nil ?_
                refine h_done (by kernel_rfl) (Lay.ent) ?_
                exact c_cut (by assumption) (by repeat (first | exact trivial | refine ⟨rfl, ?_⟩ | refine envsub_v rfl (by first | rfl | (refine int_eq ?_; first | omega | (simp; omega) | (simp; done)) | (refine bool_eq ?_; first | (simp [*]; done) | (simp; done)) | (refine str_eq ?_; simp; done) | (refine ptr_eq ?_; omega) | fail) ?_)) (Lay.ent)
              · (refine o_alloc (cs := ((Go.Value.int Go.IntKind.i64 0) :: (Go.Value.int Go.IntKind.i64 0) :: (Go.Value.int Go.IntKind.i64 0) :: (Go.Value.int Go.IntKind.i64 0) :: (Go.Value.int Go.IntKind.i64 0) :: (Go.Value.int Go.IntKind.i64 0) :: (Go.Value.int Go.IntKind.i64 0) :: (Go.Value.int Go.IntKind.i64 0) :: (bys (List.replicate 32 0) ++ (Go.Value.slice none 0 0) :: (Go.Value.string { data := #[] }) :: (Go.Value.int Go.IntKind.i64 0) :: (Go.Value.bool false) :: (Go.Value.int Go.IntKind.i64 0) :: (Go.Value.string { data := #[] }) :: (Go.Value.slice none 0 0) :: []))) rfl rfl (fun _ => ?_)); refine o_nil ?_
                refine h_one (i := 6) (by kernel_rfl) rfl (Lay.ent) ?_
                ((refine o_call rfl _ (Ent.refl _) (msgD_c _ D id num hki es ns) rfl ?_; rintro _ _ ⟨rfl, hLz⟩; obtain rfl := hLz.symm; clear hLz)); refine o_nil ?_
                refine h_one (i := 8) (by kernel_rfl) rfl (Lay.ent) ?_
                (refine o_storeW (evv rfl) (evv rfl) (by first | rfl | assumption | exact LenC.h _ | (simp [bys, *]; done) | fail) (by first | (intro _ _ _; exact bys_one _) | exact AllOne.h | (intro _ _ _ u hu; simp at hu; rcases hu with rfl | rfl | rfl | rfl | rfl | rfl | rfl | rfl <;> rfl) | fail) (by first | rfl | exact (LenC.h _).trans rfl | exact (LenC.h _).trans (LenC.h _).symm | (simp [bys, *]; done) | (simp only [bys, List.length_map, *]; rfl) | fail) ?_); refine o_nil ?_
                refine h_done (by kernel_rfl) (Lay.ent) ?_
                exact c_cut (by assumption) (by repeat (first | exact trivial | refine ⟨rfl, ?_⟩ | refine envsub_v rfl (by first | rfl | (refine int_eq ?_; first | omega | (simp; omega) | (simp; done)) | (refine bool_eq ?_; first | (simp [*]; done) | (simp; done)) | (refine str_eq ?_; simp; done) | (refine ptr_eq ?_; omega) | fail) ?_)) (Lay.ent)
            intro r
            dsimp only [List.cons_append, List.nil_append]
            have hto2 : inR .i64 (msgD D id num).to_ := by
              unfold msgD
              split
              · simp only [inR]; omega
              · exact hto
            generalize msgD D id num = M at *
            by_cases hA : ansP id num t M
            · refine c_code ?_
              refine r_seq ?_
              refine r_region (id := 15) ?_
              refine o_give (g_move (evv rfl)) rfl rfl ?_
              refine o_give (g_loadW (evv rfl) (by rfl) (LenC.h _)) rfl rfl ?_
              (refine o_call rfl _ (PickR.ent (K := blk cb)) (Hdl1_c _ cb id n num left t o M ns hns k hA) rfl ?_; rintro _ _ ⟨u, rfl, rfl⟩)
              refine o_give (g_move (evv rfl)) rfl rfl ?_
              refine o_give (g_extract (evv rfl) (by rfl)) rfl rfl ?_
              refine o_give (g_extract (evv rfl) (by rfl)) rfl rfl ?_
              refine o_alloc rfl rfl (fun _ => ?_)
              refine o_storeW (evv rfl) (evv rfl) (by first | rfl | assumption | exact LenC.h _ | (simp [bys, *]; done) | fail) (by first | (intro _ _ _; exact bys_one _) | exact AllOne.h | (intro _ _ _ u hu; simp at hu; rcases hu with rfl | rfl | rfl | rfl | rfl | rfl | rfl | rfl <;> rfl) | fail) (by first | rfl | exact (LenC.h _).trans rfl | exact (LenC.h _).trans (LenC.h _).symm | (simp [bys, *]; done) | (simp only [bys, List.length_map, *]; rfl) | fail) ?_
              refine o_give (g_assign (evv rfl)) rfl rfl ?_
              refine o_nil ?_
              refine c_code ?_
              refine r_seq ?_
              refine r_region (id := 16) ?_
              refine o_give (g_move (evv rfl)) rfl rfl ?_
              refine o_give (g_loadW (evv rfl) (by rfl) (LenC.h _)) rfl rfl ?_
              (refine o_call rfl _ (PickR.ent (K := blk rb)) (rHdl1_c _ rb id n num left t o M hto2 ns k hA) rfl ?_; rintro _ _ ⟨rfl, rfl⟩)
              refine o_give (g_move (evv rfl)) rfl rfl ?_
              refine o_give (g_extract (evv rfl) (by rfl)) rfl rfl ?_
              refine o_give (g_extract (evv rfl) (by rfl)) rfl rfl ?_
              refine o_alloc rfl rfl (fun _ => ?_)
              refine o_storeW (evv rfl) (evv rfl) (by first | rfl | assumption | exact LenC.h _ | (simp [bys, *]; done) | fail) (by first | (intro _ _ _; exact bys_one _) | exact AllOne.h | (intro _ _ _ u hu; simp at hu; rcases hu with rfl | rfl | rfl | rfl | rfl | rfl | rfl | rfl <;> rfl) | fail) (by first | rfl | exact (LenC.h _).trans rfl | exact (LenC.h _).trans (LenC.h _).symm | (simp [bys, *]; done) | (simp only [bys, List.length_map, *]; rfl) | fail) ?_
              refine o_give (g_assign (evv rfl)) rfl rfl ?_
              refine o_nil ?_
              refine c_code ?_
              refine r_seq ?_
              refine r_region (id := 17) ?_
              refine o_give (g_move (evv rfl)) rfl rfl ?_
              refine o_give (g_move (evv rfl)) rfl rfl ?_
              refine o_give (g_binB TyU.h (evv rfl) (evv rfl) (by rfl)) rfl rfl ?_
              refine o_give (g_move (evv rfl)) rfl rfl ?_
              refine o_gyes rfl ?_
              refine o_give (g_loadPt (evv rfl) (by rfl)) rfl rfl ?_
              refine o_gyes rfl ?_
              refine o_give (g_loadPt (evv rfl) (by rfl)) rfl rfl ?_
              refine o_gyes rfl ?_
              (refine o_call rfl _ (Ent.refl _) (Same_c _ ⟨M.code, M.dir, M.size, M.rdata, ns⟩ _ _) rfl ?_; rintro _ _ ⟨rfl, hLz⟩; obtain rfl := hLz.symm; clear hLz)
              refine o_gyes rfl ?_
              refine o_give (g_not (evv rfl)) rfl rfl ?_
              refine o_give (g_pick (b := false) (evv rfl) (fun h => by cases h) (fun _ => (evv rfl))) rfl rfl ?_
              refine o_nil ?_
              refine c_code ?_
              refine r_cond_false rfl ?_
              refine r_skip ?_
              refine c_blk ?_
              exact c_cut (⟨(num, left, 0, o), show CliOk id n num left 0 from ⟨k.hi, k.hn, k.hu, by omega, k.hl, fun h => absurd h (by decide)⟩⟩ : StP id n) (by repeat (first | exact trivial | refine ⟨rfl, ?_⟩ | refine envsub_v rfl (by first | rfl | (refine int_eq ?_; first | omega | (simp; omega) | (simp; done)) | (refine bool_eq ?_; first | (simp [*]; done) | (simp; done)) | (refine str_eq ?_; simp; done) | (refine ptr_eq ?_; omega) | fail) ?_)) ((show Ent _ (blk cb ⟨cliC id n num left false o, 68⟩ :: blk rb ⟨rcC id n num 0 o, 54⟩ :: [base W]) from Lay.ent))
            · refine c_code ?_
              refine r_seq ?_
              refine r_region (id := 15) ?_
              refine o_give (g_move (evv rfl)) rfl rfl ?_
              refine o_give (g_loadW (evv rfl) (by rfl) (LenC.h _)) rfl rfl ?_
              (refine o_call rfl _ (PickR.ent (K := blk cb)) (Hdl0_c _ cb id n num left t o M k hA) rfl ?_; rintro _ _ ⟨rfl, rfl⟩)
              refine o_give (g_move (evv rfl)) rfl rfl ?_
              refine o_give (g_extract (evv rfl) (by rfl)) rfl rfl ?_
              refine o_give (g_extract (evv rfl) (by rfl)) rfl rfl ?_
              refine o_alloc rfl rfl (fun _ => ?_)
              refine o_storeW (evv rfl) (evv rfl) (by first | rfl | assumption | exact LenC.h _ | (simp [bys, *]; done) | fail) (by first | (intro _ _ _; exact bys_one _) | exact AllOne.h | (intro _ _ _ u hu; simp at hu; rcases hu with rfl | rfl | rfl | rfl | rfl | rfl | rfl | rfl <;> rfl) | fail) (by first | rfl | exact (LenC.h _).trans rfl | exact (LenC.h _).trans (LenC.h _).symm | (simp [bys, *]; done) | (simp only [bys, List.length_map, *]; rfl) | fail) ?_
              refine o_give (g_assign (evv rfl)) rfl rfl ?_
              refine o_nil ?_
              refine c_code ?_
              refine r_seq ?_
              refine r_region (id := 16) ?_
              refine o_give (g_move (evv rfl)) rfl rfl ?_
              refine o_give (g_loadW (evv rfl) (by rfl) (LenC.h _)) rfl rfl ?_
              (refine o_call rfl _ (PickR.ent (K := blk rb)) (rHdl0_c _ rb id n num left t o M hto2 k hA) rfl ?_; rintro _ _ ⟨rfl, rfl⟩)
              refine o_give (g_move (evv rfl)) rfl rfl ?_
              refine o_give (g_extract (evv rfl) (by rfl)) rfl rfl ?_
              refine o_give (g_extract (evv rfl) (by rfl)) rfl rfl ?_
              refine o_alloc rfl rfl (fun _ => ?_)
              refine o_storeW (evv rfl) (evv rfl) (by first | rfl | assumption | exact LenC.h _ | (simp [bys, *]; done) | fail) (by first | (intro _ _ _; exact bys_one _) | exact AllOne.h | (intro _ _ _ u hu; simp at hu; rcases hu with rfl | rfl | rfl | rfl | rfl | rfl | rfl | rfl <;> rfl) | fail) (by first | rfl | exact (LenC.h _).trans rfl | exact (LenC.h _).trans (LenC.h _).symm | (simp [bys, *]; done) | (simp only [bys, List.length_map, *]; rfl) | fail) ?_
              refine o_give (g_assign (evv rfl)) rfl rfl ?_
              refine o_nil ?_
              refine c_code ?_
              refine r_seq ?_
              refine r_region (id := 17) ?_
              refine o_give (g_move (evv rfl)) rfl rfl ?_
              refine o_give (g_move (evv rfl)) rfl rfl ?_
              refine o_give (g_binB TyU.h (evv rfl) (evv rfl) (by rfl)) rfl rfl ?_
              refine o_give (g_move (evv rfl)) rfl rfl ?_
              refine o_gyes rfl ?_
              refine o_give (g_loadPt (evv rfl) (by rfl)) rfl rfl ?_
              refine o_gyes rfl ?_
              refine o_give (g_loadPt (evv rfl) (by rfl)) rfl rfl ?_
              refine o_gyes rfl ?_
              (refine o_call rfl _ (Ent.refl _) (Same_c _ zeroRes (.slice none 0 0) (.slice none 0 0) (r1 := Rd.nilM str _) (r2 := Rd.nilM str _)) rfl ?_; rintro _ _ ⟨rfl, hLz⟩; obtain rfl := hLz.symm; clear hLz)
              refine o_gyes rfl ?_
              refine o_give (g_not (evv rfl)) rfl rfl ?_
              refine o_give (g_pick (b := false) (evv rfl) (fun h => by cases h) (fun _ => (evv rfl))) rfl rfl ?_
              refine o_nil ?_
              refine c_code ?_
              refine r_cond_false rfl ?_
              refine r_skip ?_
              refine c_blk ?_
              exact c_cut (⟨(num, left, t, o), k⟩ : StP id n) (by repeat (first | exact trivial | refine ⟨rfl, ?_⟩ | refine envsub_v rfl (by first | rfl | (refine int_eq ?_; first | omega | (simp; omega) | (simp; done)) | (refine bool_eq ?_; first | (simp [*]; done) | (simp; done)) | (refine str_eq ?_; simp; done) | (refine ptr_eq ?_; omega) | fail) ?_)) (Lay.ent)
      · intro ⟨⟨num', left', t', o'⟩, k'⟩
        dsimp only [List.cons_append, List.nil_append]
        repeat (first | refine r_seq ?_ | refine c_code ?_ | refine c_blk ?_ | refine r_block ?_ | refine r_skip ?_)
        refine r_held (id := 27) ([blk cb ⟨cliC id n num' left' (decide (0 < t')) o', 68⟩, blk rb ⟨rcC id n num' t' o', 54⟩]) Mixed.h ?_
        refine h_give (i := 0) (by kernel_rfl) rfl (g_move (evv rfl)) rfl rfl ?_
        refine h_give (i := 2) (by kernel_rfl) rfl (g_move (evv rfl)) rfl rfl ?_
        refine h_give (i := 3) (by kernel_rfl) rfl (g_nil (evv rfl)) rfl rfl ?_
        refine h_give (i := 4) (by kernel_rfl) rfl (g_fld (evv rfl)) (by first | (simp only [Nat.zero_add, Nat.reduceAdd]; rfl) | rfl) rfl ?_
        refine h_give (i := 5) (by kernel_rfl) rfl (g_loadGt (evv rfl) (by rfl)) rfl rfl ?_
        refine h_give (i := 6) (by kernel_rfl) rfl (g_bin (evv rfl) (evv rfl) (by rfl)) rfl rfl ?_
        refine h_one (i := 1) (by kernel_rfl) rfl (Lay.ent) ?_
        (refine o_call rfl _ (PickR.ent (K := blk cb)) (Wtg_c _ cb _ _ _ _ _ _) rfl ?_; rintro _ _ ⟨rfl, rfl⟩)
        refine o_nil ?_
        refine h_give (i := 7) (by kernel_rfl) rfl (g_binB TyU.h (evv rfl) (evv rfl) (by rfl)) rfl rfl ?_
        refine h_give (i := 8) (by kernel_rfl) rfl (g_move (evv rfl)) rfl rfl ?_
        simp only [bne_self_eq_false]
        refine h_sure (i := 9) (by kernel_rfl) rfl rfl (g_move (evv rfl)) rfl rfl ?_
        refine h_sure (i := 11) (by kernel_rfl) rfl rfl (g_move (evv rfl)) rfl rfl ?_
        refine h_sure (i := 12) (by kernel_rfl) rfl rfl (g_nil (evv rfl)) rfl rfl ?_
        refine h_sure (i := 13) (by kernel_rfl) rfl rfl (g_fld (evv rfl)) rfl rfl ?_
        refine h_sure (i := 14) (by kernel_rfl) rfl rfl (g_loadGt (evv rfl) (by rfl)) rfl rfl ?_
        refine h_one (i := 10) (by kernel_rfl) rfl (Lay.ent) ?_
        refine o_gyes rfl ?_
        (refine o_call rfl _ (PickR.ent (K := blk cb)) (CNum_c _ cb _ _ _ _ _ _) rfl ?_; rintro _ _ ⟨rfl, rfl⟩)
        refine o_nil ?_
        refine h_sure (i := 15) (by kernel_rfl) rfl rfl (g_bin (evv rfl) (evv rfl) (by rfl)) rfl rfl ?_
        refine h_give (i := 16) (by kernel_rfl) rfl (g_pick (b := false) (evv rfl) (fun h => by cases h) (fun _ => (evv rfl))) rfl rfl ?_
        simp only [decide_true, Bool.not_true, Bool.or_false]
        refine h_done (by kernel_rfl) (Lay.ent) ?_
        refine c_code ?_
        refine r_cond_false rfl ?_
        refine r_skip ?_
        refine c_blk ?_
        refine c_code ?_
        refine r_region (id := 11) ?_
        refine o_give (g_move (evv rfl)) rfl rfl ?_
        refine o_giveN (g_bin (evv rfl) (evv rfl) (by rfl)) (by simp only [inR]; omega) rfl ?_
        refine o_give (g_assign (evv rfl)) rfl rfl ?_
        refine o_nil ?_
        refine c_loop (i + 1, num', left', t', o') ?_ ?_ (by repeat (first | exact trivial | refine ⟨rfl, ?_⟩ | refine envsub_v rfl (by first | rfl | (refine int_eq ?_; first | omega | (simp; omega) | (simp; done)) | (refine bool_eq ?_; first | (simp [*]; done) | (simp; done)) | (refine str_eq ?_; simp; done) | (refine ptr_eq ?_; omega) | fail) ?_)) ?_ <;> (try dsimp only)
        · exact ⟨by omega, k'⟩
        · omega
        · exact Lay.ent
    · refine r_exit rfl ?_
      refine c_code ?_
      refine r_seq ?_
      refine r_region (id := 29) ?_
      refine o_give (g_assign (evv rfl)) rfl rfl ?_
      refine o_nil ?_
      refine c_code ?_
      first | refine r_ret (rs := [.tmp 6]) rfl rfl _ ((Lay.ent (L' := [base W]))) ?_ | refine c_end (rs := [.tmp 6]) rfl rfl _ ((Lay.ent (L' := [base W]))) ?_
      exact ⟨rfl, rfl⟩
  · skip
    refine fn_intro Try.func4 rfl Try.ntmps4 rfl (fun W0 => ?_)
    simp only [argE]
    refine r_seq ?_
    refine r_region (id := 0) ?_
    refine o_give (g_assign (evv rfl)) rfl rfl ?_
    refine o_nil ?_
    refine c_code ?_
    refine r_seq ?_
    refine r_seq ?_
    refine r_region (id := 1) ?_
    (refine o_call rfl _ (Ent.refl _) (cAwake_c _) rfl ?_; rintro _ _ ⟨rfl, hLz⟩; obtain rfl := hLz.symm; clear hLz)
    refine o_give (g_not (evv rfl)) rfl rfl ?_
    refine o_nil ?_
    refine c_code ?_
    refine r_cond_false rfl ?_
    refine r_skip ?_
    refine c_code ?_
    refine r_seq ?_
    refine r_region (id := 3) ?_
    refine o_give (g_move (evv rfl)) rfl rfl ?_
    refine o_give (g_move (evv rfl)) rfl rfl ?_
    (refine o_call rfl _ (Ent.refl _) (CNewE_c _ _ _ (by assumption)) rfl ?_; rintro _ _ ⟨rfl, hLz⟩; obtain rfl := hLz.symm; clear hLz)
    refine o_give (g_move (evv rfl)) rfl rfl ?_
    refine o_give (g_extract (evv rfl) (by rfl)) rfl rfl ?_
    refine o_give (g_extract (evv rfl) (by rfl)) rfl rfl ?_
    refine o_give (g_assign (evv rfl)) rfl rfl ?_
    refine o_give (g_assign (evv rfl)) rfl rfl ?_
    refine o_nil ?_
    refine c_code ?_
    refine r_seq ?_
    refine r_region (id := 4) ?_
    refine o_give (g_move (evv rfl)) rfl rfl ?_
    refine o_give (g_move (evv rfl)) rfl rfl ?_
    (refine o_call rfl _ (Ent.refl _) (rNewE_c _ _ _ (by assumption)) rfl ?_; rintro _ _ ⟨rfl, hLz⟩; obtain rfl := hLz.symm; clear hLz)
    refine o_give (g_assign (evv rfl)) rfl rfl ?_
    refine o_nil ?_
    refine c_code ?_
    refine r_seq ?_
    refine r_seq ?_
    refine r_region (id := 5) ?_
    refine o_give (g_move (evv rfl)) rfl rfl ?_
    refine o_give (g_pnil TyU.h (evv rfl) (evv rfl) (by simp) (by rfl)) rfl rfl ?_
    refine o_give (g_move (evv rfl)) rfl rfl ?_
    refine o_give (g_pnil TyU.h (evv rfl) (evv rfl) (by simp) (by rfl)) rfl rfl ?_
    refine o_give (g_binB TyU.h (evv rfl) (evv rfl) (by rfl)) rfl rfl ?_
    refine o_give (g_move (evv rfl)) rfl rfl ?_
    refine o_gyes rfl ?_
    refine o_give (g_move (evv rfl)) rfl rfl ?_
    refine o_gyes rfl ?_
    refine o_give (g_bin (evv rfl) (evv rfl) (by rfl)) rfl rfl ?_
    refine o_gyes rfl ?_
    refine o_give (g_move (evv rfl)) rfl rfl ?_
    refine o_gyes rfl ?_
    refine o_give (g_pnil TyU.h (evv rfl) (evv rfl) (by simp) (by rfl)) rfl rfl ?_
    refine o_gyes rfl ?_
    refine o_give (g_binB TyU.h (evv rfl) (evv rfl) (by rfl)) rfl rfl ?_
    refine o_give (g_pick (b := false) (evv rfl) (fun h => by cases h) (fun _ => (evv rfl))) rfl rfl ?_
    refine o_give (g_move (evv rfl)) rfl rfl ?_
    refine o_gyes rfl ?_
    refine o_give (g_move (evv rfl)) rfl rfl ?_
    refine o_gyes rfl ?_
    refine o_give (g_pnil TyU.h (evv rfl) (evv rfl) (by simp) (by rfl)) rfl rfl ?_
    refine o_gyes rfl ?_
    refine o_give (g_move (evv rfl)) rfl rfl ?_
    refine o_gyes rfl ?_
    refine o_give (g_move (evv rfl)) rfl rfl ?_
    refine o_gyes rfl ?_
    refine o_give (g_bin (evv rfl) (evv rfl) (by rfl)) rfl rfl ?_
    refine o_gyes rfl ?_
    refine o_give (g_pick (b := true) (evv rfl) (fun _ => (evv rfl)) (fun h => by cases h)) rfl rfl ?_
    refine o_give (g_pick (b := false) (evv rfl) (fun h => by cases h) (fun _ => (evv rfl))) rfl rfl ?_
    refine o_nil ?_
    refine c_code ?_
    refine r_cond_false rfl ?_
    refine r_skip ?_
    refine c_code ?_
    refine r_seq ?_
    refine r_seq ?_
    refine r_region (id := 7) ?_
    refine o_give (g_move (evv rfl)) rfl rfl ?_
    refine o_give (g_pnil TyU.h (evv rfl) (evv rfl) (by simp) (by rfl)) rfl rfl ?_
    refine o_nil ?_
    refine c_code ?_
    refine r_cond_true rfl ?_
    refine r_seq ?_
    refine r_region (id := 8) ?_
    refine o_give (g_assign (evv rfl)) rfl rfl ?_
    refine o_nil ?_
    refine c_code ?_
    first | refine r_ret (rs := [.tmp 6]) rfl rfl _ ((Lay.ent (L' := [base W]))) ?_ | refine c_end (rs := [.tmp 6]) rfl rfl _ ((Lay.ent (L' := [base W]))) ?_
    exact ⟨rfl, rfl⟩
end VK
