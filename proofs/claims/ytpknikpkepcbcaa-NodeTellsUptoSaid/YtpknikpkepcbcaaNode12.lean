/- Laws of nodes, walked: what is found; what is written is read; another byte, another node. Conditions: texts of a machine's size. -/
import Derived.Test.YtpknikpkepcbcaaNode11
namespace VK
open Go Go.Proofs
set_option linter.unusedSimpArgs false
set_option linter.unusedVariables false
set_option maxRecDepth 100000
set_option maxHeartbeats 40000000
theorem rawN_len {L : List Atom} {r : RawS} {pv nv kv sv : Value} (h : RawR L r pv nv kv sv) : (rawN r).parts.length ≤ 1048576 ∧ (rawN r).items.length ≤ 1048576 := by
  refine ⟨?_, ?_⟩
  · simp only [rawN, List.length_map]; exact h.l1
  · simp only [rawN, List.length_map, List.length_range]; exact h.l2
/-- the first of the items from i on -/
theorem findN_drop {l : List Itm} {nm : List UInt8} {i : Nat} (hi : i < l.length) : findN (l.drop i) nm = if (l.getD i default).name = nm then some (l.getD i default) else findN (l.drop (i + 1)) nm := by
  unfold findN
  rw [List.drop_eq_getElem_cons hi, List.find?_cons]
  have e : l.getD i default = l[i] := by simp [List.getD_eq_getElem?_getD, hi]
  rw [e]
  by_cases h : l[i].name = nm <;> simp [h]
theorem NodeFinds_c (W : World) (r : RawS) (pv nv kv sv : Value) (nm : List UInt8) (hok : RawOk r) (h : RawR [base W] r pv nv kv sv) : Fn Try.prog 8 [agg (rawV r pv nv kv sv), str nm] [base W] fun w L' => w = .bool true ∧ L' = [base W] := by
  have ho := hok.ok
  obtain ⟨hl1, hl2⟩ := rawN_len h
  refine fn_intro Try.func8 rfl Try.ntmps8 rfl (fun W0 => ?_)
  simp only [argE, rawV]
  refine r_seq ?_
  refine r_region (id := 0) ?_
  refine o_boxA (evv rfl) rfl (fun _ => ?_)
  refine o_give (g_assign (evv rfl)) rfl rfl ?_
  refine o_nil ?_
  refine c_code ?_
  refine r_seq ?_
  refine r_seq ?_
  refine r_region (id := 1) ?_
  (refine o_call rfl _ (Ent.refl _) (awake_c _) rfl ?_; rintro _ _ ⟨rfl, hLz⟩; obtain rfl := hLz.symm; clear hLz)
  refine o_give (g_not (evv rfl)) rfl rfl ?_
  refine o_nil ?_
  refine c_code ?_
  refine r_cond_false rfl ?_
  refine r_skip ?_
  refine c_code ?_
  refine r_seq ?_
  refine r_region (id := 3) ?_
  refine o_give (g_loadF (evv rfl) (by rfl) (by rfl)) rfl rfl ?_
  (refine o_call rfl _ (Ent.refl _) (mkNode_c _ _ _ _ _ _ (by repeat (first | assumption | refine RawR.tail ?_))) rfl ?_; rintro _ _ ⟨qv, iv, rfl, rfl⟩)
  refine o_alloc rfl rfl (fun _ => ?_)
  refine o_storeW (evv rfl) (evv rfl) (by first | rfl | assumption | exact LenC.h _ | (simp [bys, *]; done) | fail) (by first | (intro _ _ _; exact bys_one _) | exact AllOne.h | (intro _ _ _ u hu; simp at hu; rcases hu with rfl | rfl | rfl | rfl | rfl | rfl | rfl | rfl <;> rfl) | fail) (by first | rfl | exact (LenC.h _).trans rfl | exact (LenC.h _).trans (LenC.h _).symm | (simp [bys, *]; done) | (simp only [bys, List.length_map, *]; rfl) | fail) ?_
  refine o_nil ?_
  refine c_code ?_
  refine r_seq ?_
  refine r_region (id := 4) ?_
  refine o_give (g_loadF (evv rfl) (by rfl) (by rfl)) rfl rfl ?_
  refine o_give (g_move (evv rfl)) rfl rfl ?_
  (refine o_call rfl _ (Ent.refl _) (Find_c _ _ _ _ _) rfl ?_; rintro _ _ ⟨rfl, hLz⟩; obtain rfl := hLz.symm; clear hLz)
  refine o_give (g_move (evv rfl)) rfl rfl ?_
  refine o_give (g_extract (evv rfl) (by rfl)) rfl rfl ?_
  refine o_give (g_extract (evv rfl) (by rfl)) rfl rfl ?_
  refine o_alloc (cs := ((Go.Value.string { data := #[] }) :: (Go.Value.int Go.IntKind.i64 0) :: bys (List.replicate 32 0))) rfl rfl (fun _ => ?_)
  refine o_storeW (evv rfl) (evv rfl) (by first | rfl | assumption | exact LenC.h _ | (simp [bys, *]; done) | fail) (by first | (intro _ _ _; exact bys_one _) | exact AllOne.h | (intro _ _ _ u hu; simp at hu; rcases hu with rfl | rfl | rfl | rfl | rfl | rfl | rfl | rfl <;> rfl) | fail) (by first | rfl | exact (LenC.h _).trans rfl | exact (LenC.h _).trans (LenC.h _).symm | (simp [bys, *]; done) | (simp only [bys, List.length_map, *]; rfl) | fail) ?_
  refine o_give (g_assign (evv rfl)) rfl rfl ?_
  refine o_nil ?_
  refine c_code ?_
  refine r_seq ?_
  refine r_region (id := 5) ?_
  refine o_give (v := agg ((Go.Value.string { data := #[] }) :: (Go.Value.int Go.IntKind.i64 0) :: bys (List.replicate 32 0))) (g_buildC rfl (by rfl)) rfl rfl ?_
  refine o_alloc (cs := ((Go.Value.string { data := #[] }) :: (Go.Value.int Go.IntKind.i64 0) :: bys (List.replicate 32 0))) rfl rfl (fun _ => ?_)
  refine o_storeW (evv rfl) (evv rfl) (by first | rfl | assumption | exact LenC.h _ | (simp [bys, *]; done) | fail) (by first | (intro _ _ _; exact bys_one _) | exact AllOne.h | (intro _ _ _ u hu; simp at hu; rcases hu with rfl | rfl | rfl | rfl | rfl | rfl | rfl | rfl <;> rfl) | fail) (by first | rfl | exact (LenC.h _).trans rfl | exact (LenC.h _).trans (LenC.h _).symm | (simp [bys, *]; done) | (simp only [bys, List.length_map, *]; rfl) | fail) ?_
  refine o_nil ?_
  refine c_code ?_
  refine r_seq ?_
  refine r_region (id := 6) ?_
  refine o_give (g_assign (evv rfl)) rfl rfl ?_
  refine o_nil ?_
  refine c_code ?_
  refine r_seq ?_
  refine r_seq ?_
  refine r_region (id := 7) ?_
  refine o_give (g_fld (evv rfl)) rfl rfl ?_
  refine o_give (g_load (evv rfl) (by rfl) (by rfl)) rfl rfl ?_
  refine o_give (g_lenF (evv rfl)) rfl rfl ?_
  refine o_giveN (g_bin (evv rfl) (evv rfl) (by rfl)) (by simp only [inR]; omega) rfl ?_
  refine o_give (g_assign (evv rfl)) rfl rfl ?_
  refine o_nil ?_
  refine c_code ?_
  refine r_block ?_
  rename_i q p x y
  have hz : findN [] nm = none := rfl
  refine r_loopE (σ := Nat) (fun i => i ≤ (rawN r).items.length) (fun i => i) (fun i => [(9, .v (.bool (findN ((rawN r).items.drop i) nm).isSome)), (10, .v (.int .i64 ((i : Int) - 1)))]) [1, 5, 6, 7, 8] (fun i => blk y ⟨itmC ((findN ((rawN r).items.drop i) nm).getD default), 54⟩ :: blk x ⟨itmC (findV (rawN r).items nm), 54⟩ :: blk p ⟨nodV (rawN r) qv iv, 27⟩ :: sl qv (frow digC 32 52 (rawN r).parts) :: sl iv (frow itmC 34 54 (rawN r).items) :: [base W]) ((rawN r).items.length) (by dsimp only [pickE, pick1, lk2, Nat.reduceBEq, Nat.reduceAdd, Nat.zero_add, cond_true, cond_false] <;> exact rfl) ?_ (by repeat (first | exact trivial | refine ⟨rfl, ?_⟩ | refine envsub_v rfl (by first | rfl | (refine int_eq ?_; first | omega | (simp; omega) | (simp; done)) | (refine bool_eq ?_; first | (simp [*]; done) | (simp; done)) | (refine str_eq ?_; simp; done) | (refine ptr_eq ?_; omega) | fail) ?_)) ?_ ?_
  · exact Nat.le_refl _
  · rw [List.drop_length]
    exact Lay.ent (L' := blk y ⟨.string { data := #[] } :: .int .i64 0 :: bys (List.replicate 32 0), 54⟩ :: blk x ⟨itmC (findV (rawN r).items nm), 54⟩ :: blk p ⟨nodV (rawN r) qv iv, 27⟩ :: sl qv (frow digC 32 52 (rawN r).parts) :: sl iv (frow itmC 34 54 (rawN r).items) :: [base W])
  rintro i hi; (try dsimp only at hi); dsimp only [List.cons_append, List.nil_append]
  refine r_seq ?_
  refine r_seq ?_
  refine r_region (id := 8) ?_
  refine o_give (g_move (evv rfl)) rfl rfl ?_
  refine o_give (g_bin (evv rfl) (evv rfl) (by rfl)) rfl rfl ?_
  refine o_nil ?_
  refine c_code ?_
  refine r_cond rfl (fun hc => ?_) (fun hc => ?_) <;> (try simp only [decide_eq_true_eq, decide_eq_false_iff_not, Bool.and_eq_true, Bool.or_eq_true, Bool.not_eq_true', Bool.and_eq_false_iff, Bool.or_eq_false_iff, Bool.not_eq_false', Bool.not_eq_true, Bool.not_eq_false, Bool.true_eq_false, Bool.false_eq_true, Int.not_lt, Int.not_le, not_and, not_or, ne_eq] at hc)
  · obtain ⟨j, rfl⟩ : ∃ j, i = j + 1 := ⟨i - 1, by omega⟩
    have hj : j < (rawN r).items.length := by omega
    have hf := findN_drop (nm := nm) hj
    have ej : (((j + 1 : Nat) : Int) - 1).toNat = j := by omega
    refine r_skip ?_
    refine c_code ?_
    refine r_seq ?_
    refine r_block ?_
    refine r_seq ?_
    refine r_region (id := 10) ?_
    refine o_give (g_fld (evv rfl)) rfl rfl ?_
    refine o_give (g_load (evv rfl) (by rfl) (by rfl)) rfl rfl ?_
    refine o_give (g_move (evv rfl)) rfl rfl ?_
    refine o_give (g_idxF (evv rfl) (evv rfl) (by rfl) (by rfl) (by omega) (by first | omega | (have := of_decide_eq_true hg; omega) | (simp at hg; omega) | (simp only [List.length_set, List.length_append, List.length_cons, List.length_nil, List.length_map, List.length_take, List.length_drop, List.length_replicate]; omega))) rfl rfl ?_
    refine o_give (g_fldE (evv rfl) (by first | (simp only [frow, mrow]; omega) | (simp only [frow, mrow, List.length_set, List.length_append, List.length_cons]; omega) | fail) (by first | exact Nat.succ_pos _ | decide)) rfl rfl ?_
    refine o_give (g_loadFld (evv rfl) (by rfl) (by first | (intro; rfl) | exact LenC.h) (by first | omega | (have := of_decide_eq_true hg; omega) | (simp at hg; omega) | (simp only [List.length_set, List.length_append, List.length_cons, List.length_nil, List.length_map, List.length_take, List.length_drop, List.length_replicate]; omega)) (by rfl)) rfl rfl ?_
    refine o_give (g_move (evv rfl)) rfl rfl ?_
    refine o_give (g_binS (evv rfl) (evv rfl) (by rfl)) rfl rfl ?_
    refine o_nil ?_
    refine c_code ?_
    rw [ej]
    refine r_cond rfl (fun hd => ?_) (fun hd => ?_) <;> (try simp only [decide_eq_true_eq, decide_eq_false_iff_not, Bool.and_eq_true, Bool.or_eq_true, Bool.not_eq_true', Bool.and_eq_false_iff, Bool.or_eq_false_iff, Bool.not_eq_false', Bool.not_eq_true, Bool.not_eq_false, Bool.true_eq_false, Bool.false_eq_true, Int.not_lt, Int.not_le, not_and, not_or, ne_eq] at hd)
    · rw [if_pos hd] at hf
      refine r_seq ?_
      refine r_region (id := 11) ?_
      refine o_give (g_fld (evv rfl)) rfl rfl ?_
      refine o_give (g_load (evv rfl) (by rfl) (by rfl)) rfl rfl ?_
      refine o_give (g_move (evv rfl)) rfl rfl ?_
      refine o_give (g_idxF (evv rfl) (evv rfl) (by rfl) (by rfl) (by omega) (by first | omega | (have := of_decide_eq_true hg; omega) | (simp at hg; omega) | (simp only [List.length_set, List.length_append, List.length_cons, List.length_nil, List.length_map, List.length_take, List.length_drop, List.length_replicate]; omega))) rfl rfl ?_
      refine o_give (g_loadFr (evv rfl) (by rfl) (by first | (intro; rfl) | exact LenC.h) (by rfl) (by rfl) (by first | omega | (have := of_decide_eq_true hg; omega) | (simp at hg; omega) | (simp only [List.length_set, List.length_append, List.length_cons, List.length_nil, List.length_map, List.length_take, List.length_drop, List.length_replicate]; omega))) rfl rfl ?_
      refine o_storeW (evv rfl) (evv rfl) (by first | rfl | assumption | exact LenC.h _ | (simp [bys, *]; done) | fail) (by first | (intro _ _ _; exact bys_one _) | exact AllOne.h | (intro _ _ _ u hu; simp at hu; rcases hu with rfl | rfl | rfl | rfl | rfl | rfl | rfl | rfl <;> rfl) | fail) (by first | rfl | exact (LenC.h _).trans rfl | exact (LenC.h _).trans (LenC.h _).symm | (simp [bys, *]; done) | (simp only [bys, List.length_map, *]; rfl) | fail) ?_
      refine o_nil ?_
      refine c_code ?_
      refine r_region (id := 12) ?_
      refine o_give (g_assign (evv rfl)) rfl rfl ?_
      refine o_nil ?_
      refine c_blk ?_
      refine c_code ?_
      rw [ej]
      refine r_region (id := 9) ?_
      refine o_give (g_move (evv rfl)) rfl rfl ?_
      refine o_giveN (g_bin (evv rfl) (evv rfl) (by rfl)) (by simp only [inR]; omega) rfl ?_
      refine o_give (g_assign (evv rfl)) rfl rfl ?_
      refine o_nil ?_
      refine c_loop j ?_ ?_ (by repeat (first | exact trivial | refine ⟨rfl, ?_⟩ | refine envsub_v rfl (by first | rfl | (refine int_eq ?_; first | omega | (simp; omega) | (simp; done)) | (refine bool_eq ?_; first | (simp [*]; done) | (simp; done)) | (refine str_eq ?_; simp; done) | (refine ptr_eq ?_; omega) | fail) ?_)) ?_ <;> (try dsimp only)
      · omega
      · omega
      · rw [hf, Option.getD_some]
        exact Lay.ent
    · rw [if_neg hd] at hf
      refine r_skip ?_
      refine c_blk ?_
      refine c_code ?_
      refine r_region (id := 9) ?_
      refine o_give (g_move (evv rfl)) rfl rfl ?_
      refine o_giveN (g_bin (evv rfl) (evv rfl) (by rfl)) (by simp only [inR]; omega) rfl ?_
      refine o_give (g_assign (evv rfl)) rfl rfl ?_
      refine o_nil ?_
      refine c_loop j ?_ ?_ (by repeat (first | exact trivial | refine ⟨rfl, ?_⟩ | refine envsub_v rfl (by first | rfl | (refine int_eq ?_; first | omega | (simp; omega) | (simp; done)) | (refine bool_eq ?_; first | (simp [*]; done) | (simp; done)) | (refine str_eq ?_; simp; done) | (refine ptr_eq ?_; omega) | fail) ?_)) ?_ <;> (try dsimp only)
      · omega
      · omega
      · rw [hf]
        exact Lay.ent
  · obtain rfl : i = 0 := by omega
    rw [List.drop_zero]
    have hv : (findN (rawN r).items nm).getD default = findV (rawN r).items nm := rfl
    rw [hv]
    refine r_exit rfl ?_
    refine c_code ?_
    refine r_seq ?_
    repeat (first | refine r_seq ?_ | refine c_code ?_ | refine c_blk ?_ | refine r_block ?_ | refine r_skip ?_)
    refine r_held (id := 13) ([blk y ⟨itmC (findV (rawN r).items nm), 54⟩, blk x ⟨itmC (findV (rawN r).items nm), 54⟩, blk p ⟨nodV (rawN r) qv iv, 27⟩, sl qv (frow digC 32 52 (rawN r).parts), sl iv (frow itmC 34 54 (rawN r).items), base W]) Mixed.h ?_
    refine h_give (i := 0) (by kernel_rfl) rfl (g_move (evv rfl)) rfl rfl ?_
    refine h_give (i := 1) (by kernel_rfl) rfl (g_move (evv rfl)) rfl rfl ?_
    refine h_give (i := 2) (by kernel_rfl) rfl (g_binB TyU.h (evv rfl) (evv rfl) (by rfl)) rfl rfl ?_
    simp only [beq_self_eq_true]
    refine h_give (i := 3) (by kernel_rfl) rfl (g_move (evv rfl)) rfl rfl ?_
    refine h_sure (i := 4) (by kernel_rfl) rfl rfl (g_loadW (evv rfl) (by rfl) (LenC.h _)) rfl rfl ?_
    refine h_sure (i := 5) (by kernel_rfl) rfl rfl (g_loadW (evv rfl) (by rfl) (LenC.h _)) rfl rfl ?_
    refine h_sure (i := 6) (by kernel_rfl) rfl rfl (g_eqS (by kernel_rfl) (evv rfl) (evv rfl) (by rfl)) rfl rfl ?_
    simp only [decide_true]
    refine h_give (i := 7) (by kernel_rfl) rfl (g_pick (b := true) (evv rfl) (fun _ => (evv rfl)) (fun h => by cases h)) rfl rfl ?_
    refine h_give (i := 8) (by kernel_rfl) rfl (g_move (evv rfl)) rfl rfl ?_
    refine h_sure (i := 9) (by kernel_rfl) rfl rfl (g_loadF (evv rfl) (by rfl) (by rfl)) rfl rfl ?_
    refine h_sure (i := 11) (by kernel_rfl) rfl rfl (g_loadF (evv rfl) (by rfl) (by rfl)) rfl rfl ?_
    refine h_one (i := 10) (by kernel_rfl) rfl (Lay.ent) ?_
    refine o_gyes rfl ?_
    (refine o_call rfl _ (Ent.refl _) (Kids_c _ _ _ _ (by assumption) (by assumption)) rfl ?_; rintro _ _ ⟨_, rfl⟩)
    refine o_nil ?_
    refine h_one (i := 12) (by kernel_rfl) rfl (Lay.ent) ?_
    refine o_gyes rfl ?_
    (refine o_call rfl _ (Ent.refl _) (RKids_c _ _ _ _ (by assumption) (by assumption)) rfl ?_; rintro _ _ ⟨_, rfl⟩)
    refine o_nil ?_
    refine h_one (i := 13) (by kernel_rfl) rfl (Lay.ent) ?_
    refine o_gyes rfl ?_
    (refine o_call rfl _ (Ent.refl _) (Items_c _ _ _ _ _) rfl ?_; rintro _ _ ⟨rfl, hLz⟩; obtain rfl := hLz.symm; clear hLz)
    refine o_nil ?_
    refine h_give (i := 14) (by kernel_rfl) rfl (g_pick (b := true) (evv rfl) (fun _ => (evv rfl)) (fun h => by cases h)) rfl rfl ?_
    refine h_give (i := 15) (by kernel_rfl) rfl (g_assign (evv rfl)) rfl rfl ?_
    refine h_done (by kernel_rfl) (Lay.ent) ?_
    refine c_code ?_
    first | refine r_ret (rs := [.tmp 4]) rfl rfl _ ((Lay.ent (L' := [base W]))) ?_ | refine c_end (rs := [.tmp 4]) rfl rfl _ ((Lay.ent (L' := [base W]))) ?_
    exact ⟨bool_eq (by simp), rfl⟩
theorem enc_turn {n : NodeS} (hn : nodeOk n) {b : List UInt8} (hb : b ≠ encN n) : (decN b = none) ∨ ∃ m, decN b = some m ∧ n ≠ m := by
  cases hd : decN b with
  | none => exact .inl rfl
  | some m =>
    obtain ⟨h1, h2⟩ := decN_canon hd
    exact .inr ⟨m, rfl, fun h => hb (by rw [h1, h])⟩
theorem xor_inj {a b c : Nat} (h : a ^^^ c = b ^^^ c) : a = b := by
  have := congrArg (· ^^^ c) h
  simpa [Nat.xor_assoc] using this
theorem xor8 (x : UInt8) {t : Int} (h0 : 1 ≤ t) (h1 : t ≤ 255) : ∃ c : UInt8, IntKind.u8.wrap ↑(BitVec.ofInt IntKind.u8.bits (x.toNat : Int) ^^^ BitVec.ofInt IntKind.u8.bits t).toNat = (c.toNat : Int) ∧ c ≠ x := by
  have hx := x.toNat_lt
  have e1 : (BitVec.ofInt IntKind.u8.bits (x.toNat : Int)).toNat = x.toNat := by
    show (BitVec.ofInt 8 (x.toNat : Int)).toNat = x.toNat
    rw [BitVec.toNat_ofInt]; omega
  have e2 : (BitVec.ofInt IntKind.u8.bits t).toNat = t.toNat := by
    show (BitVec.ofInt 8 t).toNat = t.toNat
    rw [BitVec.toNat_ofInt]; omega
  have hlt : x.toNat ^^^ t.toNat < 256 := Nat.xor_lt_two_pow (n := 8) hx (by omega)
  have e3 : (UInt8.ofNat (x.toNat ^^^ t.toNat)).toNat = x.toNat ^^^ t.toNat := by rw [UInt8.toNat_ofNat']; omega
  refine ⟨UInt8.ofNat (x.toNat ^^^ t.toNat), ?_, fun h => ?_⟩
  · rw [BitVec.toNat_xor, e1, e2, e3]
    exact wrap_in (by simp only [inR]; omega)
  · have h2 := congrArg UInt8.toNat h
    rw [e3, Nat.xor_comm] at h2
    have h3 : t.toNat ^^^ x.toNat = 0 ^^^ x.toNat := by rw [h2, Nat.zero_xor]
    have := xor_inj h3
    omega
theorem NodeTells_c (W : World) (r : RawS) (pv nv kv sv : Value) (at_ turn : Int) (hat : inR .i64 at_) (htu : inR .u8 turn) (hok : RawOk r) (h : RawR [base W] r pv nv kv sv) : Fn Try.prog 5 [agg (rawV r pv nv kv sv), .int .i64 at_, .int .u8 turn] [base W] fun w L' => w = .bool true ∧ L' = [base W] := by
  have ho := hok.ok
  simp only [inR] at hat htu
  refine fn_intro Try.func5 rfl Try.ntmps5 rfl (fun W0 => ?_)
  simp only [argE, rawV]
  refine r_seq ?_
  refine r_region (id := 0) ?_
  refine o_boxA (evv rfl) rfl (fun _ => ?_)
  refine o_give (g_assign (evv rfl)) rfl rfl ?_
  refine o_nil ?_
  refine c_code ?_
  refine r_seq ?_
  refine r_seq ?_
  refine r_region (id := 1) ?_
  (refine o_call rfl _ (Ent.refl _) (awake_c _) rfl ?_; rintro _ _ ⟨rfl, hLz⟩; obtain rfl := hLz.symm; clear hLz)
  refine o_give (g_not (evv rfl)) rfl rfl ?_
  refine o_nil ?_
  refine c_code ?_
  refine r_cond_false rfl ?_
  refine r_skip ?_
  refine c_code ?_
  refine r_seq ?_
  refine r_region (id := 3) ?_
  refine o_give (g_loadF (evv rfl) (by rfl) (by rfl)) rfl rfl ?_
  (refine o_call rfl _ (Ent.refl _) (mkNode_c _ _ _ _ _ _ (by repeat (first | assumption | refine RawR.tail ?_))) rfl ?_; rintro _ _ ⟨qv, iv, rfl, rfl⟩)
  refine o_alloc rfl rfl (fun _ => ?_)
  refine o_storeW (evv rfl) (evv rfl) (by first | rfl | assumption | exact LenC.h _ | (simp [bys, *]; done) | fail) (by first | (intro _ _ _; exact bys_one _) | exact AllOne.h | (intro _ _ _ u hu; simp at hu; rcases hu with rfl | rfl | rfl | rfl | rfl | rfl | rfl | rfl <;> rfl) | fail) (by first | rfl | exact (LenC.h _).trans rfl | exact (LenC.h _).trans (LenC.h _).symm | (simp [bys, *]; done) | (simp only [bys, List.length_map, *]; rfl) | fail) ?_
  refine o_nil ?_
  refine c_code ?_
  refine r_seq ?_
  refine r_region (id := 4) ?_
  refine o_give (g_loadF (evv rfl) (by rfl) (by rfl)) rfl rfl ?_
  (refine o_call rfl _ (Ent.refl _) (nodEnc_c _ _ _ _ (by assumption)) rfl ?_; rintro _ _ ⟨ev_, rfl, rfl⟩)
  refine o_give (g_move (evv rfl)) rfl rfl ?_
  refine o_give (g_extract (evv rfl) (by rfl)) rfl rfl ?_
  refine o_give (g_extract (evv rfl) (by rfl)) rfl rfl ?_
  refine o_give (g_assign (evv rfl)) rfl rfl ?_
  refine o_give (g_assign (evv rfl)) rfl rfl ?_
  refine o_nil ?_
  refine c_code ?_
  refine r_seq ?_
  refine r_seq ?_
  refine r_region (id := 5) ?_
  refine o_give (g_move (evv rfl)) rfl rfl ?_
  refine o_give (g_bin (evv rfl) (evv rfl) (by rfl)) rfl rfl ?_
  refine o_give (g_move (evv rfl)) rfl rfl ?_
  refine o_lazy rfl (fun hg => g_move (by first | exact evv rfl | exact evg rfl (by rw [hp]; rfl) | exact evg rfl hp | exact evg rfl hg | exact evg rfl (by first | (simp_all; done) | (simp [*]; done) | fail) | fail)) rfl rfl ?_
  refine o_lazy rfl (fun hg => g_bin (by first | exact evv rfl | exact evg rfl (by rw [hp]; rfl) | exact evg rfl hp | exact evg rfl hg | exact evg rfl (by first | (simp_all; done) | (simp [*]; done) | fail) | fail) (by first | exact evv rfl | exact evg rfl (by rw [hp]; rfl) | exact evg rfl hp | exact evg rfl hg | exact evg rfl (by first | (simp_all; done) | (simp [*]; done) | fail) | fail) (by rfl)) rfl rfl ?_
  refine o_give (g_pick_or (evv rfl) (evv rfl) (fun hp => (by first | exact evv rfl | exact evg rfl (by rw [hp]; rfl) | exact evg rfl hp | exact evg rfl hg | exact evg rfl (by first | (simp_all; done) | (simp [*]; done) | fail) | fail))) rfl rfl ?_
  refine o_nil ?_
  refine c_code ?_
  rename_i q p
  refine r_cond rfl (fun hc => ?_) (fun hc => ?_) <;> (try simp only [decide_eq_true_eq, decide_eq_false_iff_not, Bool.and_eq_true, Bool.or_eq_true, Bool.not_eq_true', Bool.and_eq_false_iff, Bool.or_eq_false_iff, Bool.not_eq_false', Bool.not_eq_true, Bool.not_eq_false, Bool.true_eq_false, Bool.false_eq_true, Int.not_lt, Int.not_le, not_and, not_or, ne_eq] at hc)
  · refine r_seq ?_
    refine r_region (id := 6) ?_
    refine o_give (g_assign (evv rfl)) rfl rfl ?_
    refine o_nil ?_
    refine c_code ?_
    first | refine r_ret (rs := [.tmp 6]) rfl rfl _ ((Lay.ent (L' := [base W]))) ?_ | refine c_end (rs := [.tmp 6]) rfl rfl _ ((Lay.ent (L' := [base W]))) ?_
    exact ⟨rfl, rfl⟩
  · obtain ⟨h1, h2⟩ := hc
    have hn : nodeOk (rawN r) := by
      by_cases hn : nodeOk (rawN r)
      · exact hn
      · rw [encE, if_neg hn] at h1
        exact absurd h1 (by decide)
    have e2 : encT (rawN r) = encN (rawN r) := if_pos hn
    rw [e2]
    obtain ⟨hp1, hp2⟩ := encN_len hn
    have het := fun b hb => enc_turn (b := b) hn hb
    generalize encN (rawN r) = B at *
    have hm1 : 0 ≤ at_ % 18446744073709551616 % (B.length : Int) := Int.emod_nonneg _ (by omega)
    have hm2 : at_ % 18446744073709551616 % (B.length : Int) < B.length := Int.emod_lt_of_pos _ (by omega)
    obtain ⟨j, hj⟩ := Int.eq_ofNat_of_zero_le hm1
    refine r_skip ?_
    refine c_code ?_
    refine r_seq ?_
    refine r_region (id := 7) ?_
    refine o_give (g_move (evv rfl)) rfl rfl ?_
    refine o_give (g_move (evv rfl)) rfl rfl ?_
    refine o_giveU (g_conv TyU.h TyU.h (evv rfl)) (by rfl) rfl ?_
    refine o_give (g_move (evv rfl)) rfl rfl ?_
    refine o_give (g_lenM (evv rfl)) rfl rfl ?_
    refine o_giveN (g_conv TyU.h TyU.h (evv rfl)) (by simp only [inR]; omega) rfl ?_
    refine o_give (g_remP (evv rfl) (evv rfl) (by omega) (by omega)) rfl rfl ?_
    refine o_giveN (g_conv TyU.h TyU.h (evv rfl)) (by simp only [inR]; omega) rfl ?_
    refine o_give (g_idxM (evv rfl) (evv rfl) (by rfl) (by omega) (by first | omega | (have := of_decide_eq_true hg; omega) | (simp at hg; omega) | (simp only [List.length_set, List.length_append, List.length_cons, List.length_nil, List.length_map, List.length_take, List.length_drop, List.length_replicate]; omega))) rfl rfl ?_
    refine o_give (g_loadM (evv rfl) (by rfl) (by first | omega | (have := of_decide_eq_true hg; omega) | (simp at hg; omega) | (simp only [List.length_set, List.length_append, List.length_cons, List.length_nil, List.length_map, List.length_take, List.length_drop, List.length_replicate]; omega))) rfl rfl ?_
    refine o_give (g_move (evv rfl)) rfl rfl ?_
    refine o_give (g_bin (evv rfl) (evv rfl) (by rfl)) rfl rfl ?_
    refine o_give (g_idxM (evv rfl) (evv rfl) (by rfl) (by omega) (by first | omega | (have := of_decide_eq_true hg; omega) | (simp at hg; omega) | (simp only [List.length_set, List.length_append, List.length_cons, List.length_nil, List.length_map, List.length_take, List.length_drop, List.length_replicate]; omega))) rfl rfl ?_
    have hjl : j < B.length := by omega
    rw [hj, show ((j : Nat) : Int).toNat = j from rfl]
    obtain ⟨c, hc, hcx⟩ := xor8 (B.getD j default) (t := turn) (by omega) (by omega)
    rw [hc]
    refine o_storeM c (evv rfl) (evv rfl) rfl (by rfl) hjl ?_
    refine o_nil ?_
    refine c_code ?_
    refine r_seq ?_
    have hbl : (B.set j c).length ≤ 140737488355000 := by rw [List.length_set]; omega
    have hne : B.set j c ≠ B := fun h => by
      have h2 := congrArg (fun l => l.getD j default) h
      simp [List.getD_eq_getElem?_getD, hjl] at h2
      exact hcx (by simp [List.getD_eq_getElem?_getD, hjl, h2])
    refine r_region (id := 8) ?_
    refine o_give (g_move (evv rfl)) rfl rfl ?_
    (refine o_call rfl _ (Ent.refl _) (nDec_c _ _ _ (by first | assumption | omega)) rfl ?_; rintro _ _ ⟨pv, iv, rfl, rfl⟩)
    refine o_give (g_move (evv rfl)) rfl rfl ?_
    refine o_give (g_extract (evv rfl) (by rfl)) rfl rfl ?_
    refine o_give (g_extract (evv rfl) (by rfl)) rfl rfl ?_
    refine o_alloc rfl rfl (fun _ => ?_)
    refine o_storeW (evv rfl) (evv rfl) (by first | rfl | assumption | exact LenC.h _ | (simp [bys, *]; done) | fail) (by first | (intro _ _ _; exact bys_one _) | exact AllOne.h | (intro _ _ _ u hu; simp at hu; rcases hu with rfl | rfl | rfl | rfl | rfl | rfl | rfl | rfl <;> rfl) | fail) (by first | rfl | exact (LenC.h _).trans rfl | exact (LenC.h _).trans (LenC.h _).symm | (simp [bys, *]; done) | (simp only [bys, List.length_map, *]; rfl) | fail) ?_
    refine o_give (g_assign (evv rfl)) rfl rfl ?_
    refine o_nil ?_
    refine c_code ?_
    refine r_seq ?_
    refine r_region (id := 9) ?_
    refine o_give (g_move (evv rfl)) rfl rfl ?_
    refine o_give (g_bin (evv rfl) (evv rfl) (by rfl)) rfl rfl ?_
    refine o_give (g_move (evv rfl)) rfl rfl ?_
    refine o_lazy rfl (fun hg => g_fld (evv rfl)) rfl rfl ?_
    refine o_lazy rfl (fun hg => g_load (evg rfl hg) (by rfl) (by rfl)) rfl rfl ?_
    refine o_lazy rfl (fun hg => g_bin (by first | exact evv rfl | exact evg rfl (by rw [hp]; rfl) | exact evg rfl hp | exact evg rfl hg | exact evg rfl (by first | (simp_all; done) | (simp [*]; done) | fail) | fail) (by first | exact evv rfl | exact evg rfl (by rw [hp]; rfl) | exact evg rfl hp | exact evg rfl hg | exact evg rfl (by first | (simp_all; done) | (simp [*]; done) | fail) | fail) (by rfl)) rfl rfl ?_
    refine o_give (g_pick_and (evv rfl) (evv rfl) (fun hp => (by first | exact evv rfl | exact evg rfl (by rw [hp]; rfl) | exact evg rfl hp | exact evg rfl hg | exact evg rfl (by first | (simp_all; done) | (simp [*]; done) | fail) | fail))) rfl rfl ?_
    refine o_give (g_move (evv rfl)) rfl rfl ?_
    refine o_lazy rfl (fun hg => g_move (by first | exact evv rfl | exact evg rfl (by rw [hp]; rfl) | exact evg rfl hp | exact evg rfl hg | exact evg rfl (by first | (simp_all; done) | (simp [*]; done) | fail) | fail)) rfl rfl ?_
    refine o_lazy rfl (fun hg => g_bin (by first | exact evv rfl | exact evg rfl (by rw [hp]; rfl) | exact evg rfl hp | exact evg rfl hg | exact evg rfl (by first | (simp_all; done) | (simp [*]; done) | fail) | fail) (by first | exact evv rfl | exact evg rfl (by rw [hp]; rfl) | exact evg rfl hp | exact evg rfl hg | exact evg rfl (by first | (simp_all; done) | (simp [*]; done) | fail) | fail) (by rfl)) rfl rfl ?_
    refine o_lazy rfl (fun hg => g_move (by first | exact evv rfl | exact evg rfl (by rw [hp]; rfl) | exact evg rfl hp | exact evg rfl hg | exact evg rfl (by first | (simp_all; done) | (simp [*]; done) | fail) | fail)) rfl rfl ?_
    refine o_lazy rfl (fun hg => g_loadF (evv rfl) (by rfl) (by rfl)) rfl rfl ?_
    refine o_lazy rfl (fun hg => g_loadF (evv rfl) (by rfl) (by rfl)) rfl rfl ?_
    rcases het _ hne with hd | ⟨m, hd, hm⟩
    · have hM : decM (B.set j c) = zeroNode := by rw [decM, hd]; rfl
      have g1 : decide ((if decN (B.set j c) = none then 21 else 0) = (21 : Int)) = true := by rw [hd]; rfl
      have g2 : decide ((decM (B.set j c)).kind = 0) = true := by rw [hM]; rfl
      simp only [g1, g2, Bool.and_self, Bool.not_true, Bool.false_and]
      refine o_lazy (v0 := undef) rfl (fun hg => absurd hg (by first | (simp; done) | fail)) rfl rfl ?_
      refine o_lazy (v0 := undef) rfl (fun hg => absurd hg (by first | (simp; done) | fail)) rfl rfl ?_
      refine o_lazy (v0 := undef) rfl (fun hg => absurd hg (by first | (simp; done) | fail)) rfl rfl ?_
      refine o_give (g_pick (b := true) (evv rfl) (fun _ => (evv rfl)) (fun h => by cases h)) rfl rfl ?_
      refine o_give (g_assign (evv rfl)) rfl rfl ?_
      refine o_nil ?_
      refine c_code ?_
      skip
      first | refine r_ret (rs := [.tmp 6]) rfl rfl _ ((Lay.ent (L' := [base W]))) ?_ | refine c_end (rs := [.tmp 6]) rfl rfl _ ((Lay.ent (L' := [base W]))) ?_
      exact ⟨bool_eq (by simp), rfl⟩
    · have hM : decM (B.set j c) = m := by rw [decM, hd]; rfl
      have g1 : decide ((if decN (B.set j c) = none then 21 else 0) = (21 : Int)) = false := by rw [hd]; rfl
      have g2 : decide ((if decN (B.set j c) = none then 21 else 0) = (0 : Int)) = true := by rw [hd]; rfl
      simp only [g1, g2, Bool.false_and, Bool.not_false, Bool.and_self]
      refine o_sure (t := 55) rfl rfl ?_
      refine o_sure (t := 56) rfl rfl ?_
      refine o_sure (t := 57) rfl rfl ?_
      refine o_gyes rfl ?_
      (refine o_call rfl _ (Ent.refl _) (SameN_c _ _ _ _ _ _ _) rfl ?_; rintro _ _ ⟨rfl, hLz⟩; obtain rfl := hLz.symm; clear hLz)
      refine o_gyes rfl ?_
      refine o_give (g_not (evv rfl)) rfl rfl ?_
      refine o_gyes rfl ?_
      refine o_give (g_pick (b := true) (evv rfl) (fun _ => (evv rfl)) (fun h => by cases h)) rfl rfl ?_
      refine o_give (g_pick (b := false) (evv rfl) (fun h => by cases h) (fun _ => (evv rfl))) rfl rfl ?_
      refine o_give (g_assign (evv rfl)) rfl rfl ?_
      refine o_nil ?_
      refine c_code ?_
      skip
      rw [hM]
      first | refine r_ret (rs := [.tmp 6]) rfl rfl _ ((Lay.ent (L' := [base W]))) ?_ | refine c_end (rs := [.tmp 6]) rfl rfl _ ((Lay.ent (L' := [base W]))) ?_
      exact ⟨bool_eq (by simp [hm]), rfl⟩
end VK
