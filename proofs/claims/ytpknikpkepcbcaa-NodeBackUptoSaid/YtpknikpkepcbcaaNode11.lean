/- Laws of nodes, walked: what is written, what is read. Conditions: texts of a machine's size. -/
import Derived.Test.YtpknikpkepcbcaaNode4
import Derived.Test.YtpknikpkepcbcaaNode7
import Derived.Test.YtpknikpkepcbcaaNode10
namespace VK
open Go Go.Proofs
set_option linter.unusedSimpArgs false
set_option linter.unusedVariables false
set_option maxRecDepth 100000
set_option maxHeartbeats 40000000
theorem nCheck_c (L : List Atom) (n : NodeS) (pv iv : Value) (ho : n.ok) [r1 : Rd L pv (frow digC 32 52 n.parts)] [r2 : Rd L iv (frow itmC 34 54 n.items)] : Fn Try.prog 16 [agg (nodV n pv iv)] L fun w L' => w = .int .i64 (encE n) ∧ L' = L := by
  refine fn_intro Try.func16 rfl Try.ntmps16 rfl (fun W0 => ?_)
  simp only [argE, nodV]
  refine r_seq ?_
  refine r_region (id := 0) ?_
  refine o_boxA (evv rfl) rfl (fun _ => ?_)
  refine o_give (g_assign (evv rfl)) rfl rfl ?_
  refine o_nil ?_
  refine c_code ?_
  refine r_seq ?_
  refine r_seq ?_
  refine r_region (id := 1) ?_
  refine o_give (g_loadF (evv rfl) (by rfl) (by rfl)) rfl rfl ?_
  (refine o_call rfl _ (Ent.refl _) (rightN_c _ _ _ _ (by assumption)) rfl ?_; rintro _ _ ⟨rfl, hLz⟩; obtain rfl := hLz.symm; clear hLz)
  refine o_give (g_not (evv rfl)) rfl rfl ?_
  refine o_nil ?_
  refine c_code ?_
  refine r_cond rfl (fun hc => ?_) (fun hc => ?_) <;> (try simp only [decide_eq_true_eq, decide_eq_false_iff_not, Bool.and_eq_true, Bool.or_eq_true, Bool.not_eq_true', Bool.and_eq_false_iff, Bool.or_eq_false_iff, Bool.not_eq_false', Bool.not_eq_true, Bool.not_eq_false, Bool.true_eq_false, Bool.false_eq_true, Int.not_lt, Int.not_le, not_and, not_or, ne_eq] at hc)
  · rw [encE, if_neg hc]
    refine r_seq ?_
    refine r_region (id := 2) ?_
    refine o_give (g_assign (evv rfl)) rfl rfl ?_
    refine o_nil ?_
    refine c_code ?_
    first | refine r_ret (rs := [.tmp 2]) rfl rfl _ (Ent.drop) ?_ | refine c_end (rs := [.tmp 2]) rfl rfl _ (Ent.drop) ?_
    exact ⟨rfl, rfl⟩
  · rw [encE, if_pos hc]
    refine r_skip ?_
    refine c_code ?_
    refine r_seq ?_
    refine r_region (id := 3) ?_
    refine o_give (g_assign (evv rfl)) rfl rfl ?_
    refine o_nil ?_
    refine c_code ?_
    first | refine r_ret (rs := [.tmp 2]) rfl rfl _ (Ent.drop) ?_ | refine c_end (rs := [.tmp 2]) rfl rfl _ (Ent.drop) ?_
    exact ⟨rfl, rfl⟩
def RawOk (r : RawS) : Prop := inR .i64 r.kind ∧ r.data.length ≤ 9223372036854775807 ∧ inR .i64 r.size ∧ (∀ s ∈ r.names, s.length ≤ 9223372036854775807) ∧ (∀ k ∈ r.kinds, inR .i64 k)
theorem RawOk.ok {r : RawS} (h : RawOk r) : (rawN r).ok := by
  obtain ⟨h1, h2, h3, h4, h5⟩ := h
  refine ⟨h1, h2, h3, fun x hx => ?_⟩
  obtain ⟨i, hi, rfl⟩ := List.mem_map.1 hx
  have hi := List.mem_range.1 hi
  refine ⟨h4 _ (by simp [itemAt, hi]), ?_⟩
  show inR .i64 (kindAt r i)
  unfold kindAt
  split
  · rename_i hk
    exact h5 _ (by simp [hk])
  · simp only [inR]; omega
theorem enc_ab : encN ⟨1, [97, 98], 0, [], []⟩ = [1, 2, 97, 98] := by
  have h1 : num 1 = [1] := num01.1
  have h2 : num 2 = [2] := by rw [num_small (by omega)]; rfl
  simp only [encN, if_true, textB, show Int.toNat 1 = 1 from rfl, h1, show ([97, 98] : List UInt8).length = 2 from rfl, h2]
  rfl
theorem awake_c (L : List Atom) : Fn Try.prog 9 [] L fun w L' => w = .bool true ∧ L' = L := by
  have e1 : encT ⟨1, [97, 98], 0, [], []⟩ = [1, 2, 97, 98] := by rw [encT, if_pos (by decide), enc_ab]
  have e2 : encE ⟨1, [97, 98], 0, [], []⟩ = 0 := by rw [encE, if_pos (by decide)]
  have e3 : decN [3, 0] = some ⟨3, [], 0, [], []⟩ := by decide
  have e4 : decN [1, 0] = none := by decide
  have e5 : decM [3, 0] = ⟨3, [], 0, [], []⟩ := by rw [decM, e3]; rfl
  have b1 : ([3, 0] : List UInt8).length ≤ 140737488355000 := by decide
  have b2 : ([1, 0] : List UInt8).length ≤ 140737488355000 := by decide
  refine fn_intro Try.func9 rfl Try.ntmps9 rfl (fun W0 => ?_)
  simp only [argE]
  refine r_seq ?_
  refine r_region (id := 0) ?_
  refine o_give (g_assign (evv rfl)) rfl rfl ?_
  refine o_nil ?_
  refine c_code ?_
  refine r_seq ?_
  refine r_region (id := 1) ?_
  refine o_give (g_buildC rfl (by rfl)) rfl rfl ?_
  refine o_call rfl _ (Ent.refl _) (nodEnc_c (r1 := Rd.nilF digC 32 _) (r2 := Rd.nilF itmC 34 _) _ ⟨1, [97, 98], 0, [], []⟩ (.slice none 0 0) (.slice none 0 0) ⟨by simp only [inR]; omega, by decide, by simp only [inR]; omega, by simp⟩) rfl ?_
  rintro _ _ ⟨ev_, rfl, rfl⟩
  rw [e1, e2]
  refine o_give (g_move (evv rfl)) rfl rfl ?_
  refine o_give (g_extract (evv rfl) (by rfl)) rfl rfl ?_
  refine o_give (g_extract (evv rfl) (by rfl)) rfl rfl ?_
  refine o_give (g_assign (evv rfl)) rfl rfl ?_
  refine o_give (g_assign (evv rfl)) rfl rfl ?_
  refine o_nil ?_
  refine c_code ?_
  refine r_seq ?_
  refine r_region (id := 2) ?_
  refine o_litBs rfl rfl (by simp only [okB, and_true]; omega) rfl (by rfl) rfl rfl (fun _ => ?_)
  (refine o_call rfl _ (Ent.refl _) (nDec_c _ _ _ (by first | assumption | omega)) rfl ?_; rintro _ _ ⟨pv, iv, rfl, rfl⟩)
  refine o_give (g_move (evv rfl)) rfl rfl ?_
  refine o_give (g_extract (evv rfl) (by rfl)) rfl rfl ?_
  refine o_give (g_extract (evv rfl) (by rfl)) rfl rfl ?_
  refine o_alloc rfl rfl (fun _ => ?_)
  refine o_storeW (evv rfl) (evv rfl) (by first | rfl | assumption | exact LenC.h _ | (simp [bys, *]; done) | fail) (by first | (intro _ _ _; exact bys_one _) | exact AllOne.h | (intro _ _ _ u hu; simp at hu; rcases hu with rfl | rfl | rfl | rfl | rfl | rfl | rfl | rfl <;> rfl) | fail) (by first | rfl | exact (LenC.h _).trans rfl | exact (LenC.h _).trans (LenC.h _).symm | (simp [bys, *]; done) | (simp only [bys, List.length_map, *]; rfl) | fail) ?_
  refine o_give (g_assign (evv rfl)) rfl rfl ?_
  refine o_nil ?_
  refine c_code ?_
  refine r_seq ?_
  refine r_region (id := 3) ?_
  refine o_litBs rfl rfl (by simp only [okB, and_true]; omega) rfl (by rfl) rfl rfl (fun _ => ?_)
  (refine o_call rfl _ (Ent.refl _) (nDec_c _ _ _ (by first | assumption | omega)) rfl ?_; rintro _ _ ⟨pv, iv, rfl, rfl⟩)
  refine o_give (g_move (evv rfl)) rfl rfl ?_
  refine o_give (g_extract (evv rfl) (by rfl)) rfl rfl ?_
  refine o_give (g_extract (evv rfl) (by rfl)) rfl rfl ?_
  refine o_alloc rfl rfl (fun _ => ?_)
  refine o_storeW (evv rfl) (evv rfl) (by first | rfl | assumption | exact LenC.h _ | (simp [bys, *]; done) | fail) (by first | (intro _ _ _; exact bys_one _) | exact AllOne.h | (intro _ _ _ u hu; simp at hu; rcases hu with rfl | rfl | rfl | rfl | rfl | rfl | rfl | rfl <;> rfl) | fail) (by first | rfl | exact (LenC.h _).trans rfl | exact (LenC.h _).trans (LenC.h _).symm | (simp [bys, *]; done) | (simp only [bys, List.length_map, *]; rfl) | fail) ?_
  refine o_give (g_assign (evv rfl)) rfl rfl ?_
  refine o_nil ?_
  refine c_code ?_
  refine r_seq ?_
  refine r_region (id := 4) ?_
  refine o_give (g_move (evv rfl)) rfl rfl ?_
  refine o_give (g_b2sM (evv rfl)) rfl rfl ?_
  refine o_give (g_binS (evv rfl) (evv rfl) (by rfl)) rfl rfl ?_
  refine o_give (g_move (evv rfl)) rfl rfl ?_
  refine o_gyes rfl ?_
  refine o_give (g_move (evv rfl)) rfl rfl ?_
  refine o_gyes rfl ?_
  refine o_give (g_bin (evv rfl) (evv rfl) (by rfl)) rfl rfl ?_
  refine o_give (g_pick (b := true) (evv rfl) (fun _ => (evv rfl)) (fun h => by cases h)) rfl rfl ?_
  refine o_give (g_move (evv rfl)) rfl rfl ?_
  refine o_gyes rfl ?_
  refine o_give (g_move (evv rfl)) rfl rfl ?_
  refine o_gyes rfl ?_
  refine o_give (g_bin (evv rfl) (evv rfl) (by rfl)) rfl rfl ?_
  refine o_give (g_pick (b := true) (evv rfl) (fun _ => (evv rfl)) (fun h => by cases h)) rfl rfl ?_
  refine o_give (g_move (evv rfl)) rfl rfl ?_
  refine o_gyes rfl ?_
  refine o_give (g_fld (evv rfl)) rfl rfl ?_
  refine o_gyes rfl ?_
  refine o_give (g_load (evv rfl) (by rfl) (by rfl)) rfl rfl ?_
  refine o_gyes rfl ?_
  refine o_give (g_bin (evv rfl) (evv rfl) (by rfl)) rfl rfl ?_
  refine o_give (g_pick (b := true) (evv rfl) (fun _ => (evv rfl)) (fun h => by cases h)) rfl rfl ?_
  refine o_give (g_move (evv rfl)) rfl rfl ?_
  refine o_gyes rfl ?_
  refine o_give (g_move (evv rfl)) rfl rfl ?_
  refine o_gyes rfl ?_
  refine o_give (g_bin (evv rfl) (evv rfl) (by rfl)) rfl rfl ?_
  refine o_give (g_pick (b := true) (evv rfl) (fun _ => (evv rfl)) (fun h => by cases h)) rfl rfl ?_
  refine o_give (g_assign (evv rfl)) rfl rfl ?_
  refine o_nil ?_
  refine c_code ?_
  simp only [show bsOf [Value.int IntKind.u8 1, Value.int IntKind.u8 0] = [1, 0] from rfl, show bsOf [Value.int IntKind.u8 3, Value.int IntKind.u8 0] = [3, 0] from rfl, e3, e4, e5]
  skip
  first | refine r_ret (rs := [.tmp 0]) rfl rfl _ ((Lay.ent (L' := L))) ?_ | refine c_end (rs := [.tmp 0]) rfl rfl _ ((Lay.ent (L' := L))) ?_
  exact ⟨rfl, rfl⟩
theorem NodeReads_c (W : World) (vb : Value) (b : List UInt8) (hb : b.length ≤ 1048576) [rd : Rd [base W] vb (mrow by8 5 b)] : Fn Try.prog 3 [vb] [base W] fun w L' => w = .bool true ∧ L' = [base W] := by
  refine fn_intro Try.func3 rfl Try.ntmps3 rfl (fun W0 => ?_)
  simp only [argE]
  refine r_seq ?_
  refine r_region (id := 0) ?_
  refine o_give (g_assign (evv rfl)) rfl rfl ?_
  refine o_nil ?_
  refine c_code ?_
  refine r_seq ?_
  refine r_seq ?_
  refine r_region (id := 1) ?_
  (refine o_call rfl _ (Ent.refl _) (awake_c _) rfl ?_; rintro _ _ ⟨rfl, hLz⟩; obtain rfl := hLz.symm; clear hLz)
  refine o_give (g_not (evv rfl)) rfl rfl ?_
  refine o_nil ?_
  refine c_code ?_
  refine r_cond_false rfl ?_
  refine r_skip ?_
  refine c_code ?_
  refine r_seq ?_
  refine r_region (id := 3) ?_
  refine o_give (g_move (evv rfl)) rfl rfl ?_
  (refine o_call rfl _ (Ent.refl _) (nDec_c _ _ _ (by first | assumption | omega)) rfl ?_; rintro _ _ ⟨pv, iv, rfl, rfl⟩)
  refine o_give (g_move (evv rfl)) rfl rfl ?_
  refine o_give (g_extract (evv rfl) (by rfl)) rfl rfl ?_
  refine o_give (g_extract (evv rfl) (by rfl)) rfl rfl ?_
  refine o_alloc rfl rfl (fun _ => ?_)
  refine o_storeW (evv rfl) (evv rfl) (by first | rfl | assumption | exact LenC.h _ | (simp [bys, *]; done) | fail) (by first | (intro _ _ _; exact bys_one _) | exact AllOne.h | (intro _ _ _ u hu; simp at hu; rcases hu with rfl | rfl | rfl | rfl | rfl | rfl | rfl | rfl <;> rfl) | fail) (by first | rfl | exact (LenC.h _).trans rfl | exact (LenC.h _).trans (LenC.h _).symm | (simp [bys, *]; done) | (simp only [bys, List.length_map, *]; rfl) | fail) ?_
  refine o_give (g_assign (evv rfl)) rfl rfl ?_
  refine o_nil ?_
  refine c_code ?_
  refine r_seq ?_
  refine r_region (id := 4) ?_
  refine o_give (g_move (evv rfl)) rfl rfl ?_
  (refine o_call rfl _ (Ent.refl _) (RnDec_c _ _ _ (by first | assumption | omega)) rfl ?_; rintro _ _ ⟨pv, iv, rfl, rfl⟩)
  refine o_give (g_move (evv rfl)) rfl rfl ?_
  refine o_give (g_extract (evv rfl) (by rfl)) rfl rfl ?_
  refine o_give (g_extract (evv rfl) (by rfl)) rfl rfl ?_
  refine o_alloc rfl rfl (fun _ => ?_)
  refine o_storeW (evv rfl) (evv rfl) (by first | rfl | assumption | exact LenC.h _ | (simp [bys, *]; done) | fail) (by first | (intro _ _ _; exact bys_one _) | exact AllOne.h | (intro _ _ _ u hu; simp at hu; rcases hu with rfl | rfl | rfl | rfl | rfl | rfl | rfl | rfl <;> rfl) | fail) (by first | rfl | exact (LenC.h _).trans rfl | exact (LenC.h _).trans (LenC.h _).symm | (simp [bys, *]; done) | (simp only [bys, List.length_map, *]; rfl) | fail) ?_
  refine o_give (g_assign (evv rfl)) rfl rfl ?_
  refine o_nil ?_
  refine c_code ?_
  refine r_seq ?_
  refine r_region (id := 5) ?_
  refine o_give (g_move (evv rfl)) rfl rfl ?_
  refine o_give (g_bin (evv rfl) (evv rfl) (by rfl)) rfl rfl ?_
  refine o_give (g_move (evv rfl)) rfl rfl ?_
  refine o_give (g_binB TyU.h (evv rfl) (evv rfl) (by rfl)) rfl rfl ?_
  refine o_give (g_move (evv rfl)) rfl rfl ?_
  refine o_lazy rfl (fun hg => g_move (by first | exact evv rfl | exact evg rfl (by rw [hp]; rfl) | exact evg rfl hp | exact evg rfl hg | exact evg rfl (by first | (simp_all; done) | (simp [*]; done) | fail) | fail)) rfl rfl ?_
  refine o_lazy rfl (fun hg => g_move (by first | exact evv rfl | exact evg rfl (by rw [hp]; rfl) | exact evg rfl hp | exact evg rfl hg | exact evg rfl (by first | (simp_all; done) | (simp [*]; done) | fail) | fail)) rfl rfl ?_
  refine o_lazy rfl (fun hg => g_move (by first | exact evv rfl | exact evg rfl (by rw [hp]; rfl) | exact evg rfl hp | exact evg rfl hg | exact evg rfl (by first | (simp_all; done) | (simp [*]; done) | fail) | fail)) rfl rfl ?_
  refine o_lazy rfl (fun hg => g_bin (by first | exact evv rfl | exact evg rfl (by rw [hp]; rfl) | exact evg rfl hp | exact evg rfl hg | exact evg rfl (by first | (simp_all; done) | (simp [*]; done) | fail) | fail) (by first | exact evv rfl | exact evg rfl (by rw [hp]; rfl) | exact evg rfl hp | exact evg rfl hg | exact evg rfl (by first | (simp_all; done) | (simp [*]; done) | fail) | fail) (by rfl)) rfl rfl ?_
  refine o_lazy rfl (fun hg => g_pick_or (by first | exact evv rfl | exact evg rfl (by rw [hp]; rfl) | exact evg rfl hp | exact evg rfl hg | exact evg rfl (by first | (simp_all; done) | (simp [*]; done) | fail) | fail) (by first | exact evv rfl | exact evg rfl (by rw [hp]; rfl) | exact evg rfl hp | exact evg rfl hg | exact evg rfl (by first | (simp_all; done) | (simp [*]; done) | fail) | fail) (fun hp => (by first | exact evv rfl | exact evg rfl (by rw [hp]; rfl) | exact evg rfl hp | exact evg rfl hg | exact evg rfl (by first | (simp_all; done) | (simp [*]; done) | fail) | fail))) rfl rfl ?_
  refine o_give (g_pick_and (evv rfl) (evv rfl) (fun hp => (by first | exact evv rfl | exact evg rfl (by rw [hp]; rfl) | exact evg rfl hp | exact evg rfl hg | exact evg rfl (by first | (simp_all; done) | (simp [*]; done) | fail) | fail))) rfl rfl ?_
  refine o_give (g_move (evv rfl)) rfl rfl ?_
  refine o_lazy rfl (fun hg => g_loadF (evv rfl) (by rfl) (by rfl)) rfl rfl ?_
  refine o_lazy rfl (fun hg => g_loadF (evv rfl) (by rfl) (by rfl)) rfl rfl ?_
  have hg : ((decide ((if decN b = none then 21 else 0) = (0 : Int)) == decide (decN b ≠ none)) && (decide (decN b ≠ none) || decide ((if decN b = none then 21 else 0) = (21 : Int)))) = true := by cases decN b <;> simp
  refine o_sure (t := 31) rfl hg ?_
  refine o_sure (t := 32) rfl hg ?_
  rw [hg]
  refine o_gyes rfl ?_
  (refine o_call rfl _ (Ent.refl _) (SameN_c _ _ _ _ _ _ _) rfl ?_; rintro _ _ ⟨rfl, hLz⟩; obtain rfl := hLz.symm; clear hLz)
  refine o_give (g_pick (b := true) (evv rfl) (fun _ => (evv rfl)) (fun h => by cases h)) rfl rfl ?_
  refine o_give (g_assign (evv rfl)) rfl rfl ?_
  refine o_nil ?_
  refine c_code ?_
  skip
  first | refine r_ret (rs := [.tmp 2]) rfl rfl _ ((Lay.ent (L' := [base W]))) ?_ | refine c_end (rs := [.tmp 2]) rfl rfl _ ((Lay.ent (L' := [base W]))) ?_
  exact ⟨bool_eq (by simp), rfl⟩
theorem NodeWrites_c (W : World) (r : RawS) (pv nv kv sv : Value) (hok : RawOk r) (h : RawR [base W] r pv nv kv sv) : Fn Try.prog 6 [agg (rawV r pv nv kv sv)] [base W] fun w L' => w = .bool true ∧ L' = [base W] := by
  have ho := hok.ok
  refine fn_intro Try.func6 rfl Try.ntmps6 rfl (fun W0 => ?_)
  simp only [argE, rawV]
  refine r_seq ?_
  refine r_region (id := 0) ?_
  refine o_boxA (evv rfl) rfl (fun _ => ?_)
  refine o_give (g_assign (evv rfl)) rfl rfl ?_
  refine o_nil ?_
  refine c_code ?_
  refine r_seq ?_
  refine r_seq ?_
  refine r_region (id := 1) ?_
  (refine o_call rfl _ (Ent.refl _) (awake_c _) rfl ?_; rintro _ _ ⟨rfl, hLz⟩; obtain rfl := hLz.symm; clear hLz)
  refine o_give (g_not (evv rfl)) rfl rfl ?_
  refine o_nil ?_
  refine c_code ?_
  refine r_cond_false rfl ?_
  refine r_skip ?_
  refine c_code ?_
  refine r_seq ?_
  refine r_region (id := 3) ?_
  refine o_give (g_loadF (evv rfl) (by rfl) (by rfl)) rfl rfl ?_
  (refine o_call rfl _ (Ent.refl _) (mkNode_c _ _ _ _ _ _ (by repeat (first | assumption | refine RawR.tail ?_))) rfl ?_; rintro _ _ ⟨qv, iv, rfl, rfl⟩)
  refine o_alloc rfl rfl (fun _ => ?_)
  refine o_storeW (evv rfl) (evv rfl) (by first | rfl | assumption | exact LenC.h _ | (simp [bys, *]; done) | fail) (by first | (intro _ _ _; exact bys_one _) | exact AllOne.h | (intro _ _ _ u hu; simp at hu; rcases hu with rfl | rfl | rfl | rfl | rfl | rfl | rfl | rfl <;> rfl) | fail) (by first | rfl | exact (LenC.h _).trans rfl | exact (LenC.h _).trans (LenC.h _).symm | (simp [bys, *]; done) | (simp only [bys, List.length_map, *]; rfl) | fail) ?_
  refine o_nil ?_
  refine c_code ?_
  refine r_seq ?_
  refine r_region (id := 4) ?_
  refine o_give (g_loadF (evv rfl) (by rfl) (by rfl)) rfl rfl ?_
  (refine o_call rfl _ (Ent.refl _) (nodEnc_c _ _ _ _ (by assumption)) rfl ?_; rintro _ _ ⟨ev_, rfl, rfl⟩)
  refine o_give (g_move (evv rfl)) rfl rfl ?_
  refine o_give (g_extract (evv rfl) (by rfl)) rfl rfl ?_
  refine o_give (g_extract (evv rfl) (by rfl)) rfl rfl ?_
  refine o_give (g_assign (evv rfl)) rfl rfl ?_
  refine o_give (g_assign (evv rfl)) rfl rfl ?_
  refine o_nil ?_
  refine c_code ?_
  refine r_seq ?_
  refine r_seq ?_
  refine r_region (id := 5) ?_
  refine o_give (g_loadF (evv rfl) (by rfl) (by rfl)) rfl rfl ?_
  (refine o_call rfl _ (Ent.refl _) (RCheckN_c _ _ _ _ (by assumption)) rfl ?_; rintro _ _ ⟨rfl, hLz⟩; obtain rfl := hLz.symm; clear hLz)
  refine o_give (g_not (evv rfl)) rfl rfl ?_
  refine o_nil ?_
  refine c_code ?_
  refine r_cond rfl (fun hn => ?_) (fun hn => ?_) <;> (try simp only [decide_eq_true_eq, decide_eq_false_iff_not, Bool.and_eq_true, Bool.or_eq_true, Bool.not_eq_true', Bool.and_eq_false_iff, Bool.or_eq_false_iff, Bool.not_eq_false', Bool.not_eq_true, Bool.not_eq_false, Bool.true_eq_false, Bool.false_eq_true, Int.not_lt, Int.not_le, not_and, not_or, ne_eq] at hn)
  · have e1 : encE (rawN r) = 21 := if_neg hn
    have e2 : encT (rawN r) = [] := if_neg hn
    rw [e1, e2]
    refine r_seq ?_
    refine r_region (id := 6) ?_
    refine o_give (g_move (evv rfl)) rfl rfl ?_
    refine o_give (g_bin (evv rfl) (evv rfl) (by rfl)) rfl rfl ?_
    refine o_give (g_move (evv rfl)) rfl rfl ?_
    refine o_gyes rfl ?_
    refine o_give (g_move (evv rfl)) rfl rfl ?_
    refine o_gyes rfl ?_
    refine o_give (g_lenM (evv rfl)) rfl rfl ?_
    refine o_gyes rfl ?_
    refine o_give (g_bin (evv rfl) (evv rfl) (by rfl)) rfl rfl ?_
    refine o_give (g_pick (b := true) (evv rfl) (fun _ => (evv rfl)) (fun h => by cases h)) rfl rfl ?_
    refine o_give (g_move (evv rfl)) rfl rfl ?_
    refine o_gyes rfl ?_
    refine o_give (g_loadF (evv rfl) (by rfl) (by rfl)) rfl rfl ?_
    refine o_gyes rfl ?_
    (refine o_call rfl _ (Ent.refl _) (nCheck_c _ _ _ _ (by assumption)) rfl ?_; rintro _ _ ⟨rfl, hLz⟩; obtain rfl := hLz.symm; clear hLz)
    refine o_gyes rfl ?_
    refine o_give (g_bin (evv rfl) (evv rfl) (by rfl)) rfl rfl ?_
    refine o_give (g_pick (b := true) (evv rfl) (fun _ => (evv rfl)) (fun h => by cases h)) rfl rfl ?_
    refine o_give (g_assign (evv rfl)) rfl rfl ?_
    refine o_nil ?_
    refine c_code ?_
    rw [e1]
    first | refine r_ret (rs := [.tmp 2]) rfl rfl _ ((Lay.ent (L' := [base W]))) ?_ | refine c_end (rs := [.tmp 2]) rfl rfl _ ((Lay.ent (L' := [base W]))) ?_
    exact ⟨rfl, rfl⟩
  · have e1 : encE (rawN r) = 0 := if_pos hn
    have e2 : encT (rawN r) = encN (rawN r) := if_pos hn
    rw [e1, e2]
    rename_i q p
    repeat (first | refine r_seq ?_ | refine c_code ?_ | refine c_blk ?_ | refine r_block ?_ | refine r_skip ?_)
    refine r_held (id := 7) (sl ev_ (mrow by8 5 (encN (rawN r))) :: blk p ⟨nodV (rawN r) qv iv, 27⟩ :: sl qv (frow digC 32 52 (rawN r).parts) :: sl iv (frow itmC 34 54 (rawN r).items) :: blk q ⟨[.int .i64 r.kind, str r.data, .int .i64 r.size, pv, nv, kv, sv], 39⟩ :: [base W]) Mixed.h ?_
    refine h_give (i := 0) (by kernel_rfl) rfl (g_move (evv rfl)) rfl rfl ?_
    refine h_give (i := 1) (by kernel_rfl) rfl (g_bin (evv rfl) (evv rfl) (by rfl)) rfl rfl ?_
    refine h_give (i := 2) (by kernel_rfl) rfl (g_move (evv rfl)) rfl rfl ?_
    refine h_sure (i := 3) (by kernel_rfl) rfl rfl (g_loadF (evv rfl) (by rfl) (by rfl)) rfl rfl ?_
    refine h_one (i := 4) (by kernel_rfl) rfl (Lay.ent) ?_
    refine o_gyes rfl ?_
    (refine o_call rfl _ (Ent.refl _) (nCheck_c _ _ _ _ (by assumption)) rfl ?_; rintro _ _ ⟨rfl, hLz⟩; obtain rfl := hLz.symm; clear hLz)
    refine o_nil ?_
    rw [e1]
    refine h_sure (i := 5) (by kernel_rfl) rfl rfl (g_bin (evv rfl) (evv rfl) (by rfl)) rfl rfl ?_
    refine h_give (i := 6) (by kernel_rfl) rfl (g_pick (b := true) (evv rfl) (fun _ => (evv rfl)) (fun h => by cases h)) rfl rfl ?_
    refine h_give (i := 7) (by kernel_rfl) rfl (g_move (evv rfl)) rfl rfl ?_
    refine h_sure (i := 8) (by kernel_rfl) rfl rfl (g_move (evv rfl)) rfl rfl ?_
    refine h_sure (i := 9) (by kernel_rfl) rfl rfl (g_b2sM (evv rfl)) rfl rfl ?_
    refine h_sure (i := 10) (by kernel_rfl) rfl rfl (g_loadF (evv rfl) (by rfl) (by rfl)) rfl rfl ?_
    refine h_one (i := 11) (by kernel_rfl) rfl (Lay.ent) ?_
    refine o_gyes rfl ?_
    (refine o_call rfl _ (Ent.refl _) (RnodEnc_c _ _ _ _ (by assumption)) rfl ?_; rintro _ _ ⟨ev_, rfl, rfl⟩)
    refine o_nil ?_
    refine h_one (i := 12) (by kernel_rfl) rfl (Lay.ent) ?_
    refine o_gyes rfl ?_
    refine o_give (g_b2sM (evv rfl)) rfl rfl ?_
    refine o_nil ?_
    refine h_sure (i := 13) (by kernel_rfl) rfl rfl (g_binS (evv rfl) (evv rfl) (by rfl)) rfl rfl ?_
    refine h_give (i := 14) (by kernel_rfl) rfl (g_pick (b := true) (evv rfl) (fun _ => (evv rfl)) (fun h => by cases h)) rfl rfl ?_
    refine h_give (i := 15) (by kernel_rfl) rfl (g_assign (evv rfl)) rfl rfl ?_
    refine h_done (by kernel_rfl) (Lay.ent) ?_
    refine c_code ?_
    first | refine r_ret (rs := [.tmp 2]) rfl rfl _ ((Lay.ent (L' := [base W]))) ?_ | refine c_end (rs := [.tmp 2]) rfl rfl _ ((Lay.ent (L' := [base W]))) ?_
    exact ⟨bool_eq (by simp), rfl⟩
end VK
