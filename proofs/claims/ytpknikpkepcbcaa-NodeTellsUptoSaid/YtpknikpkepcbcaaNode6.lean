/- What bytes mean: the code's Decode. Conditions: bytes of a machine's size. -/
import Derived.Test.YtpknikpkepcbcaaNode5
namespace VK
open Go Go.Proofs
set_option linter.unusedSimpArgs false
set_option linter.unusedVariables false
set_option maxRecDepth 100000
set_option maxHeartbeats 40000000
theorem textR_len (most : Int) (s : InS) : ((textR most s).1.length : Int) ≤ max most 0 := by
  unfold textR
  split
  · split
    · simp; omega
    · have := takeR_len (numR s).1 (numR s).2
      omega
  · simp; omega
theorem itmG_ok (s : InS) : (itmG s).1.ok := by
  have h1 := textR_len 16 s
  refine ⟨by show (textR 16 s).1.length ≤ _; omega, ?_⟩
  show inR .i64 ((min (numR (textR 16 s).2).1 9 : Nat) : Int)
  simp only [inR]
  omega
theorem itmsGo_ok : ∀ (k : Nat) (s : InS), ∀ x ∈ (itmsGo k s).1, x.ok
  | 0, _ => by simp [itmsGo]
  | k + 1, s => by
    intro x hx
    simp only [itmsGo, List.mem_cons] at hx
    rcases hx with rfl | hx
    · exact itmG_ok s
    · exact itmsGo_ok k _ x hx
theorem readN_ok (s : InS) : (readN s).1.ok := by
  unfold readN
  dsimp only
  split
  · have := textR_len 64 (numR s).2
    exact ⟨by simp only [inR]; omega, by show (textR 64 (numR s).2).1.length ≤ _; omega, by simp only [inR]; omega, by simp⟩
  · split
    · exact ⟨by simp only [inR]; omega, by simp, by simp only [inR]; omega, by simp⟩
    · split
      · exact ⟨by simp only [inR]; omega, by simp, by simp only [inR]; omega, itmsGo_ok _ _⟩
      · exact ⟨by simp only [inR]; omega, by simp, by simp only [inR]; omega, by simp⟩
def decM (b : List UInt8) : NodeS := (decN b).getD zeroNode
theorem nDec_c (L : List Atom) (v : Value) (b : List UInt8) (hb : b.length ≤ 140737488355000) [rd : Rd L v (mrow by8 5 b)] : Fn Try.prog 10 [v] L fun w L' => ∃ pv iv, w = .tuple #[agg (nodV (decM b) pv iv), .int .i64 (if decN b = none then 21 else 0)] ∧ L' = sl pv (frow digC 32 52 (decM b).parts) :: sl iv (frow itmC 34 54 (decM b).items) :: L := by
  have hok := readN_ok ⟨b, 0⟩
  refine fn_intro Try.func10 rfl Try.ntmps10 rfl (fun W0 => ?_)
  simp only [argE]
  refine r_seq ?_
  refine r_region (id := 0) ?_
  refine o_alloc rfl rfl (fun _ => ?_)
  refine o_give (g_assign (evv rfl)) rfl rfl ?_
  refine o_nil ?_
  refine c_code ?_
  refine r_seq ?_
  refine r_region (id := 1) ?_
  refine o_give (g_move (evv rfl)) rfl rfl ?_
  (refine o_call rfl _ (Ent.refl _) (Read_c _ _ _ (by (try simp only [bsOf, List.length_append, List.length_cons, List.length_nil]); omega)) rfl ?_; rintro _ _ ⟨i, rfl, rfl⟩)
  refine o_give (g_assign (evv rfl)) rfl rfl ?_
  refine o_nil ?_
  refine c_code ?_
  refine r_seq ?_
  refine r_region (id := 2) ?_
  refine o_give (g_move (evv rfl)) rfl rfl ?_
  (refine o_call rfl _ (Ent.refl _) (nread_c _ _ _) rfl ?_; rintro _ _ ⟨pv, iv, rfl, rfl⟩)
  refine o_alloc rfl rfl (fun _ => ?_)
  refine o_storeW (evv rfl) (evv rfl) (by first | rfl | assumption | exact LenC.h _ | (simp [bys, *]; done) | fail) (by first | (intro _ _ _; exact bys_one _) | exact AllOne.h | (intro _ _ _ u hu; simp at hu; rcases hu with rfl | rfl | rfl | rfl | rfl | rfl | rfl | rfl <;> rfl) | fail) (by first | rfl | exact (LenC.h _).trans rfl | (simp [bys, *]; done) | (simp only [bys, List.length_map, *]; rfl) | fail) ?_
  refine o_nil ?_
  refine c_code ?_
  refine r_seq ?_
  refine r_seq ?_
  refine r_region (id := 3) ?_
  refine o_give (g_move (evv rfl)) rfl rfl ?_
  (refine o_call rfl _ (Ent.refl _) inEnd_l rfl ?_; rintro _ _ ⟨rfl, rfl⟩)
  refine o_give (g_not (evv rfl)) rfl rfl ?_
  refine o_give (g_move (evv rfl)) rfl rfl ?_
  refine o_lazy rfl (fun hg => g_loadF (evv rfl) (by rfl) (by rfl)) rfl rfl ?_
  refine o_split (t := 13) rfl (fun hs => ?_) (fun hs => ?_)
  · have hd : decN b = none := if_neg (fun h => by
      rw [decide_eq_true (show (readN ⟨b, 0⟩).2.err = 0 ∧ (readN ⟨b, 0⟩).2.bs.length = 0 from ⟨h.1, h.2.1⟩)] at hs
      cases hs)
    have hM : decM b = zeroNode := by rw [decM, hd]; rfl
    rw [hM, hd, if_pos rfl]
    refine o_lazy (v0 := undef) rfl (fun hg => absurd hg (by first | (simp; done) | fail)) rfl rfl ?_
    refine o_lazy (v0 := undef) rfl (fun hg => absurd hg (by first | (simp; done) | fail)) rfl rfl ?_
    refine o_give (g_pick (b := true) (evv rfl) (fun _ => (evv rfl)) (fun h => by cases h)) rfl rfl ?_
    refine o_nil ?_
    refine c_code ?_
    refine r_cond_true rfl ?_
    refine r_seq ?_
    refine r_region (id := 4) ?_
    refine o_give (v := agg [(Go.Value.int Go.IntKind.i64 0), (Go.Value.string { data := #[] }), (Go.Value.int Go.IntKind.i64 0), (Go.Value.slice none 0 0), (Go.Value.slice none 0 0)]) (g_buildC rfl (by rfl)) rfl rfl ?_
    refine o_storeW (evv rfl) (evv rfl) (by first | rfl | assumption | exact LenC.h _ | (simp [bys, *]; done) | fail) (by first | (intro _ _ _; exact bys_one _) | exact AllOne.h | (intro _ _ _ u hu; simp at hu; rcases hu with rfl | rfl | rfl | rfl | rfl | rfl | rfl | rfl <;> rfl) | fail) (by first | rfl | exact (LenC.h _).trans rfl | (simp [bys, *]; done) | (simp only [bys, List.length_map, *]; rfl) | fail) ?_
    refine o_give (g_assign (evv rfl)) rfl rfl ?_
    refine o_nil ?_
    refine c_code ?_
    first | refine r_retC (rs := [.cell 2 27, .tmp 3]) rfl (by first | exact ro_agg rfl rfl (by first | rfl | exact LenC.h _ | (simp [bys, *]; done)) (ro_tmp rfl ro_nil) | exact ro_cell rfl rfl rfl (ro_tmp rfl ro_nil)) _ (((Lay.ent (L' := L)).trans ((Ent.nilsl 54 34).trans (Ent.nilsl 52 32)))) ?_ | refine c_endC (rs := [.cell 2 27, .tmp 3]) rfl (by first | exact ro_agg rfl rfl (by first | rfl | exact LenC.h _ | (simp [bys, *]; done)) (ro_tmp rfl ro_nil) | exact ro_cell rfl rfl rfl (ro_tmp rfl ro_nil)) _ (((Lay.ent (L' := L)).trans ((Ent.nilsl 54 34).trans (Ent.nilsl 52 32)))) ?_
    exact ⟨_, _, rfl, rfl⟩
  · have he : (readN ⟨b, 0⟩).2.err = 0 ∧ (readN ⟨b, 0⟩).2.bs.length = 0 := by simpa using hs
    refine o_sure (t := 14) rfl (by rw [hs]; rfl) ?_
    refine o_gyes rfl ?_
    (refine o_call rfl _ (Ent.refl _) (rightN_c _ _ _ _ (by assumption)) rfl ?_; rintro _ _ ⟨rfl, hLz⟩; obtain rfl := hLz.symm; clear hLz)
    refine o_gyes rfl ?_
    refine o_give (g_not (evv rfl)) rfl rfl ?_
    refine o_give (g_pick (b := false) (evv rfl) (fun h => by cases h) (fun _ => (evv rfl))) rfl rfl ?_
    refine o_nil ?_
    refine c_code ?_
    refine r_cond rfl (fun hn => ?_) (fun hn => ?_) <;> (try simp only [decide_eq_true_eq, decide_eq_false_iff_not, Bool.and_eq_true, Bool.or_eq_true, Bool.not_eq_true', Bool.and_eq_false_iff, Bool.or_eq_false_iff, Bool.not_eq_false', Bool.not_eq_true, Bool.not_eq_false, Bool.true_eq_false, Bool.false_eq_true, Int.not_lt, Int.not_le, not_and, not_or, ne_eq] at hn)
    · have hd : decN b = none := if_neg (fun h => by exact hn h.2.2)
      have hM : decM b = zeroNode := by rw [decM, hd]; rfl
      rw [hM, hd, if_pos rfl]
      refine r_seq ?_
      refine r_region (id := 4) ?_
      refine o_give (v := agg [(Go.Value.int Go.IntKind.i64 0), (Go.Value.string { data := #[] }), (Go.Value.int Go.IntKind.i64 0), (Go.Value.slice none 0 0), (Go.Value.slice none 0 0)]) (g_buildC rfl (by rfl)) rfl rfl ?_
      refine o_storeW (evv rfl) (evv rfl) (by first | rfl | assumption | exact LenC.h _ | (simp [bys, *]; done) | fail) (by first | (intro _ _ _; exact bys_one _) | exact AllOne.h | (intro _ _ _ u hu; simp at hu; rcases hu with rfl | rfl | rfl | rfl | rfl | rfl | rfl | rfl <;> rfl) | fail) (by first | rfl | exact (LenC.h _).trans rfl | (simp [bys, *]; done) | (simp only [bys, List.length_map, *]; rfl) | fail) ?_
      refine o_give (g_assign (evv rfl)) rfl rfl ?_
      refine o_nil ?_
      refine c_code ?_
      first | refine r_retC (rs := [.cell 2 27, .tmp 3]) rfl (by first | exact ro_agg rfl rfl (by first | rfl | exact LenC.h _ | (simp [bys, *]; done)) (ro_tmp rfl ro_nil) | exact ro_cell rfl rfl rfl (ro_tmp rfl ro_nil)) _ (((Lay.ent (L' := L)).trans ((Ent.nilsl 54 34).trans (Ent.nilsl 52 32)))) ?_ | refine c_endC (rs := [.cell 2 27, .tmp 3]) rfl (by first | exact ro_agg rfl rfl (by first | rfl | exact LenC.h _ | (simp [bys, *]; done)) (ro_tmp rfl ro_nil) | exact ro_cell rfl rfl rfl (ro_tmp rfl ro_nil)) _ (((Lay.ent (L' := L)).trans ((Ent.nilsl 54 34).trans (Ent.nilsl 52 32)))) ?_
      exact ⟨_, _, rfl, rfl⟩
    · have hd : decN b = some (readN ⟨b, 0⟩).1 := if_pos ⟨he.1, he.2, hn⟩
      have hM : decM b = (readN ⟨b, 0⟩).1 := by rw [decM, hd]; rfl
      rw [hM, hd, if_neg (by simp)]
      refine r_skip ?_
      refine c_code ?_
      refine r_seq ?_
      refine r_region (id := 5) ?_
      refine o_give (g_loadF (evv rfl) (by rfl) (by rfl)) rfl rfl ?_
      refine o_storeW (evv rfl) (evv rfl) (by first | rfl | assumption | exact LenC.h _ | (simp [bys, *]; done) | fail) (by first | (intro _ _ _; exact bys_one _) | exact AllOne.h | (intro _ _ _ u hu; simp at hu; rcases hu with rfl | rfl | rfl | rfl | rfl | rfl | rfl | rfl <;> rfl) | fail) (by first | rfl | exact (LenC.h _).trans rfl | (simp [bys, *]; done) | (simp only [bys, List.length_map, *]; rfl) | fail) ?_
      refine o_give (g_assign (evv rfl)) rfl rfl ?_
      refine o_nil ?_
      refine c_code ?_
      first | refine r_retC (rs := [.cell 2 27, .tmp 3]) rfl (by first | exact ro_agg rfl rfl (by first | rfl | exact LenC.h _ | (simp [bys, *]; done)) (ro_tmp rfl ro_nil) | exact ro_cell rfl rfl rfl (ro_tmp rfl ro_nil)) _ ((Lay.ent (L' := sl pv (frow digC 32 52 (readN ⟨b, 0⟩).1.parts) :: sl iv (frow itmC 34 54 (readN ⟨b, 0⟩).1.items) :: L))) ?_ | refine c_endC (rs := [.cell 2 27, .tmp 3]) rfl (by first | exact ro_agg rfl rfl (by first | rfl | exact LenC.h _ | (simp [bys, *]; done)) (ro_tmp rfl ro_nil) | exact ro_cell rfl rfl rfl (ro_tmp rfl ro_nil)) _ ((Lay.ent (L' := sl pv (frow digC 32 52 (readN ⟨b, 0⟩).1.parts) :: sl iv (frow itmC 34 54 (readN ⟨b, 0⟩).1.items) :: L))) ?_
      exact ⟨_, _, rfl, rfl⟩
end VK
