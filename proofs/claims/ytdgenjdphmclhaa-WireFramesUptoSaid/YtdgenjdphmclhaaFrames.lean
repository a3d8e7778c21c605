/- WireFrames, walked. Conditions: few bytes. -/
import Derived.Test.YtdgenjdphmclhaaScan
import Derived.Test.YtdgenjdphmclhaaTells
namespace VK
open Go Go.Proofs
set_option linter.unusedSimpArgs false
set_option linter.unusedVariables false
set_option maxRecDepth 100000
set_option maxHeartbeats 40000000
theorem WireFrames_c (W : World) (v u : Value) (p b : List UInt8) (hp : p.length ≤ 1048576) (hb : b.length ≤ 1048576) [rd : Rd [base W] v (mrow by8 5 p)] [ru : Rd [base W] u (mrow by8 5 b)] :
    Fn Try.prog 5 [v, u] [base W] fun w L' => w = .bool true ∧ L' = [base W] := by
  have hb' : b.length ≤ 140737488355000 := by omega
  refine fn_intro Try.func5 rfl Try.ntmps5 rfl (fun W0 => ?_)
  simp only [argE]
  refine r_seq ?_
  refine r_region (id := 0) ?_
  refine o_give (g_assign (evv rfl)) rfl rfl ?_
  refine o_nil ?_
  refine c_code ?_
  refine r_seq ?_
  refine r_seq ?_
  refine r_region (id := 1) ?_
  (refine o_call rfl _ (Ent.refl _) (awake_c _) rfl ?_; rintro _ _ ⟨rfl, hLz⟩; obtain rfl := hLz.symm; clear hLz)
  refine o_give (g_not (evv rfl)) rfl rfl ?_
  refine o_nil ?_
  refine c_code ?_
  refine r_cond_false rfl ?_
  refine r_skip ?_
  refine c_code ?_
  refine r_seq ?_
  refine r_region (id := 3) ?_
  refine o_give (g_move (evv rfl)) rfl rfl ?_
  (refine o_call rfl _ (Ent.refl _) (Frame_c _ _ _ (by first | assumption | omega)) rfl ?_; rintro _ _ ⟨ff, rfl, rfl⟩)
  refine o_give (g_move (evv rfl)) rfl rfl ?_
  refine o_give (g_extract (evv rfl) (by rfl)) rfl rfl ?_
  refine o_give (g_extract (evv rfl) (by rfl)) rfl rfl ?_
  refine o_give (g_assign (evv rfl)) rfl rfl ?_
  refine o_give (g_assign (evv rfl)) rfl rfl ?_
  refine o_nil ?_
  refine c_code ?_
  refine r_seq ?_
  refine r_region (id := 4) ?_
  refine o_give (g_move (evv rfl)) rfl rfl ?_
  (refine o_call rfl _ (Ent.refl _) (rFrame_c _ _ _ (by first | assumption | omega)) rfl ?_; rintro _ _ ⟨ff, rfl, rfl⟩)
  refine o_give (g_move (evv rfl)) rfl rfl ?_
  refine o_give (g_extract (evv rfl) (by rfl)) rfl rfl ?_
  refine o_give (g_extract (evv rfl) (by rfl)) rfl rfl ?_
  refine o_give (g_assign (evv rfl)) rfl rfl ?_
  refine o_give (g_assign (evv rfl)) rfl rfl ?_
  refine o_nil ?_
  refine c_code ?_
  refine r_seq ?_
  refine r_region (id := 5) ?_
  refine o_give (g_move (evv rfl)) rfl rfl ?_
  (refine o_call rfl _ (Ent.refl _) (Next_c _ _ _ (by first | assumption | omega)) rfl ?_; rintro _ _ ⟨nf, rfl, rfl⟩)
  refine o_give (g_move (evv rfl)) rfl rfl ?_
  refine o_give (g_extract (evv rfl) (by rfl)) rfl rfl ?_
  refine o_give (g_extract (evv rfl) (by rfl)) rfl rfl ?_
  refine o_give (g_extract (evv rfl) (by rfl)) rfl rfl ?_
  refine o_give (g_assign (evv rfl)) rfl rfl ?_
  refine o_give (g_assign (evv rfl)) rfl rfl ?_
  refine o_give (g_assign (evv rfl)) rfl rfl ?_
  refine o_nil ?_
  refine c_code ?_
  refine r_seq ?_
  refine r_region (id := 6) ?_
  refine o_give (g_move (evv rfl)) rfl rfl ?_
  (refine o_call rfl _ (Ent.refl _) (rNext_c _ _ _ (by first | assumption | omega)) rfl ?_; rintro _ _ ⟨nf, rfl, rfl⟩)
  refine o_give (g_move (evv rfl)) rfl rfl ?_
  refine o_give (g_extract (evv rfl) (by rfl)) rfl rfl ?_
  refine o_give (g_extract (evv rfl) (by rfl)) rfl rfl ?_
  refine o_give (g_extract (evv rfl) (by rfl)) rfl rfl ?_
  refine o_give (g_assign (evv rfl)) rfl rfl ?_
  refine o_give (g_assign (evv rfl)) rfl rfl ?_
  refine o_give (g_assign (evv rfl)) rfl rfl ?_
  refine o_nil ?_
  refine c_code ?_
  refine r_seq ?_
  refine r_region (id := 7) ?_
  refine o_give (g_move (evv rfl)) rfl rfl ?_
  (refine o_call rfl _ (Ent.refl _) (Scan_c _ _ _ (by first | assumption | omega)) rfl ?_; rintro _ _ ⟨so, rs, rfl, hrs, rfl⟩)
  refine o_give (g_move (evv rfl)) rfl rfl ?_
  refine o_give (g_extract (evv rfl) (by rfl)) rfl rfl ?_
  refine o_give (g_extract (evv rfl) (by rfl)) rfl rfl ?_
  refine o_give (g_assign (evv rfl)) rfl rfl ?_
  refine o_give (g_assign (evv rfl)) rfl rfl ?_
  refine o_nil ?_
  refine c_code ?_
  refine r_seq ?_
  refine r_region (id := 8) ?_
  refine o_give (g_move (evv rfl)) rfl rfl ?_
  (refine o_call rfl _ (Ent.refl _) (rScan_c _ _ _ (by first | assumption | omega)) rfl ?_; rintro _ _ ⟨so', rs', rfl, hrs', rfl⟩)
  refine o_give (g_move (evv rfl)) rfl rfl ?_
  refine o_give (g_extract (evv rfl) (by rfl)) rfl rfl ?_
  refine o_give (g_extract (evv rfl) (by rfl)) rfl rfl ?_
  refine o_give (g_assign (evv rfl)) rfl rfl ?_
  refine o_give (g_assign (evv rfl)) rfl rfl ?_
  refine o_nil ?_
  refine c_code ?_
  refine r_seq ?_
  refine r_region (id := 9) ?_
  refine o_give (g_move (evv rfl)) rfl rfl ?_
  refine o_give (g_b2sM (evv rfl)) rfl rfl ?_
  refine o_give (g_move (evv rfl)) rfl rfl ?_
  refine o_give (g_b2sM (evv rfl)) rfl rfl ?_
  refine o_give (g_binS (evv rfl) (evv rfl) (by rfl)) rfl rfl ?_
  refine o_give (g_move (evv rfl)) rfl rfl ?_
  refine o_lazy rfl (fun hg => g_move (by first | exact evv rfl | exact evg rfl (by rw [hp]; rfl) | exact evg rfl hp | exact evg rfl hg | exact evg rfl (by first | (simp_all; done) | (simp [*]; done) | fail) | fail)) rfl rfl ?_
  refine o_lazy rfl (fun hg => g_move (by first | exact evv rfl | exact evg rfl (by rw [hp]; rfl) | exact evg rfl hp | exact evg rfl hg | exact evg rfl (by first | (simp_all; done) | (simp [*]; done) | fail) | fail)) rfl rfl ?_
  refine o_lazy rfl (fun hg => g_bin (by first | exact evv rfl | exact evg rfl (by rw [hp]; rfl) | exact evg rfl hp | exact evg rfl hg | exact evg rfl (by first | (simp_all; done) | (simp [*]; done) | fail) | fail) (by first | exact evv rfl | exact evg rfl (by rw [hp]; rfl) | exact evg rfl hp | exact evg rfl hg | exact evg rfl (by first | (simp_all; done) | (simp [*]; done) | fail) | fail) (by rfl)) rfl rfl ?_
  refine o_give (g_pick_and (evv rfl) (evv rfl) (fun hp => (by first | exact evv rfl | exact evg rfl (by rw [hp]; rfl) | exact evg rfl hp | exact evg rfl hg | exact evg rfl (by first | (simp_all; done) | (simp [*]; done) | fail) | fail))) rfl rfl ?_
  refine o_give (g_move (evv rfl)) rfl rfl ?_
  refine o_lazy rfl (fun hg => g_move (by first | exact evv rfl | exact evg rfl (by rw [hp]; rfl) | exact evg rfl hp | exact evg rfl hg | exact evg rfl (by first | (simp_all; done) | (simp [*]; done) | fail) | fail)) rfl rfl ?_
  refine o_lazy rfl (fun hg => g_b2sM (by first | exact evv rfl | exact evg rfl (by rw [hp]; rfl) | exact evg rfl hp | exact evg rfl hg | exact evg rfl (by first | (simp_all; done) | (simp [*]; done) | fail) | fail)) rfl rfl ?_
  refine o_lazy rfl (fun hg => g_move (by first | exact evv rfl | exact evg rfl (by rw [hp]; rfl) | exact evg rfl hp | exact evg rfl hg | exact evg rfl (by first | (simp_all; done) | (simp [*]; done) | fail) | fail)) rfl rfl ?_
  refine o_lazy rfl (fun hg => g_b2sM (by first | exact evv rfl | exact evg rfl (by rw [hp]; rfl) | exact evg rfl hp | exact evg rfl hg | exact evg rfl (by first | (simp_all; done) | (simp [*]; done) | fail) | fail)) rfl rfl ?_
  refine o_lazy rfl (fun hg => g_binS (by first | exact evv rfl | exact evg rfl (by rw [hp]; rfl) | exact evg rfl hp | exact evg rfl hg | exact evg rfl (by first | (simp_all; done) | (simp [*]; done) | fail) | fail) (by first | exact evv rfl | exact evg rfl (by rw [hp]; rfl) | exact evg rfl hp | exact evg rfl hg | exact evg rfl (by first | (simp_all; done) | (simp [*]; done) | fail) | fail) (by rfl)) rfl rfl ?_
  refine o_give (g_pick_and (evv rfl) (evv rfl) (fun hp => (by first | exact evv rfl | exact evg rfl (by rw [hp]; rfl) | exact evg rfl hp | exact evg rfl hg | exact evg rfl (by first | (simp_all; done) | (simp [*]; done) | fail) | fail))) rfl rfl ?_
  refine o_give (g_move (evv rfl)) rfl rfl ?_
  refine o_lazy rfl (fun hg => g_move (by first | exact evv rfl | exact evg rfl (by rw [hp]; rfl) | exact evg rfl hp | exact evg rfl hg | exact evg rfl (by first | (simp_all; done) | (simp [*]; done) | fail) | fail)) rfl rfl ?_
  refine o_lazy rfl (fun hg => g_move (by first | exact evv rfl | exact evg rfl (by rw [hp]; rfl) | exact evg rfl hp | exact evg rfl hg | exact evg rfl (by first | (simp_all; done) | (simp [*]; done) | fail) | fail)) rfl rfl ?_
  refine o_lazy rfl (fun hg => g_bin (by first | exact evv rfl | exact evg rfl (by rw [hp]; rfl) | exact evg rfl hp | exact evg rfl hg | exact evg rfl (by first | (simp_all; done) | (simp [*]; done) | fail) | fail) (by first | exact evv rfl | exact evg rfl (by rw [hp]; rfl) | exact evg rfl hp | exact evg rfl hg | exact evg rfl (by first | (simp_all; done) | (simp [*]; done) | fail) | fail) (by rfl)) rfl rfl ?_
  refine o_give (g_pick_and (evv rfl) (evv rfl) (fun hp => (by first | exact evv rfl | exact evg rfl (by rw [hp]; rfl) | exact evg rfl hp | exact evg rfl hg | exact evg rfl (by first | (simp_all; done) | (simp [*]; done) | fail) | fail))) rfl rfl ?_
  refine o_give (g_move (evv rfl)) rfl rfl ?_
  refine o_lazy rfl (fun hg => g_move (by first | exact evv rfl | exact evg rfl (by rw [hp]; rfl) | exact evg rfl hp | exact evg rfl hg | exact evg rfl (by first | (simp_all; done) | (simp [*]; done) | fail) | fail)) rfl rfl ?_
  refine o_lazy rfl (fun hg => g_move (by first | exact evv rfl | exact evg rfl (by rw [hp]; rfl) | exact evg rfl hp | exact evg rfl hg | exact evg rfl (by first | (simp_all; done) | (simp [*]; done) | fail) | fail)) rfl rfl ?_
  refine o_lazy rfl (fun hg => g_bin (by first | exact evv rfl | exact evg rfl (by rw [hp]; rfl) | exact evg rfl hp | exact evg rfl hg | exact evg rfl (by first | (simp_all; done) | (simp [*]; done) | fail) | fail) (by first | exact evv rfl | exact evg rfl (by rw [hp]; rfl) | exact evg rfl hp | exact evg rfl hg | exact evg rfl (by first | (simp_all; done) | (simp [*]; done) | fail) | fail) (by rfl)) rfl rfl ?_
  refine o_give (g_pick_and (evv rfl) (evv rfl) (fun hp => (by first | exact evv rfl | exact evg rfl (by rw [hp]; rfl) | exact evg rfl hp | exact evg rfl hg | exact evg rfl (by first | (simp_all; done) | (simp [*]; done) | fail) | fail))) rfl rfl ?_
  refine o_give (g_move (evv rfl)) rfl rfl ?_
  refine o_lazy rfl (fun hg => g_move (by first | exact evv rfl | exact evg rfl (by rw [hp]; rfl) | exact evg rfl hp | exact evg rfl hg | exact evg rfl (by first | (simp_all; done) | (simp [*]; done) | fail) | fail)) rfl rfl ?_
  refine o_lazy rfl (fun hg => g_move (by first | exact evv rfl | exact evg rfl (by rw [hp]; rfl) | exact evg rfl hp | exact evg rfl hg | exact evg rfl (by first | (simp_all; done) | (simp [*]; done) | fail) | fail)) rfl rfl ?_
  simp only [decide_true, Bool.and_self]
  refine o_sure (t := 81) rfl rfl ?_
  refine o_sure (t := 82) rfl rfl ?_
  refine o_gyes rfl ?_
  (refine o_call rfl _ (Ent.refl _) (Lists_c _ _ _ _ _ (by first | assumption | (intro p hp; haveI := pcR_in hp; infer_instance)) (by first | assumption | (intro p hp; haveI := pcR_in hp; infer_instance))) rfl ?_; rintro _ _ ⟨rfl, hLz⟩; obtain rfl := hLz.symm; clear hLz)
  refine o_give (g_pick (b := true) (evv rfl) (fun _ => (evv rfl)) (fun h => by cases h)) rfl rfl ?_
  refine o_give (g_move (evv rfl)) rfl rfl ?_
  refine o_lazy rfl (fun hg => g_move (by first | exact evv rfl | exact evg rfl (by rw [hp]; rfl) | exact evg rfl hp | exact evg rfl hg | exact evg rfl (by first | (simp_all; done) | (simp [*]; done) | fail) | fail)) rfl rfl ?_
  refine o_lazy rfl (fun hg => g_move (by first | exact evv rfl | exact evg rfl (by rw [hp]; rfl) | exact evg rfl hp | exact evg rfl hg | exact evg rfl (by first | (simp_all; done) | (simp [*]; done) | fail) | fail)) rfl rfl ?_
  refine o_lazy rfl (fun hg => g_bin (by first | exact evv rfl | exact evg rfl (by rw [hp]; rfl) | exact evg rfl hp | exact evg rfl hg | exact evg rfl (by first | (simp_all; done) | (simp [*]; done) | fail) | fail) (by first | exact evv rfl | exact evg rfl (by rw [hp]; rfl) | exact evg rfl hp | exact evg rfl hg | exact evg rfl (by first | (simp_all; done) | (simp [*]; done) | fail) | fail) (by rfl)) rfl rfl ?_
  refine o_give (g_pick_and (evv rfl) (evv rfl) (fun hp => (by first | exact evv rfl | exact evg rfl (by rw [hp]; rfl) | exact evg rfl hp | exact evg rfl hg | exact evg rfl (by first | (simp_all; done) | (simp [*]; done) | fail) | fail))) rfl rfl ?_
  refine o_give (g_move (evv rfl)) rfl rfl ?_
  refine o_lazy rfl (fun hg => g_move (by first | exact evv rfl | exact evg rfl (by rw [hp]; rfl) | exact evg rfl hp | exact evg rfl hg | exact evg rfl (by first | (simp_all; done) | (simp [*]; done) | fail) | fail)) rfl rfl ?_
  refine o_lazy rfl (fun hg => g_move (by first | exact evv rfl | exact evg rfl (by rw [hp]; rfl) | exact evg rfl hp | exact evg rfl hg | exact evg rfl (by first | (simp_all; done) | (simp [*]; done) | fail) | fail)) rfl rfl ?_
  simp only [hrs, hrs', decide_true, Bool.and_self]
  refine o_sure (t := 91) rfl rfl ?_
  refine o_sure (t := 92) rfl rfl ?_
  haveI hn0 : ∀ L : List Atom, Rd L (.slice none 0 0) (mrow by8 5 []) := fun _ => Rd.nilM by8 5
  refine o_gyes rfl ?_
  refine o_litV rfl rfl rfl (by rfl) rfl rfl (fun _ => ?_)
  refine o_gyes rfl ?_
  (refine o_call rfl _ (Ent.refl _) (Check_c _ _ _ _ (ReadsI.h (e := 5))) rfl ?_; rintro _ _ ⟨rfl, hLz⟩; obtain rfl := hLz.symm; clear hLz)
  refine o_gyes rfl ?_
  refine o_lit0 by8 (by rfl) rfl (fun _ => ?_)
  refine o_gyes rfl ?_
  refine o_give (g_move (evv rfl)) rfl rfl ?_
  refine o_gyes rfl ?_
  refine o_appM (evv rfl) (evv rfl) (by rfl) (by rfl) (by rfl) (by (try simp only [bsOf, List.length_append, List.length_cons, List.length_nil]); omega) rfl (fun _ => ?_)
  refine o_gyes rfl ?_
  refine o_give (g_move (evv rfl)) rfl rfl ?_
  refine o_gyes rfl ?_
  refine o_appM (evv rfl) (evv rfl) (by rfl) (by rfl) (by rfl) (by (try simp only [bsOf, List.length_append, List.length_cons, List.length_nil]); omega) rfl (fun _ => ?_)
  refine o_gyes rfl ?_
  (refine o_call rfl _ (Ent.refl _) (rCheck_c _ _ _) rfl ?_; rintro _ _ ⟨rfl, hLz⟩; obtain rfl := hLz.symm; clear hLz)
  refine o_gyes rfl ?_
  refine o_give (g_bin (evv rfl) (evv rfl) (by rfl)) rfl rfl ?_
  refine o_give (g_pick (b := true) (evv rfl) (fun _ => (evv rfl)) (fun h => by cases h)) rfl rfl ?_
  refine o_give (g_assign (evv rfl)) rfl rfl ?_
  refine o_nil ?_
  refine c_code ?_
  first | refine r_ret (rs := [.tmp 4]) rfl rfl _ ((Lay.ent (L' := [base W]))) ?_ | refine c_end (rs := [.tmp 4]) rfl rfl _ ((Lay.ent (L' := [base W]))) ?_
  refine ⟨bool_eq ?_, rfl⟩
  simp
end VK
