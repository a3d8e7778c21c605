/- The digest that bytes stand for in the laws. Conditions: none. -/
import Derived.Test.YtpknikpkepcbcaaT
namespace VK
open Go Go.Proofs
set_option linter.unusedSimpArgs false
set_option linter.unusedVariables false
set_option maxRecDepth 100000
set_option maxHeartbeats 40000000
def foldD (bs : List UInt8) : List UInt8 := bs.take 32 ++ List.replicate (32 - bs.length) 0
theorem Fold_c (F : List Atom) (v : Value) (bs : List UInt8) [rd : Rd F v (mrow by8 5 bs)] : Fn Try.prog 30 [v] F fun v L' => v = agg (bys (foldD bs)) ∧ L' = F := by
  refine fn_intro Try.func30 rfl Try.ntmps30 rfl (fun W0 => ?_)
  simp only [argE]
  refine r_seq ?_
  refine r_region (id := 0) ?_
  refine o_alloc (cs := (bys (List.replicate 32 0))) rfl rfl (fun _ => ?_)
  refine o_nil ?_
  refine c_code ?_
  refine r_seq ?_
  refine r_region (id := 1) ?_
  refine o_alloc (cs := (bys (List.replicate 32 0))) rfl rfl (fun _ => ?_)
  refine o_nil ?_
  refine c_code ?_
  refine r_seq ?_
  refine r_seq ?_
  refine r_region (id := 2) ?_
  refine o_give (g_assign (evv rfl)) rfl rfl ?_
  refine o_nil ?_
  refine c_code ?_
  refine r_block ?_
  rename_i b1 b2
  refine r_loop (σ := Nat × List UInt8) (fun s => s.1 ≤ 32 ∧ s.1 ≤ bs.length ∧ s.2 = bs.take s.1 ++ List.replicate (32 - s.1) 0) (fun s => 32 - s.1) (fun s => [(0, .v v), (2, .v (.pointer (some ⟨b1, 0, none⟩))), (3, .v (.pointer (some ⟨b2, 0, none⟩))), (4, .v (.int .i64 s.1))]) (fun s => blk b2 ⟨bys s.2, 52⟩ :: blk b1 ⟨bys (List.replicate 32 0), 52⟩ :: F) (0, List.replicate 32 0) ⟨by omega, by omega, rfl⟩ ⟨rfl, rfl, rfl, rfl, trivial⟩ (Ent.refl _) ?_
  rintro ⟨i, d⟩ ⟨h1, h2, h3⟩
  dsimp only at h1 h2 h3 ⊢
  have hdl : d.length = 32 := by rw [h3]; simp; omega
  refine r_seq ?_
  refine r_seq ?_
  refine r_region (id := 3) ?_
  refine o_give (g_move (evv rfl)) rfl rfl ?_
  refine o_give (g_bin (evv rfl) (evv rfl) (by rfl)) rfl rfl ?_
  refine o_give (g_move (evv rfl)) rfl rfl ?_
  refine o_lazy rfl (fun hg => g_move (by first | exact evv rfl | exact evg rfl (by rw [hp]; rfl) | exact evg rfl hp | exact evg rfl hg | exact evg rfl (by first | (simp_all; done) | (simp [*]; done) | fail) | fail)) rfl rfl ?_
  refine o_lazy rfl (fun hg => g_move (by first | exact evv rfl | exact evg rfl (by rw [hp]; rfl) | exact evg rfl hp | exact evg rfl hg | exact evg rfl (by first | (simp_all; done) | (simp [*]; done) | fail) | fail)) rfl rfl ?_
  refine o_lazy rfl (fun hg => g_lenM (by first | exact evv rfl | exact evg rfl (by rw [hp]; rfl) | exact evg rfl hp | exact evg rfl hg | exact evg rfl (by first | (simp_all; done) | (simp [*]; done) | fail) | fail)) rfl rfl ?_
  refine o_lazy rfl (fun hg => g_bin (by first | exact evv rfl | exact evg rfl (by rw [hp]; rfl) | exact evg rfl hp | exact evg rfl hg | exact evg rfl (by first | (simp_all; done) | (simp [*]; done) | fail) | fail) (by first | exact evv rfl | exact evg rfl (by rw [hp]; rfl) | exact evg rfl hp | exact evg rfl hg | exact evg rfl (by first | (simp_all; done) | (simp [*]; done) | fail) | fail) (by rfl)) rfl rfl ?_
  refine o_give (g_pick_and (evv rfl) (evv rfl) (fun hp => (by first | exact evv rfl | exact evg rfl (by rw [hp]; rfl) | exact evg rfl hp | exact evg rfl hg | exact evg rfl (by first | (simp_all; done) | (simp [*]; done) | fail) | fail))) rfl rfl ?_
  refine o_nil ?_
  refine c_code ?_
  refine r_cond rfl (fun hc => ?_) (fun hc => ?_)
  · simp only [Bool.and_eq_true, decide_eq_true_eq] at hc
    have hbl : i < (bys d).length := by simp [bys]; omega
    refine r_skip ?_
    refine c_code ?_
    refine r_seq ?_
    refine r_block ?_
    refine r_region (id := 5) ?_
    refine o_give (g_move (evv rfl)) rfl rfl ?_
    refine o_give (g_move (evv rfl)) rfl rfl ?_
    refine o_give (g_move (evv rfl)) rfl rfl ?_
    refine o_give (g_idxMN (evv rfl) (evv rfl) (by rfl) (by first | omega | (have := of_decide_eq_true hg; omega) | (simp at hg; omega) | (simp only [List.length_set, List.length_append, List.length_cons, List.length_nil, List.length_map, List.length_take, List.length_drop, List.length_replicate]; omega))) rfl rfl ?_
    refine o_give (g_loadM (evv rfl) (by rfl) (by first | omega | (have := of_decide_eq_true hg; omega) | (simp at hg; omega) | (simp only [List.length_set, List.length_append, List.length_cons, List.length_nil, List.length_map, List.length_take, List.length_drop, List.length_replicate]; omega))) rfl rfl ?_
    refine o_give (g_idxAN (evv rfl) (evv rfl) (by omega)) rfl rfl ?_
    refine o_storeI (evv rfl) (evv rfl) (by rfl) (by first | omega | (simp [bys]; omega) | fail) ?_
    refine o_nil ?_
    refine c_blk ?_
    refine c_code ?_
    refine r_region (id := 4) ?_
    refine o_give (g_move (evv rfl)) rfl rfl ?_
    refine o_giveN (g_bin (evv rfl) (evv rfl) (by rfl)) (by simp only [inR]; omega) rfl ?_
    refine o_give (g_assign (evv rfl)) rfl rfl ?_
    refine o_nil ?_
    have e0 : (bys d).set (0 + i * ({ size := 1, bytes := 1, zero := Value.int .u8 0 } : TI).size) (by8 (bs.getD i default)) = bys (d.set i (bs.getD i default)) := by
      simp [bys, List.map_set]
    rw [e0]
    refine c_loop (i + 1, d.set i (bs.getD i default)) ⟨by dsimp only; omega, by dsimp only; omega, ?_⟩ (by dsimp only; omega) ⟨rfl, rfl, rfl, rfl, trivial⟩ (Ent.refl _)
    dsimp only
    have hi : i < bs.length := by omega
    have hm : min i bs.length = i := by omega
    rw [h3, List.take_succ_eq_append_getElem hi, List.set_append, if_neg (by simp [hm])]
    rw [show 32 - i = (32 - (i + 1)) + 1 by omega, List.replicate_succ]
    simp [hi, hm]
    rw [List.take_succ_eq_append_getElem hi, List.append_assoc]
    rfl
  · simp only [Bool.and_eq_false_iff, decide_eq_false_iff_not] at hc
    refine r_exit rfl ?_
    refine c_code ?_
    refine r_seq ?_
    refine r_region (id := 6) ?_
    refine o_give (g_loadW (evv rfl) (by rfl) (by first | rfl | assumption | (simp [bys, *]; done) | fail)) rfl rfl ?_
    refine o_storeW (evv rfl) (evv rfl) (by first | rfl | assumption | exact LenC.h _ | (simp [bys, *]; done) | fail) (by first | (intro _ _ _; exact bys_one _) | exact AllOne.h | (intro _ _ _ u hu; simp at hu; rcases hu with rfl | rfl | rfl | rfl | rfl | rfl | rfl | rfl <;> rfl) | fail) (by first | rfl | exact (LenC.h _).trans rfl | (simp [bys, *]; done) | (simp only [bys, List.length_map, *]; rfl) | fail) ?_
    refine o_nil ?_
    refine c_code ?_
    have e1 : d = foldD bs := by
      rw [h3, foldD]
      by_cases hl : bs.length ≤ 32
      · have : i = bs.length ∨ i = 32 := by omega
        rw [List.take_of_length_le (by omega), List.take_of_length_le (by omega), show 32 - i = 32 - bs.length by omega]
      · rw [show i = 32 by omega, show 32 - bs.length = 32 - 32 by omega]
    rw [← e1]
    exact r_retC (rs := [.cell 2 52]) rfl (ro_agg rfl rfl (by simp [bys, hdl]) ro_nil) _ (Ent.drop.trans Ent.drop) ⟨rfl, rfl⟩
theorem foldD_len (bs : List UInt8) : (foldD bs).length = 32 := by simp [foldD]; omega
instance (bs : List UInt8) : LenIs (foldD bs) 32 := ⟨foldD_len bs, by decide⟩
end VK
