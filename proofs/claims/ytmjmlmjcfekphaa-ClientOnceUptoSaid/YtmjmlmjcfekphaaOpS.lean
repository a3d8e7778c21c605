/- Results compared; two laws on results, walked. Conditions: texts of a machine's size. -/
import Derived.Test.YtmjmlmjcfekphaaOpR
import Derived.Test.YtmjmlmjcfekphaaOpLaw
namespace VK
open Go Go.Proofs
set_option linter.unusedSimpArgs false
set_option linter.unusedVariables false
set_option maxRecDepth 100000
set_option maxHeartbeats 40000000
theorem Same_c (L : List Atom) (r : Res) (v1 v2 : Value) [r1 : Rd L v1 (mrow str 9 r.names)] [r2 : Rd L v2 (mrow str 9 r.names)] : Fn Try.prog 19 [agg (reslV r v1), agg (reslV r v2)] L fun w L' => w = .bool true ∧ L' = L := by
  refine fn_lenM r1 fun hlen => ?_
  have hlen : r.names.length ≤ 2 ^ 63 - 1 := hlen
  refine fn_intro Try.func19 rfl Try.ntmps19 rfl (fun W0 => ?_)
  simp only [argE]
  refine r_seq ?_
  refine r_region (id := 0) ?_
  refine o_boxA (evv rfl) rfl (fun _ => ?_)
  refine o_boxA (evv rfl) rfl (fun _ => ?_)
  refine o_give (g_assign (evv rfl)) rfl rfl ?_
  refine o_nil ?_
  refine c_code ?_
  refine r_seq ?_
  refine r_seq ?_
  rename_i b1 b2
  refine r_region (id := 1) ?_
  refine o_give (g_fld (evv rfl)) rfl rfl ?_
  refine o_give (g_load (evv rfl) (by rfl) (by rfl)) rfl rfl ?_
  refine o_give (g_fld (evv rfl)) rfl rfl ?_
  refine o_give (g_load (evv rfl) (by rfl) (by rfl)) rfl rfl ?_
  refine o_give (g_bin (evv rfl) (evv rfl) (by rfl)) rfl rfl ?_
  refine o_give (g_move (evv rfl)) rfl rfl ?_
  refine o_lazy rfl (fun hg => g_fld (evv rfl)) rfl rfl ?_
  refine o_lazy rfl (fun hg => g_load (evg rfl hg) (by rfl) (by rfl)) rfl rfl ?_
  refine o_lazy rfl (fun hg => g_fld (evv rfl)) rfl rfl ?_
  refine o_lazy rfl (fun hg => g_load (evg rfl hg) (by rfl) (by rfl)) rfl rfl ?_
  refine o_lazy rfl (fun hg => g_binB TyU.h (by first | exact evv rfl | exact evg rfl (by rw [hp]; rfl) | exact evg rfl hp | exact evg rfl hg | exact evg rfl (by first | (simp_all; done) | (simp [*]; done) | fail) | fail) (by first | exact evv rfl | exact evg rfl (by rw [hp]; rfl) | exact evg rfl hp | exact evg rfl hg | exact evg rfl (by first | (simp_all; done) | (simp [*]; done) | fail) | fail) (by rfl)) rfl rfl ?_
  refine o_give (g_pick_or (evv rfl) (evv rfl) (fun hp => (by first | exact evv rfl | exact evg rfl (by rw [hp]; rfl) | exact evg rfl hp | exact evg rfl hg | exact evg rfl (by first | (simp_all; done) | (simp [*]; done) | fail) | fail))) rfl rfl ?_
  refine o_give (g_move (evv rfl)) rfl rfl ?_
  refine o_lazy rfl (fun hg => g_fld (evv rfl)) rfl rfl ?_
  refine o_lazy rfl (fun hg => g_load (evg rfl hg) (by rfl) (by rfl)) rfl rfl ?_
  refine o_lazy rfl (fun hg => g_fld (evv rfl)) rfl rfl ?_
  refine o_lazy rfl (fun hg => g_load (evg rfl hg) (by rfl) (by rfl)) rfl rfl ?_
  refine o_lazy rfl (fun hg => g_bin (by first | exact evv rfl | exact evg rfl (by rw [hp]; rfl) | exact evg rfl hp | exact evg rfl hg | exact evg rfl (by first | (simp_all; done) | (simp [*]; done) | fail) | fail) (by first | exact evv rfl | exact evg rfl (by rw [hp]; rfl) | exact evg rfl hp | exact evg rfl hg | exact evg rfl (by first | (simp_all; done) | (simp [*]; done) | fail) | fail) (by rfl)) rfl rfl ?_
  refine o_give (g_pick_or (evv rfl) (evv rfl) (fun hp => (by first | exact evv rfl | exact evg rfl (by rw [hp]; rfl) | exact evg rfl hp | exact evg rfl hg | exact evg rfl (by first | (simp_all; done) | (simp [*]; done) | fail) | fail))) rfl rfl ?_
  refine o_give (g_move (evv rfl)) rfl rfl ?_
  refine o_lazy rfl (fun hg => g_fld (evv rfl)) rfl rfl ?_
  refine o_lazy rfl (fun hg => g_load (evg rfl hg) (by rfl) (by rfl)) rfl rfl ?_
  refine o_lazy rfl (fun hg => g_fld (evv rfl)) rfl rfl ?_
  refine o_lazy rfl (fun hg => g_load (evg rfl hg) (by rfl) (by rfl)) rfl rfl ?_
  refine o_lazy rfl (fun hg => g_binS (by first | exact evv rfl | exact evg rfl (by rw [hp]; rfl) | exact evg rfl hp | exact evg rfl hg | exact evg rfl (by first | (simp_all; done) | (simp [*]; done) | fail) | fail) (by first | exact evv rfl | exact evg rfl (by rw [hp]; rfl) | exact evg rfl hp | exact evg rfl hg | exact evg rfl (by first | (simp_all; done) | (simp [*]; done) | fail) | fail) (by rfl)) rfl rfl ?_
  refine o_give (g_pick_or (evv rfl) (evv rfl) (fun hp => (by first | exact evv rfl | exact evg rfl (by rw [hp]; rfl) | exact evg rfl hp | exact evg rfl hg | exact evg rfl (by first | (simp_all; done) | (simp [*]; done) | fail) | fail))) rfl rfl ?_
  refine o_give (g_move (evv rfl)) rfl rfl ?_
  refine o_lazy rfl (fun hg => g_fld (evv rfl)) rfl rfl ?_
  refine o_lazy rfl (fun hg => g_load (evg rfl hg) (by rfl) (by rfl)) rfl rfl ?_
  refine o_lazy rfl (fun hg => g_lenM (by first | exact evv rfl | exact evg rfl (by rw [hp]; rfl) | exact evg rfl hp | exact evg rfl hg | exact evg rfl (by first | (simp_all; done) | (simp [*]; done) | fail) | fail)) rfl rfl ?_
  refine o_lazy rfl (fun hg => g_fld (evv rfl)) rfl rfl ?_
  refine o_lazy rfl (fun hg => g_load (evg rfl hg) (by rfl) (by rfl)) rfl rfl ?_
  refine o_lazy rfl (fun hg => g_lenM (by first | exact evv rfl | exact evg rfl (by rw [hp]; rfl) | exact evg rfl hp | exact evg rfl hg | exact evg rfl (by first | (simp_all; done) | (simp [*]; done) | fail) | fail)) rfl rfl ?_
  refine o_lazy rfl (fun hg => g_bin (by first | exact evv rfl | exact evg rfl (by rw [hp]; rfl) | exact evg rfl hp | exact evg rfl hg | exact evg rfl (by first | (simp_all; done) | (simp [*]; done) | fail) | fail) (by first | exact evv rfl | exact evg rfl (by rw [hp]; rfl) | exact evg rfl hp | exact evg rfl hg | exact evg rfl (by first | (simp_all; done) | (simp [*]; done) | fail) | fail) (by rfl)) rfl rfl ?_
  refine o_give (g_pick_or (evv rfl) (evv rfl) (fun hp => (by first | exact evv rfl | exact evg rfl (by rw [hp]; rfl) | exact evg rfl hp | exact evg rfl hg | exact evg rfl (by first | (simp_all; done) | (simp [*]; done) | fail) | fail))) rfl rfl ?_
  refine o_nil ?_
  refine c_code ?_
  simp only [bne_self_eq_false, Bool.or_false]
  refine r_cond_false rfl ?_
  refine r_skip ?_
  refine c_code ?_
  refine r_seq ?_
  refine r_seq ?_
  refine r_region (id := 3) ?_
  refine o_give (g_assign (evv rfl)) rfl rfl ?_
  refine o_nil ?_
  refine c_code ?_
  refine r_block ?_
  refine r_loopE (σ := Nat) (fun i => i ≤ r.names.length) (fun i => r.names.length - i) (fun i => [(5, .v (.int .i64 i))]) [2, 3] (fun i => blk b2 ⟨reslV r v2, 35⟩ :: blk b1 ⟨reslV r v1, 35⟩ :: L) 0 (by dsimp only [pickE, pick1, lk2, Nat.reduceBEq, Nat.reduceAdd, Nat.zero_add, cond_true, cond_false] <;> exact rfl) ?_ (by repeat (first | exact trivial | refine ⟨rfl, ?_⟩ | refine envsub_v rfl (by first | rfl | (refine int_eq ?_; first | omega | (simp; omega) | (simp; done)) | (refine bool_eq ?_; first | (simp [*]; done) | (simp; done)) | (refine str_eq ?_; simp; done) | (refine ptr_eq ?_; omega) | fail) ?_)) ?_ ?_
  · exact Nat.zero_le _
  · exact Lay.ent
  rintro i hi; (try dsimp only at hi); dsimp only [List.cons_append, List.nil_append]
  refine r_seq ?_
  refine r_seq ?_
  refine r_region (id := 4) ?_
  refine o_give (g_move (evv rfl)) rfl rfl ?_
  refine o_give (g_fld (evv rfl)) rfl rfl ?_
  refine o_give (g_load (evv rfl) (by rfl) (by rfl)) rfl rfl ?_
  refine o_give (g_lenM (evv rfl)) rfl rfl ?_
  refine o_give (g_bin (evv rfl) (evv rfl) (by rfl)) rfl rfl ?_
  refine o_nil ?_
  refine c_code ?_
  refine r_cond rfl (fun hc => ?_) (fun hc => ?_) <;> (try simp only [decide_eq_true_eq, decide_eq_false_iff_not, Bool.and_eq_true, Bool.or_eq_true, Bool.not_eq_true', Bool.and_eq_false_iff, Bool.or_eq_false_iff, Bool.not_eq_false', Bool.not_eq_true, Bool.not_eq_false, Bool.true_eq_false, Bool.false_eq_true, Int.not_lt, Int.not_le, not_and, not_or, ne_eq] at hc)
  · have hil : i < r.names.length := by omega
    refine r_skip ?_
    refine c_code ?_
    refine r_seq ?_
    refine r_block ?_
    refine r_seq ?_
    refine r_quiet (id := 6) Mixed.h (by kernel_rfl) ?_
    refine q_give (g_fld (evv rfl)) rfl rfl ?_
    refine q_give (g_load (evv rfl) (by rfl) (by rfl)) rfl rfl ?_
    refine q_give (g_move (evv rfl)) rfl rfl ?_
    refine q_give (g_idxMN (evv rfl) (evv rfl) (by rfl) (by first | omega | (have := of_decide_eq_true hg; omega) | (simp at hg; omega) | (simp only [List.length_set, List.length_append, List.length_cons, List.length_nil, List.length_map, List.length_take, List.length_drop, List.length_replicate]; omega))) rfl rfl ?_
    refine q_give (g_loadM (evv rfl) (by rfl) (by first | omega | (have := of_decide_eq_true hg; omega) | (simp at hg; omega) | (simp only [List.length_set, List.length_append, List.length_cons, List.length_nil, List.length_map, List.length_take, List.length_drop, List.length_replicate]; omega))) rfl rfl ?_
    refine q_give (g_fld (evv rfl)) rfl rfl ?_
    refine q_give (g_load (evv rfl) (by rfl) (by rfl)) rfl rfl ?_
    refine q_give (g_move (evv rfl)) rfl rfl ?_
    refine q_give (g_idxMN (evv rfl) (evv rfl) (by rfl) (by first | omega | (have := of_decide_eq_true hg; omega) | (simp at hg; omega) | (simp only [List.length_set, List.length_append, List.length_cons, List.length_nil, List.length_map, List.length_take, List.length_drop, List.length_replicate]; omega))) rfl rfl ?_
    refine q_give (g_loadM (evv rfl) (by rfl) (by first | omega | (have := of_decide_eq_true hg; omega) | (simp at hg; omega) | (simp only [List.length_set, List.length_append, List.length_cons, List.length_nil, List.length_map, List.length_take, List.length_drop, List.length_replicate]; omega))) rfl rfl ?_
    refine q_give (g_binS (evv rfl) (evv rfl) (by rfl)) rfl rfl ?_
    refine q_nil ?_
    refine c_code ?_
    simp only [decide_true, Bool.not_true]
    refine r_cond_false rfl ?_
    refine r_skip ?_
    refine c_blk ?_
    refine c_code ?_
    refine r_region (id := 5) ?_
    refine o_give (g_move (evv rfl)) rfl rfl ?_
    refine o_giveN (g_bin (evv rfl) (evv rfl) (by rfl)) (by simp only [inR]; omega) rfl ?_
    refine o_give (g_assign (evv rfl)) rfl rfl ?_
    refine o_nil ?_
    refine c_loop (i + 1) ?_ ?_ (by repeat (first | exact trivial | refine ⟨rfl, ?_⟩ | refine envsub_v rfl (by first | rfl | (refine int_eq ?_; first | omega | (simp; omega) | (simp; done)) | (refine bool_eq ?_; first | (simp [*]; done) | (simp; done)) | (refine str_eq ?_; simp; done) | (refine ptr_eq ?_; omega) | fail) ?_)) ?_ <;> (try dsimp only)
    · omega
    · omega
    · exact Lay.ent
  · refine r_exit rfl ?_
    refine c_code ?_
    refine r_seq ?_
    refine r_region (id := 8) ?_
    refine o_give (g_assign (evv rfl)) rfl rfl ?_
    refine o_nil ?_
    refine c_code ?_
    first | refine r_ret (rs := [.tmp 4]) rfl rfl _ ((Lay.ent (L' := L))) ?_ | refine c_end (rs := [.tmp 4]) rfl rfl _ ((Lay.ent (L' := L))) ?_
    exact ⟨rfl, rfl⟩
end VK
