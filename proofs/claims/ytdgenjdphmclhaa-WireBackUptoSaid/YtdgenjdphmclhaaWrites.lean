/- WireWrites, walked. Conditions: the list's bytes are few. -/
import Derived.Test.YtdgenjdphmclhaaLaw
namespace VK
open Go Go.Proofs
set_option linter.unusedSimpArgs false
set_option linter.unusedVariables false
set_option maxRecDepth 100000
set_option maxHeartbeats 2000000
def fldsB (l : List Fld) : List UInt8 := l.flatMap fldB
theorem fldB_le {f : Fld} (hf : f.ok) (hs : f.s.length ≤ 1048576) : (fldB f).length ≤ 42 + f.s.length := by
  have h1 := num_le f.n hf.2.1
  have h2 := num_le (zig (sgn f.n)) (zig_le _ (sgn_in hf.2.1).1 (sgn_in hf.2.1).2)
  have h3 := num_le f.s.length (by omega)
  have h4 := foldD_len f.s
  unfold fldB
  split
  · omega
  · split
    · rw [intB]; omega
    · split
      · simp [textB]; omega
      · split
        · simp [flagB]; omega
        · omega
def wt (l : List Fld) : Nat := (l.map fun f => 42 + f.s.length).sum
theorem fldsB_le : ∀ {l : List Fld}, (∀ f ∈ l, f.ok ∧ f.s.length ≤ 1048576) → (fldsB l).length ≤ wt l
  | [], _ => Nat.le_refl _
  | f :: l, h => by
    have h1 := fldB_le (h f (by simp)).1 (h f (by simp)).2
    have h2 := fldsB_le (l := l) fun g hg => h g (by simp [hg])
    simp only [fldsB, wt, List.flatMap_cons, List.length_append, List.map_cons, List.sum_cons] at h2 ⊢
    omega
theorem wt_take {l : List Fld} (k : Nat) (h : k < l.length) : wt (l.take k) + (42 + (l[k]).s.length) ≤ wt l := by
  have hd : l.drop k = l[k] :: l.drop (k + 1) := List.drop_eq_getElem_cons h
  have h2 : wt l = wt (l.take k) + wt (l.drop k) := by
    conv => lhs; rw [← List.take_append_drop k l]
    simp only [wt, List.map_append, List.sum_append]
  rw [h2, hd]
  simp only [wt, List.map_cons, List.sum_cons]
  omega
theorem WireWrites_c (L : List Atom) (v : Value) (l : List Fld) [rd : Rd L v (frow fldC 4 31 l)] (hl : ∀ f ∈ l, f.ok ∧ f.s.length ≤ 1048576) (hw : wt l ≤ 140737480000000) :
    Fn Try.prog 3 [v] L fun v L' => v = .bool true ∧ L' = L := by
  refine fn_lenF rd fun hlen => ?_
  have hlen : l.length ≤ 2 ^ 63 - 1 := hlen
  refine fn_intro Try.func3 rfl Try.ntmps3 rfl (fun W0 => ?_)
  simp only [argE]
  repeat (first
      | (first | refine r_seq ?_ | refine c_code ?_ | refine c_blk ?_ | refine r_block ?_ | refine r_skip ?_ | refine r_exit rfl ?_ | refine r_cond_true rfl ?_ | refine r_cond_false rfl ?_)
      | (refine r_region (id := 0) ?_; try ((first | refine o_give (g_assign (evv rfl)) rfl rfl ?_); try ((refine o_nil ?_))))
      | (refine r_region (id := 1) ?_; try ((first | (refine o_call rfl _ (Ent.refl _) (awake_c _) rfl ?_; rintro _ _ ⟨rfl, hLz⟩; obtain rfl := hLz.symm; clear hLz)); try ((first | refine o_give (g_not (evv rfl)) rfl rfl ?_); try ((refine o_nil ?_)))))
      | (refine r_region (id := 2) ?_; try ((first | refine o_give (g_assign (evv rfl)) rfl rfl ?_); try ((refine o_nil ?_))))
      | (refine r_region (id := 3) ?_; try ((first | refine o_give (g_buildC rfl (by rfl)) rfl rfl ?_ | refine o_give (g_build (by rfl) (by rfl)) rfl rfl ?_); try ((first | refine o_boxA (evv rfl) rfl (fun _ => ?_) | refine o_box1 (evv rfl) rfl (fun _ => ?_) | refine o_box (evv rfl) rfl rfl (fun _ => ?_)); try ((first | refine o_give (g_assign (evv rfl)) rfl rfl ?_); try ((refine o_nil ?_)))))))
  rename_i o
  refine r_ent _ (newOut o) ?_
  repeat (first
      | (first | refine r_seq ?_ | refine c_code ?_ | refine c_blk ?_ | refine r_block ?_ | refine r_skip ?_ | refine r_exit rfl ?_ | refine r_cond_true rfl ?_ | refine r_cond_false rfl ?_)
      | (refine r_region (id := 4) ?_; try ((first | refine o_give (g_assign (evv rfl)) rfl rfl ?_); try ((refine o_nil ?_))))
      | (refine r_region (id := 5) ?_; try ((first | refine o_give (g_assign (evv rfl)) rfl rfl ?_); try ((refine o_nil ?_)))))
  refine r_loop (σ := Nat × Value) (fun s => s.1 ≤ l.length) (fun s => l.length - s.1) (fun s => [(0, .v v), (3, .v (.pointer (some ⟨o, 0, none⟩))), (4, .v s.2), (5, .v (.int .i64 s.1))]) (fun s => sl s.2 (mrow by8 5 (fldsB (l.take s.1))) :: outA o (fldsB (l.take s.1)) :: L) (0, .slice none 0 0) (Nat.zero_le _) ⟨rfl, rfl, rfl, rfl, trivial⟩ (Ent.nilM by8 5) ?_
  rintro ⟨k, u⟩ h1
  dsimp only at h1 ⊢
  have hb := fldsB_le (l := l.take k) fun f hf => hl f (List.mem_of_mem_take hf)
  repeat (first
      | (first | refine r_seq ?_ | refine c_code ?_ | refine c_blk ?_ | refine r_block ?_ | refine r_skip ?_ | refine r_exit rfl ?_ | refine r_cond_true rfl ?_ | refine r_cond_false rfl ?_)
      | (refine r_region (id := 6) ?_; try ((first | refine o_give (g_move (evv rfl)) rfl rfl ?_); try ((first | refine o_give (g_move (evv rfl)) rfl rfl ?_); try ((first | refine o_give (g_len TyU.h (evv rfl)) rfl rfl ?_ | refine o_give (g_lenM (evv rfl)) rfl rfl ?_ | refine o_give (g_lenF (evv rfl)) rfl rfl ?_); try ((first | refine o_give (g_bin (evv rfl) (evv rfl) (by rfl)) rfl rfl ?_); try ((refine o_nil ?_))))))))
  refine r_cond rfl (fun hc => ?_) (fun hc => ?_)
  · have hc := of_decide_eq_true hc
    have hk : k < l.length := by omega
    have hwt := wt_take k hk
    have hget : l.getD (↑k : Int).toNat default = l[k] := by simp [hk]
    have hf := hl l[k] (List.getElem_mem hk)
    have hok := hf.1
    have hfb := fldB_le hf.1 hf.2
    have hcat : fldsB (l.take (k + 1)) = fldsB (l.take k) ++ fldB l[k] := by rw [List.take_succ_eq_append_getElem hk, fldsB, List.flatMap_append]; simp [fldsB]
    repeat (first
        | (first | refine r_seq ?_ | refine c_code ?_ | refine c_blk ?_ | refine r_block ?_ | refine r_skip ?_ | refine r_exit rfl ?_ | refine r_cond_true rfl ?_ | refine r_cond_false rfl ?_)
        | (refine r_region (id := 8) ?_; try ((first | refine o_give (g_move (evv rfl)) rfl rfl ?_); try ((first | refine o_give (g_move (evv rfl)) rfl rfl ?_); try ((first | refine o_give (g_move (evv rfl)) rfl rfl ?_); try ((first | refine o_give (g_move (evv rfl)) rfl rfl ?_); try ((first | refine o_give (g_idxM (evv rfl) (evv rfl) (by rfl) (by omega) (by omega)) rfl rfl ?_ | refine o_give (g_idxF (evv rfl) (evv rfl) (by rfl) (by rfl) (by omega) (by omega)) rfl rfl ?_); try ((first | refine o_give (g_loadF (evv rfl) (by rfl) (by rfl)) rfl rfl ?_ | refine o_give (g_loadW (evv rfl) (by rfl) (by first | rfl | assumption | (simp [bys, *]; done) | fail)) rfl rfl ?_ | refine o_give (g_loadFr (evv rfl) (by rfl) (by intro; rfl) (by rfl) (by rfl) (by omega)) rfl rfl ?_); try ((first | (refine o_call rfl _ (Ent.refl _) (put_l (by assumption) (by (try simp only [bsOf, List.length_append, List.length_cons, List.length_nil]); omega)) rfl ?_; rintro _ _ ⟨_, rfl⟩)); try ((first | refine o_appM (evv rfl) (evv rfl) (by rfl) (by rfl) (by rfl) (by (try simp only [bsOf, List.length_append, List.length_cons, List.length_nil]); omega) rfl (fun _ => ?_) | refine o_appF (evv rfl) (evv rfl) (by rfl) (by rfl) (by rfl) (by (try simp only [bsOf, List.length_append, List.length_cons, List.length_nil]); omega) rfl (fun _ => ?_)); try ((first | refine o_give (g_assign (evv rfl)) rfl rfl ?_); try ((refine o_nil ?_)))))))))))))
    rw [hget]
    (try ((first | (refine o_call rfl _ (Ent.refl _) (put_l (by assumption) (by (try simp only [bsOf, List.length_append, List.length_cons, List.length_nil]); omega)) rfl ?_; rintro _ _ ⟨_, rfl⟩)); try ((first | refine o_appM (evv rfl) (evv rfl) (by rfl) (by rfl) (by rfl) (by (try simp only [bsOf, List.length_append, List.length_cons, List.length_nil]); omega) rfl (fun _ => ?_) | refine o_appF (evv rfl) (evv rfl) (by rfl) (by rfl) (by rfl) (by (try simp only [bsOf, List.length_append, List.length_cons, List.length_nil]); omega) rfl (fun _ => ?_)); try ((first | refine o_give (g_assign (evv rfl)) rfl rfl ?_); try ((refine o_nil ?_))))))
    repeat (first
        | (first | refine r_seq ?_ | refine c_code ?_ | refine c_blk ?_ | refine r_block ?_ | refine r_skip ?_ | refine r_exit rfl ?_ | refine r_cond_true rfl ?_ | refine r_cond_false rfl ?_))
    rename_i p _ w
    rw [← hcat]
    have hb1 : (fldsB (l.take (k + 1))).length ≤ 140737488000000 := by rw [hcat, List.length_append]; omega
    repeat (first
        | (first | refine r_seq ?_ | refine c_code ?_ | refine c_blk ?_ | refine r_block ?_ | refine r_skip ?_ | refine r_exit rfl ?_ | refine r_cond_true rfl ?_ | refine r_cond_false rfl ?_)
        | (refine r_region (id := 0) ?_; try ((first | refine o_give (g_assign (evv rfl)) rfl rfl ?_); try ((refine o_nil ?_)))))
    refine r_cut (σ := Value) (fun s => [(0, .v v), (3, .v (.pointer (some ⟨o, 0, none⟩))), (4, .v w), (5, .v (.int .i64 k)), (30, .v (.bool (!decide (fldsB (l.take (k + 1)) = fldsB (l.take (k + 1))))))]) (fun s => sl w (mrow by8 5 (fldsB (l.take (k + 1)))) :: outA o (fldsB (l.take (k + 1))) :: L) ?_ (fun s => ?_)
    · skip
      refine r_draw (id := 9) Mixed.h ?_
      first | refine d_take (i := 0) (by kernel_rfl) rfl (fun W0 => g_move (evv rfl)) rfl ?_
      first | refine d_take (i := 3) (by kernel_rfl) rfl (fun W0 => g_move (evv rfl)) rfl ?_
      refine d_two (i := 1) (j := 4) (by kernel_rfl) rfl rfl ?_ ?_
      · (first | (refine o_call rfl _ (Ent.refl _) (Bytes_l (by (try simp only [bsOf, List.length_append, List.length_cons, List.length_nil]); omega)) rfl ?_; rintro _ _ ⟨_, rfl⟩) | (refine o_call rfl _ (Ent.refl _) (Bytes_nil _) rfl ?_; rintro _ _ ⟨rfl, hLz⟩; obtain rfl := hLz.symm; clear hLz)); refine o_nil ?_
        refine d_two (i := 2) (j := 4) (by kernel_rfl) rfl rfl ?_ ?_
        · (first | refine o_give (g_b2sM (evv rfl)) rfl rfl ?_ | refine o_give (g_b2s0 (evv rfl)) rfl rfl ?_); refine o_nil ?_
          refine d_one (i := 4) (by kernel_rfl) rfl ?_
          (first | refine o_give (g_b2sM (evv rfl)) rfl rfl ?_ | refine o_give (g_b2s0 (evv rfl)) rfl rfl ?_); refine o_nil ?_
          first | refine d_take (i := 5) (by kernel_rfl) rfl (fun W0 => g_binS (evv rfl) (evv rfl) (by rfl)) rfl ?_
          refine d_done (by kernel_rfl) ?_
          exact c_cut w ⟨rfl, rfl, rfl, rfl, rfl, trivial⟩ (Ent.drop.trans Ent.drop)
        · (first | refine o_give (g_b2sM (evv rfl)) rfl rfl ?_ | refine o_give (g_b2s0 (evv rfl)) rfl rfl ?_); refine o_nil ?_
          refine d_one (i := 2) (by kernel_rfl) rfl ?_
          (first | refine o_give (g_b2sM (evv rfl)) rfl rfl ?_ | refine o_give (g_b2s0 (evv rfl)) rfl rfl ?_); refine o_nil ?_
          first | refine d_take (i := 5) (by kernel_rfl) rfl (fun W0 => g_binS (evv rfl) (evv rfl) (by rfl)) rfl ?_
          refine d_done (by kernel_rfl) ?_
          exact c_cut w ⟨rfl, rfl, rfl, rfl, rfl, trivial⟩ (Ent.drop.trans Ent.drop)
      · (first | refine o_give (g_b2sM (evv rfl)) rfl rfl ?_ | refine o_give (g_b2s0 (evv rfl)) rfl rfl ?_); refine o_nil ?_
        refine d_one (i := 1) (by kernel_rfl) rfl ?_
        (first | (refine o_call rfl _ (Ent.refl _) (Bytes_l (by (try simp only [bsOf, List.length_append, List.length_cons, List.length_nil]); omega)) rfl ?_; rintro _ _ ⟨_, rfl⟩) | (refine o_call rfl _ (Ent.refl _) (Bytes_nil _) rfl ?_; rintro _ _ ⟨rfl, hLz⟩; obtain rfl := hLz.symm; clear hLz)); refine o_nil ?_
        refine d_one (i := 2) (by kernel_rfl) rfl ?_
        (first | refine o_give (g_b2sM (evv rfl)) rfl rfl ?_ | refine o_give (g_b2s0 (evv rfl)) rfl rfl ?_); refine o_nil ?_
        first | refine d_take (i := 5) (by kernel_rfl) rfl (fun W0 => g_binS (evv rfl) (evv rfl) (by rfl)) rfl ?_
        refine d_done (by kernel_rfl) ?_
        exact c_cut w ⟨rfl, rfl, rfl, rfl, rfl, trivial⟩ (Ent.drop.trans Ent.drop)
    · simp only [decide_true, Bool.not_true]
      repeat (first
          | (first | refine r_seq ?_ | refine c_code ?_ | refine c_blk ?_ | refine r_block ?_ | refine r_skip ?_ | refine r_exit rfl ?_ | refine r_cond_true rfl ?_ | refine r_cond_false rfl ?_)
          | (refine r_region (id := 0) ?_; try ((first | refine o_give (g_assign (evv rfl)) rfl rfl ?_); try ((refine o_nil ?_))))
          | (refine r_region (id := 1) ?_; try ((first | (refine o_call rfl _ (Ent.refl _) (awake_c _) rfl ?_; rintro _ _ ⟨rfl, hLz⟩; obtain rfl := hLz.symm; clear hLz)); try ((first | refine o_give (g_not (evv rfl)) rfl rfl ?_); try ((refine o_nil ?_)))))
          | (refine r_region (id := 2) ?_; try ((first | refine o_give (g_assign (evv rfl)) rfl rfl ?_); try ((refine o_nil ?_))))
          | (refine r_region (id := 3) ?_; try ((first | refine o_give (g_buildC rfl (by rfl)) rfl rfl ?_ | refine o_give (g_build (by rfl) (by rfl)) rfl rfl ?_); try ((first | refine o_boxA (evv rfl) rfl (fun _ => ?_) | refine o_box1 (evv rfl) rfl (fun _ => ?_) | refine o_box (evv rfl) rfl rfl (fun _ => ?_)); try ((first | refine o_give (g_assign (evv rfl)) rfl rfl ?_); try ((refine o_nil ?_))))))
          | (refine r_region (id := 4) ?_; try ((first | refine o_give (g_assign (evv rfl)) rfl rfl ?_); try ((refine o_nil ?_))))
          | (refine r_region (id := 5) ?_; try ((first | refine o_give (g_assign (evv rfl)) rfl rfl ?_); try ((refine o_nil ?_))))
          | (refine r_region (id := 6) ?_; try ((first | refine o_give (g_move (evv rfl)) rfl rfl ?_); try ((first | refine o_give (g_move (evv rfl)) rfl rfl ?_); try ((first | refine o_give (g_len TyU.h (evv rfl)) rfl rfl ?_ | refine o_give (g_lenM (evv rfl)) rfl rfl ?_ | refine o_give (g_lenF (evv rfl)) rfl rfl ?_); try ((first | refine o_give (g_bin (evv rfl) (evv rfl) (by rfl)) rfl rfl ?_); try ((refine o_nil ?_)))))))
          | (refine r_region (id := 7) ?_; try ((first | refine o_give (g_move (evv rfl)) rfl rfl ?_); try ((first | refine o_giveN (g_bin (evv rfl) (evv rfl) (by rfl)) (by simp only [inR]; omega) rfl ?_ | refine o_giveU (g_bin (evv rfl) (evv rfl) (by rfl)) (by rfl) rfl ?_ | refine o_give (g_bin (evv rfl) (evv rfl) (by rfl)) rfl rfl ?_); try ((first | refine o_give (g_assign (evv rfl)) rfl rfl ?_); try ((refine o_nil ?_))))))
          | (refine r_region (id := 8) ?_; try ((first | refine o_give (g_move (evv rfl)) rfl rfl ?_); try ((first | refine o_give (g_move (evv rfl)) rfl rfl ?_); try ((first | refine o_give (g_move (evv rfl)) rfl rfl ?_); try ((first | refine o_give (g_move (evv rfl)) rfl rfl ?_); try ((first | refine o_give (g_idxM (evv rfl) (evv rfl) (by rfl) (by omega) (by omega)) rfl rfl ?_ | refine o_give (g_idxF (evv rfl) (evv rfl) (by rfl) (by rfl) (by omega) (by omega)) rfl rfl ?_); try ((first | refine o_give (g_loadF (evv rfl) (by rfl) (by rfl)) rfl rfl ?_ | refine o_give (g_loadW (evv rfl) (by rfl) (by first | rfl | assumption | (simp [bys, *]; done) | fail)) rfl rfl ?_ | refine o_give (g_loadFr (evv rfl) (by rfl) (by intro; rfl) (by rfl) (by rfl) (by omega)) rfl rfl ?_); try ((first | (refine o_call rfl _ (Ent.refl _) (put_l (by assumption) (by (try simp only [bsOf, List.length_append, List.length_cons, List.length_nil]); omega)) rfl ?_; rintro _ _ ⟨_, rfl⟩)); try ((first | refine o_appM (evv rfl) (evv rfl) (by rfl) (by rfl) (by rfl) (by (try simp only [bsOf, List.length_append, List.length_cons, List.length_nil]); omega) rfl (fun _ => ?_) | refine o_appF (evv rfl) (evv rfl) (by rfl) (by rfl) (by rfl) (by (try simp only [bsOf, List.length_append, List.length_cons, List.length_nil]); omega) rfl (fun _ => ?_)); try ((first | refine o_give (g_assign (evv rfl)) rfl rfl ?_); try ((refine o_nil ?_))))))))))))
          | (refine r_draw (id := 9) Mixed.h ?_; try ((first | refine d_take (i := 0) (by kernel_rfl) rfl (fun W0 => g_move (evv rfl)) rfl ?_); try ((first | refine d_take (i := 3) (by kernel_rfl) rfl (fun W0 => g_move (evv rfl)) rfl ?_); try ((fail); try ((fail); try (((refine d_one (i := 4) (by kernel_rfl) rfl ?_; (first | refine o_give (g_b2sM (evv rfl)) rfl rfl ?_ | refine o_give (g_b2s0 (evv rfl)) rfl rfl ?_); refine o_nil ?_)); try ((first | refine d_take (i := 5) (by kernel_rfl) rfl (fun W0 => g_binS (evv rfl) (evv rfl) (by rfl)) rfl ?_); try ((refine d_done (by kernel_rfl) ?_)))))))))
          | (refine r_region (id := 10) ?_; try ((first | refine o_give (g_assign (evv rfl)) rfl rfl ?_); try ((refine o_nil ?_))))
          | (refine r_region (id := 11) ?_; try ((first | refine o_give (g_assign (evv rfl)) rfl rfl ?_); try ((refine o_nil ?_))))
          | (refine r_region (id := 12) ?_; try ((first | refine o_give (g_move (evv rfl)) rfl rfl ?_); try ((first | (refine o_call rfl _ (Ent.refl _) (Num_l _ (by omega) (by (try simp only [bsOf, List.length_append, List.length_cons, List.length_nil]); omega)) rfl ?_; rintro _ _ ⟨rfl, rfl⟩; (try simp only [Int.toNat_natCast])) | (refine o_call rfl _ (Ent.refl _) (Num_nil _ _) rfl ?_; rintro _ _ ⟨rfl, hLz⟩; obtain rfl := hLz.symm; clear hLz)); try ((refine o_nil ?_)))))
          | (refine r_region (id := 13) ?_; try ((first | refine o_give (g_move (evv rfl)) rfl rfl ?_); try ((first | (refine o_call rfl _ (Ent.refl _) (Text_l (by (try simp only [bsOf, List.length_append, List.length_cons, List.length_nil]); omega)) rfl ?_; rintro _ _ ⟨rfl, rfl⟩) | (refine o_call rfl _ (Ent.refl _) (Text_nil _ _) rfl ?_; rintro _ _ ⟨rfl, hLz⟩; obtain rfl := hLz.symm; clear hLz)); try ((refine o_nil ?_)))))
          | (refine r_region (id := 14) ?_; try ((first | refine o_give (g_move (evv rfl)) rfl rfl ?_); try ((first | (refine o_call rfl _ (Ent.refl _) (Bytes_l (by (try simp only [bsOf, List.length_append, List.length_cons, List.length_nil]); omega)) rfl ?_; rintro _ _ ⟨_, rfl⟩) | (refine o_call rfl _ (Ent.refl _) (Bytes_nil _) rfl ?_; rintro _ _ ⟨rfl, hLz⟩; obtain rfl := hLz.symm; clear hLz)); try ((first | refine o_give (g_len TyU.h (evv rfl)) rfl rfl ?_ | refine o_give (g_lenM (evv rfl)) rfl rfl ?_ | refine o_give (g_lenF (evv rfl)) rfl rfl ?_); try ((first | refine o_give (g_bin (evv rfl) (evv rfl) (by rfl)) rfl rfl ?_); try ((first | refine o_give (g_assign (evv rfl)) rfl rfl ?_); try ((refine o_nil ?_)))))))))
      exact c_loop (k + 1, w) (by dsimp only; omega) (by dsimp only; omega) ⟨rfl, rfl, rfl, rfl, trivial⟩ (Ent.refl _)
  · have hc := of_decide_eq_false hc
    repeat (first
        | (first | refine r_seq ?_ | refine c_code ?_ | refine c_blk ?_ | refine r_block ?_ | refine r_skip ?_ | refine r_exit rfl ?_ | refine r_cond_true rfl ?_ | refine r_cond_false rfl ?_)
        | (refine r_region (id := 0) ?_; try ((first | refine o_give (g_assign (evv rfl)) rfl rfl ?_); try ((refine o_nil ?_))))
        | (refine r_region (id := 1) ?_; try ((first | (refine o_call rfl _ (Ent.refl _) (awake_c _) rfl ?_; rintro _ _ ⟨rfl, hLz⟩; obtain rfl := hLz.symm; clear hLz)); try ((first | refine o_give (g_not (evv rfl)) rfl rfl ?_); try ((refine o_nil ?_)))))
        | (refine r_region (id := 2) ?_; try ((first | refine o_give (g_assign (evv rfl)) rfl rfl ?_); try ((refine o_nil ?_))))
        | (refine r_region (id := 3) ?_; try ((first | refine o_give (g_buildC rfl (by rfl)) rfl rfl ?_ | refine o_give (g_build (by rfl) (by rfl)) rfl rfl ?_); try ((first | refine o_boxA (evv rfl) rfl (fun _ => ?_) | refine o_box1 (evv rfl) rfl (fun _ => ?_) | refine o_box (evv rfl) rfl rfl (fun _ => ?_)); try ((first | refine o_give (g_assign (evv rfl)) rfl rfl ?_); try ((refine o_nil ?_))))))
        | (refine r_region (id := 4) ?_; try ((first | refine o_give (g_assign (evv rfl)) rfl rfl ?_); try ((refine o_nil ?_))))
        | (refine r_region (id := 5) ?_; try ((first | refine o_give (g_assign (evv rfl)) rfl rfl ?_); try ((refine o_nil ?_))))
        | (refine r_region (id := 6) ?_; try ((first | refine o_give (g_move (evv rfl)) rfl rfl ?_); try ((first | refine o_give (g_move (evv rfl)) rfl rfl ?_); try ((first | refine o_give (g_len TyU.h (evv rfl)) rfl rfl ?_ | refine o_give (g_lenM (evv rfl)) rfl rfl ?_ | refine o_give (g_lenF (evv rfl)) rfl rfl ?_); try ((first | refine o_give (g_bin (evv rfl) (evv rfl) (by rfl)) rfl rfl ?_); try ((refine o_nil ?_)))))))
        | (refine r_region (id := 7) ?_; try ((first | refine o_give (g_move (evv rfl)) rfl rfl ?_); try ((first | refine o_giveN (g_bin (evv rfl) (evv rfl) (by rfl)) (by simp only [inR]; omega) rfl ?_ | refine o_giveU (g_bin (evv rfl) (evv rfl) (by rfl)) (by rfl) rfl ?_ | refine o_give (g_bin (evv rfl) (evv rfl) (by rfl)) rfl rfl ?_); try ((first | refine o_give (g_assign (evv rfl)) rfl rfl ?_); try ((refine o_nil ?_))))))
        | (refine r_region (id := 8) ?_; try ((first | refine o_give (g_move (evv rfl)) rfl rfl ?_); try ((first | refine o_give (g_move (evv rfl)) rfl rfl ?_); try ((first | refine o_give (g_move (evv rfl)) rfl rfl ?_); try ((first | refine o_give (g_move (evv rfl)) rfl rfl ?_); try ((first | refine o_give (g_idxM (evv rfl) (evv rfl) (by rfl) (by omega) (by omega)) rfl rfl ?_ | refine o_give (g_idxF (evv rfl) (evv rfl) (by rfl) (by rfl) (by omega) (by omega)) rfl rfl ?_); try ((first | refine o_give (g_loadF (evv rfl) (by rfl) (by rfl)) rfl rfl ?_ | refine o_give (g_loadW (evv rfl) (by rfl) (by first | rfl | assumption | (simp [bys, *]; done) | fail)) rfl rfl ?_ | refine o_give (g_loadFr (evv rfl) (by rfl) (by intro; rfl) (by rfl) (by rfl) (by omega)) rfl rfl ?_); try ((first | (refine o_call rfl _ (Ent.refl _) (put_l (by assumption) (by (try simp only [bsOf, List.length_append, List.length_cons, List.length_nil]); omega)) rfl ?_; rintro _ _ ⟨_, rfl⟩)); try ((first | refine o_appM (evv rfl) (evv rfl) (by rfl) (by rfl) (by rfl) (by (try simp only [bsOf, List.length_append, List.length_cons, List.length_nil]); omega) rfl (fun _ => ?_) | refine o_appF (evv rfl) (evv rfl) (by rfl) (by rfl) (by rfl) (by (try simp only [bsOf, List.length_append, List.length_cons, List.length_nil]); omega) rfl (fun _ => ?_)); try ((first | refine o_give (g_assign (evv rfl)) rfl rfl ?_); try ((refine o_nil ?_))))))))))))
        | (refine r_draw (id := 9) Mixed.h ?_; try ((first | refine d_take (i := 0) (by kernel_rfl) rfl (fun W0 => g_move (evv rfl)) rfl ?_); try ((first | refine d_take (i := 3) (by kernel_rfl) rfl (fun W0 => g_move (evv rfl)) rfl ?_); try ((fail); try ((fail); try (((refine d_one (i := 4) (by kernel_rfl) rfl ?_; (first | refine o_give (g_b2sM (evv rfl)) rfl rfl ?_ | refine o_give (g_b2s0 (evv rfl)) rfl rfl ?_); refine o_nil ?_)); try ((first | refine d_take (i := 5) (by kernel_rfl) rfl (fun W0 => g_binS (evv rfl) (evv rfl) (by rfl)) rfl ?_); try ((refine d_done (by kernel_rfl) ?_)))))))))
        | (refine r_region (id := 10) ?_; try ((first | refine o_give (g_assign (evv rfl)) rfl rfl ?_); try ((refine o_nil ?_))))
        | (refine r_region (id := 11) ?_; try ((first | refine o_give (g_assign (evv rfl)) rfl rfl ?_); try ((refine o_nil ?_))))
        | (refine r_region (id := 12) ?_; try ((first | refine o_give (g_move (evv rfl)) rfl rfl ?_); try ((first | (refine o_call rfl _ (Ent.refl _) (Num_l _ (by omega) (by (try simp only [bsOf, List.length_append, List.length_cons, List.length_nil]); omega)) rfl ?_; rintro _ _ ⟨rfl, rfl⟩; (try simp only [Int.toNat_natCast])) | (refine o_call rfl _ (Ent.refl _) (Num_nil _ _) rfl ?_; rintro _ _ ⟨rfl, hLz⟩; obtain rfl := hLz.symm; clear hLz)); try ((refine o_nil ?_)))))
        | (refine r_region (id := 13) ?_; try ((first | refine o_give (g_move (evv rfl)) rfl rfl ?_); try ((first | (refine o_call rfl _ (Ent.refl _) (Text_l (by (try simp only [bsOf, List.length_append, List.length_cons, List.length_nil]); omega)) rfl ?_; rintro _ _ ⟨rfl, rfl⟩) | (refine o_call rfl _ (Ent.refl _) (Text_nil _ _) rfl ?_; rintro _ _ ⟨rfl, hLz⟩; obtain rfl := hLz.symm; clear hLz)); try ((refine o_nil ?_)))))
        | (refine r_region (id := 14) ?_; try ((first | refine o_give (g_move (evv rfl)) rfl rfl ?_); try ((first | (refine o_call rfl _ (Ent.refl _) (Bytes_l (by (try simp only [bsOf, List.length_append, List.length_cons, List.length_nil]); omega)) rfl ?_; rintro _ _ ⟨_, rfl⟩) | (refine o_call rfl _ (Ent.refl _) (Bytes_nil _) rfl ?_; rintro _ _ ⟨rfl, hLz⟩; obtain rfl := hLz.symm; clear hLz)); try ((first | refine o_give (g_len TyU.h (evv rfl)) rfl rfl ?_ | refine o_give (g_lenM (evv rfl)) rfl rfl ?_ | refine o_give (g_lenF (evv rfl)) rfl rfl ?_); try ((first | refine o_give (g_bin (evv rfl) (evv rfl) (by rfl)) rfl rfl ?_); try ((first | refine o_give (g_assign (evv rfl)) rfl rfl ?_); try ((refine o_nil ?_)))))))))
    exact r_ret (rs := [.tmp 2]) rfl rfl _ (Ent.drop.trans Ent.drop) ⟨rfl, rfl⟩
end VK
