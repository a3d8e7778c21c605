/- WireBack, walked. Conditions: the list's bytes are few. -/
import Derived.Test.YtdgenjdphmclhaaBackP
namespace VK
open Go Go.Proofs
set_option linter.unusedSimpArgs false
set_option linter.unusedVariables false
set_option maxRecDepth 100000
set_option maxHeartbeats 2000000
theorem WireBack_c (L : List Atom) (v : Value) (l : List Fld) (cut : Int) (hcut : -9223372036854775808 ≤ cut ∧ cut ≤ 9223372036854775807) [rd : Rd L v (frow fldC 4 31 l)] (hl : ∀ f ∈ l, f.ok ∧ f.s.length ≤ 1048576) (hw : wt l ≤ 140737480000000) :
    Fn Try.prog 8 [v, .int .i64 cut] L fun v L' => v = .bool true ∧ L' = L := by
  refine fn_lenF rd fun hlen => ?_
  have hlen : l.length ≤ 2 ^ 63 - 1 := hlen
  have hbl := fldsB_le hl
  refine fn_intro Try.func8 rfl Try.ntmps8 rfl (fun W0 => ?_)
  simp only [argE]
  repeat (first
      | (first | refine r_seq ?_ | refine c_code ?_ | refine c_blk ?_ | refine r_block ?_ | refine r_skip ?_ | refine r_exit rfl ?_ | refine r_cond_true rfl ?_ | refine r_cond_false rfl ?_)
      | (refine r_region (id := 0) ?_; try ((first | refine o_give (g_assign (evv rfl)) rfl rfl ?_); try ((refine o_nil ?_))))
      | (refine r_region (id := 1) ?_; try ((first | (refine o_call rfl _ (Ent.refl _) (awake_c _) rfl ?_; rintro _ _ ⟨rfl, hLz⟩; obtain rfl := hLz.symm; clear hLz)); try ((first | refine o_give (g_not (evv rfl)) rfl rfl ?_); try ((refine o_nil ?_)))))
      | (refine r_region (id := 2) ?_; try ((first | refine o_give (g_assign (evv rfl)) rfl rfl ?_); try ((refine o_nil ?_))))
      | (refine r_region (id := 3) ?_; try ((first | refine o_give (g_buildC rfl (by rfl)) rfl rfl ?_ | refine o_give (g_build (by rfl) (by rfl)) rfl rfl ?_); try ((first | refine o_boxA (evv rfl) rfl (fun _ => ?_) | refine o_box1 (evv rfl) rfl (fun _ => ?_) | refine o_box (evv rfl) rfl rfl (fun _ => ?_)); try ((first | refine o_give (g_assign (evv rfl)) rfl rfl ?_); try ((refine o_nil ?_)))))))
  rename_i o
  refine r_ent _ (newOut o) ?_
  repeat (first
      | (first | refine r_seq ?_ | refine c_code ?_ | refine c_blk ?_ | refine r_block ?_ | refine r_skip ?_ | refine r_exit rfl ?_ | refine r_cond_true rfl ?_ | refine r_cond_false rfl ?_)
      | (refine r_region (id := 4) ?_; try ((first | refine o_give (g_assign (evv rfl)) rfl rfl ?_); try ((refine o_nil ?_)))))
  refine r_loop (σ := Nat) (fun s => s ≤ l.length) (fun s => l.length - s) (fun s => [(0, .v v), (1, .v (.int .i64 cut)), (5, .v (.pointer (some ⟨o, 0, none⟩))), (6, .v (.int .i64 s))]) (fun s => outA o (fldsB (l.take s)) :: L) 0 (Nat.zero_le _) ⟨rfl, rfl, rfl, rfl, trivial⟩ (Ent.refl _) ?_
  intro k h1
  have hb := fldsB_le (l := l.take k) fun f hf => hl f (List.mem_of_mem_take hf)
  repeat (first
      | (first | refine r_seq ?_ | refine c_code ?_ | refine c_blk ?_ | refine r_block ?_ | refine r_skip ?_ | refine r_exit rfl ?_ | refine r_cond_true rfl ?_ | refine r_cond_false rfl ?_)
      | (refine r_region (id := 5) ?_; try ((first | refine o_give (g_move (evv rfl)) rfl rfl ?_); try ((first | refine o_give (g_move (evv rfl)) rfl rfl ?_); try ((first | refine o_give (g_len TyU.h (evv rfl)) rfl rfl ?_ | refine o_give (g_lenM (evv rfl)) rfl rfl ?_ | refine o_give (g_lenF (evv rfl)) rfl rfl ?_); try ((first | refine o_give (g_bin (evv rfl) (evv rfl) (by rfl)) rfl rfl ?_); try ((refine o_nil ?_))))))))
  refine r_cond rfl (fun hc => ?_) (fun hc => ?_)
  · have hc := of_decide_eq_true hc
    have hk : k < l.length := by omega
    have hwt := wt_take k hk
    have hget : l.getD (↑k : Int).toNat default = l[k] := by simp [hk]
    have hf := hl l[k] (List.getElem_mem hk)
    have hok := hf.1
    have hcat : fldsB (l.take (k + 1)) = fldsB (l.take k) ++ fldB l[k] := by rw [List.take_succ_eq_append_getElem hk, fldsB, List.flatMap_append]; simp [fldsB]
    repeat (first
        | (first | refine r_seq ?_ | refine c_code ?_ | refine c_blk ?_ | refine r_block ?_ | refine r_skip ?_ | refine r_exit rfl ?_ | refine r_cond_true rfl ?_ | refine r_cond_false rfl ?_)
        | (refine r_region (id := 7) ?_; try ((first | refine o_give (g_move (evv rfl)) rfl rfl ?_); try ((first | refine o_give (g_move (evv rfl)) rfl rfl ?_); try ((first | refine o_give (g_move (evv rfl)) rfl rfl ?_); try ((first | refine o_give (g_idxM (evv rfl) (evv rfl) (by rfl) (by omega) (by omega)) rfl rfl ?_ | refine o_give (g_idxF (evv rfl) (evv rfl) (by rfl) (by rfl) (by omega) (by omega)) rfl rfl ?_); try ((first | refine o_give (g_loadF (evv rfl) (by rfl) (by rfl)) rfl rfl ?_ | refine o_give (g_loadW (evv rfl) (by rfl) (by first | rfl | assumption | (simp [bys, *]; done) | fail)) rfl rfl ?_ | refine o_give (g_loadFr (evv rfl) (by rfl) (by intro; rfl) (by rfl) (by rfl) (by omega)) rfl rfl ?_); try ((first | (refine o_call rfl _ (Ent.refl _) (put_l (by assumption) (by (try simp only [bsOf, List.length_append, List.length_cons, List.length_nil]); omega)) rfl ?_; rintro _ _ ⟨_, rfl⟩)); try ((refine o_nil ?_))))))))))
    rw [hget]
    (try ((first | (refine o_call rfl _ (Ent.refl _) (put_l (by assumption) (by (try simp only [bsOf, List.length_append, List.length_cons, List.length_nil]); omega)) rfl ?_; rintro _ _ ⟨_, rfl⟩)); try ((refine o_nil ?_))))
    repeat (first
        | (first | refine r_seq ?_ | refine c_code ?_ | refine c_blk ?_ | refine r_block ?_ | refine r_skip ?_ | refine r_exit rfl ?_ | refine r_cond_true rfl ?_ | refine r_cond_false rfl ?_)
        | (refine r_region (id := 6) ?_; try ((first | refine o_give (g_move (evv rfl)) rfl rfl ?_); try ((first | refine o_giveN (g_bin (evv rfl) (evv rfl) (by rfl)) (by simp only [inR]; omega) rfl ?_ | refine o_giveU (g_bin (evv rfl) (evv rfl) (by rfl)) (by rfl) rfl ?_ | refine o_give (g_bin (evv rfl) (evv rfl) (by rfl)) rfl rfl ?_); try ((first | refine o_give (g_assign (evv rfl)) rfl rfl ?_); try ((refine o_nil ?_)))))))
    rw [← hcat]
    exact c_loop (k + 1) (by omega) (by omega) ⟨rfl, rfl, rfl, rfl, trivial⟩ Ent.drop
  · have hc := of_decide_eq_false hc
    rw [List.take_of_length_le (by omega)]
    repeat (first
        | (first | refine r_seq ?_ | refine c_code ?_ | refine c_blk ?_ | refine r_block ?_ | refine r_skip ?_ | refine r_exit rfl ?_ | refine r_cond_true rfl ?_ | refine r_cond_false rfl ?_)
        | (refine r_region (id := 8) ?_; try ((first | refine o_give (g_move (evv rfl)) rfl rfl ?_); try ((first | (refine o_call rfl _ (Ent.refl _) (Bytes_l (by (try simp only [bsOf, List.length_append, List.length_cons, List.length_nil]); omega)) rfl ?_; rintro _ _ ⟨_, rfl⟩) | (refine o_call rfl _ (Ent.refl _) (Bytes_nil _) rfl ?_; rintro _ _ ⟨rfl, hLz⟩; obtain rfl := hLz.symm; clear hLz)); try ((first | refine o_give (g_assign (evv rfl)) rfl rfl ?_); try ((refine o_nil ?_))))))
        | (refine r_region (id := 9) ?_; try ((first | refine o_give (g_move (evv rfl)) rfl rfl ?_); try ((first | (refine o_call rfl _ (Ent.refl _) (Read_c _ _ _ (by (try simp only [bsOf, List.length_append, List.length_cons, List.length_nil]); omega)) rfl ?_; rintro _ _ ⟨i, rfl, rfl⟩)); try ((first | refine o_give (g_assign (evv rfl)) rfl rfl ?_); try ((refine o_nil ?_))))))
        | (refine r_region (id := 10) ?_; try ((first | refine o_give (g_assign (evv rfl)) rfl rfl ?_); try ((refine o_nil ?_)))))
    rename_i b _
    refine r_loop (σ := Nat) (fun s => s ≤ l.length) (fun s => l.length - s) (fun s => [(0, .v v), (1, .v (.int .i64 cut)), (7, .v b), (8, .v (.pointer (some ⟨i, 0, none⟩))), (9, .v (.int .i64 s))]) (fun s => inA i ⟨fldsB (l.drop s), 0⟩ :: sl b (mrow by8 5 (fldsB l)) :: L) 0 (Nat.zero_le _) ⟨rfl, rfl, rfl, rfl, rfl, trivial⟩ (Ent.cons (Ent.cons Ent.drop)) ?_
    intro k h1
    repeat (first
        | (first | refine r_seq ?_ | refine c_code ?_ | refine c_blk ?_ | refine r_block ?_ | refine r_skip ?_ | refine r_exit rfl ?_ | refine r_cond_true rfl ?_ | refine r_cond_false rfl ?_)
        | (refine r_region (id := 11) ?_; try ((first | refine o_give (g_move (evv rfl)) rfl rfl ?_); try ((first | refine o_give (g_move (evv rfl)) rfl rfl ?_); try ((first | refine o_give (g_len TyU.h (evv rfl)) rfl rfl ?_ | refine o_give (g_lenM (evv rfl)) rfl rfl ?_ | refine o_give (g_lenF (evv rfl)) rfl rfl ?_); try ((first | refine o_give (g_bin (evv rfl) (evv rfl) (by rfl)) rfl rfl ?_); try ((refine o_nil ?_))))))))
    refine r_cond rfl (fun hd => ?_) (fun hd => ?_)
    · have hd := of_decide_eq_true hd
      have hk : k < l.length := by omega
      have hget : l.getD (↑k : Int).toNat default = l[k] := by simp [hk]
      have hf := hl l[k] (List.getElem_mem hk)
      have hok := hf.1
      have h2 := hok.2.1
      have hcat : fldsB (l.drop k) = fldB l[k] ++ fldsB (l.drop (k + 1)) := by rw [List.drop_eq_getElem_cons hk]; rfl
      rw [hcat]
      repeat (first
          | (first | refine r_seq ?_ | refine c_code ?_ | refine c_blk ?_ | refine r_block ?_ | refine r_skip ?_ | refine r_exit rfl ?_ | refine r_cond_true rfl ?_ | refine r_cond_false rfl ?_)
          | (refine r_region (id := 13) ?_; try ((first | refine o_give (g_move (evv rfl)) rfl rfl ?_); try ((first | refine o_give (g_move (evv rfl)) rfl rfl ?_); try ((first | refine o_give (g_idxM (evv rfl) (evv rfl) (by rfl) (by omega) (by omega)) rfl rfl ?_ | refine o_give (g_idxF (evv rfl) (evv rfl) (by rfl) (by rfl) (by omega) (by omega)) rfl rfl ?_); try ((first | refine o_give (g_loadF (evv rfl) (by rfl) (by rfl)) rfl rfl ?_ | refine o_give (g_loadW (evv rfl) (by rfl) (by first | rfl | assumption | (simp [bys, *]; done) | fail)) rfl rfl ?_ | refine o_give (g_loadFr (evv rfl) (by rfl) (by intro; rfl) (by rfl) (by rfl) (by omega)) rfl rfl ?_); try ((first | refine o_alloc rfl rfl (fun _ => ?_)); try ((first | refine o_storeA (evv rfl) (evv rfl) (by first | rfl | assumption | (simp [bys, *]; done) | fail) (by first | (intro _ _ _; exact bys_one _) | exact AllOne.h | (intro _ _ _ u hu; simp at hu; rcases hu with rfl | rfl | rfl | rfl | rfl | rfl | rfl | rfl <;> rfl) | fail) (by rfl) (by rfl) ?_ | refine o_storeW (evv rfl) (evv rfl) (by first | rfl | assumption | (simp [bys, *]; done) | fail) (by first | (intro _ _ _; exact bys_one _) | exact AllOne.h | (intro _ _ _ u hu; simp at hu; rcases hu with rfl | rfl | rfl | rfl | rfl | rfl | rfl | rfl <;> rfl) | fail) (by first | rfl | (simp [bys, *]; done) | (simp only [bys, List.length_map, *]; rfl) | fail) ?_); try ((refine o_nil ?_))))))))))
      rw [hget]
      (try ((first | refine o_storeA (evv rfl) (evv rfl) (by first | rfl | assumption | (simp [bys, *]; done) | fail) (by first | (intro _ _ _; exact bys_one _) | exact AllOne.h | (intro _ _ _ u hu; simp at hu; rcases hu with rfl | rfl | rfl | rfl | rfl | rfl | rfl | rfl <;> rfl) | fail) (by rfl) (by rfl) ?_ | refine o_storeW (evv rfl) (evv rfl) (by first | rfl | assumption | (simp [bys, *]; done) | fail) (by first | (intro _ _ _; exact bys_one _) | exact AllOne.h | (intro _ _ _ u hu; simp at hu; rcases hu with rfl | rfl | rfl | rfl | rfl | rfl | rfl | rfl <;> rfl) | fail) (by first | rfl | (simp [bys, *]; done) | (simp only [bys, List.length_map, *]; rfl) | fail) ?_); try ((refine o_nil ?_))))
      repeat (first
          | (first | refine r_seq ?_ | refine c_code ?_ | refine c_blk ?_ | refine r_skip ?_ | refine r_exit rfl ?_ | refine r_cond_true rfl ?_ | refine r_cond_false rfl ?_)
          | (refine r_region (id := 14) ?_; try ((first | refine o_give (g_assign (evv rfl)) rfl rfl ?_); try ((refine o_nil ?_))))
          | (refine r_region (id := 15) ?_; try ((first | refine o_give (g_loadF (evv rfl) (by rfl) (by rfl)) rfl rfl ?_ | refine o_give (g_loadW (evv rfl) (by rfl) (by first | rfl | assumption | (simp [bys, *]; done) | fail)) rfl rfl ?_ | refine o_give (g_loadFr (evv rfl) (by rfl) (by intro; rfl) (by rfl) (by rfl) (by omega)) rfl rfl ?_); try ((first | (refine o_call rfl _ (Ent.refl _) (kind_c _ _ (by assumption)) rfl ?_; rintro _ _ ⟨rfl, hLz⟩; obtain rfl := hLz.symm; clear hLz)); try ((refine o_nil ?_))))))
      rename_i b1
      refine r_cut (σ := Unit) (fun _ => [(0, .v v), (1, .v (.int .i64 cut)), (7, .v b), (8, .v (.pointer (some ⟨i, 0, none⟩))), (9, .v (.int .i64 k)), (11, .v (.bool true))]) (fun _ => inA i ⟨fldsB (l.drop (k + 1)), 0⟩ :: sl b (mrow by8 5 (fldsB l)) :: L) ?_ (fun _ => ?_)
      · have hz := unzig_zig (n := sgn l[k].n)
        have eN := numR_num (m := l[k].n) (fldsB (l.drop (k + 1))) h2
        have eI : numR ⟨intB (sgn l[k].n) ++ fldsB (l.drop (k + 1)), 0⟩ = (zig (sgn l[k].n), ⟨fldsB (l.drop (k + 1)), 0⟩) := numR_num (m := zig (sgn l[k].n)) (fldsB (l.drop (k + 1))) (zig_le _ (sgn_in h2).1 (sgn_in h2).2)
        have eT := textR_back (r := fldsB (l.drop (k + 1))) hf.2
        have eF := flagR_back (b := decide (l[k].n % 2 = 1)) (r := fldsB (l.drop (k + 1)))
        have eD := digestR_back (r := fldsB (l.drop (k + 1))) (foldD_len l[k].s)
        rw [fldB]
        repeat (first
            | (first | refine r_seq ?_ | refine c_code ?_ | refine c_blk ?_ | refine r_block ?_ | refine r_skip ?_ | refine r_exit rfl ?_ | refine r_cond_true rfl ?_ | refine r_cond_false rfl ?_)
            | (refine r_region (id := 17) ?_; try ((first | refine o_give (g_bin (evv rfl) (evv rfl) (by rfl)) rfl rfl ?_); try ((first | refine o_give (g_assign (evv rfl)) rfl rfl ?_); try ((refine o_nil ?_))))))
        refine r_cond rfl (fun hc => ?_) (fun hc => ?_)
        · have hc := of_decide_eq_true hc
          rw [if_pos hc]
          refine r_draw (id := 18) Mixed.h ?_
          first | refine d_take (i := 0) (by kernel_rfl) rfl (fun W0 => g_move (evv rfl)) rfl ?_
          first | refine d_take (i := 2) (by kernel_rfl) rfl (fun W0 => g_fld (evv rfl)) rfl ?_ | refine d_take (i := 2) (by kernel_rfl) rfl (fun W0 => g_fldE (evv rfl) (by first | (simp only [frow, mrow]; omega) | fail) (by first | exact Nat.succ_pos _ | decide)) rfl ?_
          refine d_two (i := 1) (j := 3) (by kernel_rfl) rfl rfl ?_ ?_
          · (first | (refine o_call rfl _ (Ent.refl _) inNum_l rfl ?_; rintro _ _ ⟨rfl, rfl⟩)); refine o_nil ?_
            refine d_one (i := 3) (by kernel_rfl) rfl ?_
            (first | refine o_give (g_load (evv rfl) (by rfl) (by rfl)) rfl rfl ?_ | refine o_give (g_loadM (evv rfl) (by rfl) (by omega)) rfl rfl ?_ | refine o_give (g_loadFld (evv rfl) (by rfl) (by intro; rfl) (by omega) (by rfl)) rfl rfl ?_); refine o_nil ?_
            first | refine d_take (i := 4) (by kernel_rfl) rfl (fun W0 => g_bin (evv rfl) (evv rfl) (by rfl)) rfl ?_
            first | refine d_take (i := 5) (by kernel_rfl) rfl (fun W0 => g_assign (evv rfl)) rfl ?_
            refine d_done (by kernel_rfl) ?_
            (refine c_blk ?_; rw [eN]; simp only [eq_self, decide_true]; exact c_cut () ⟨rfl, rfl, rfl, rfl, rfl, rfl, trivial⟩ Ent.drop)
          · (first | refine o_give (g_load (evv rfl) (by rfl) (by rfl)) rfl rfl ?_ | refine o_give (g_loadM (evv rfl) (by rfl) (by omega)) rfl rfl ?_ | refine o_give (g_loadFld (evv rfl) (by rfl) (by intro; rfl) (by omega) (by rfl)) rfl rfl ?_); refine o_nil ?_
            refine d_one (i := 1) (by kernel_rfl) rfl ?_
            (first | (refine o_call rfl _ (Ent.refl _) inNum_l rfl ?_; rintro _ _ ⟨rfl, rfl⟩)); refine o_nil ?_
            first | refine d_take (i := 4) (by kernel_rfl) rfl (fun W0 => g_bin (evv rfl) (evv rfl) (by rfl)) rfl ?_
            first | refine d_take (i := 5) (by kernel_rfl) rfl (fun W0 => g_assign (evv rfl)) rfl ?_
            refine d_done (by kernel_rfl) ?_
            (refine c_blk ?_; rw [eN]; simp only [eq_self, decide_true]; exact c_cut () ⟨rfl, rfl, rfl, rfl, rfl, rfl, trivial⟩ Ent.drop)
        · have hc := of_decide_eq_false hc
          rw [if_neg hc]
          repeat (first
              | (first | refine r_seq ?_ | refine c_code ?_ | refine c_blk ?_ | refine r_block ?_ | refine r_skip ?_ | refine r_exit rfl ?_ | refine r_cond_true rfl ?_ | refine r_cond_false rfl ?_)
              | (refine r_region (id := 19) ?_; try ((first | refine o_give (g_bin (evv rfl) (evv rfl) (by rfl)) rfl rfl ?_); try ((first | refine o_give (g_assign (evv rfl)) rfl rfl ?_); try ((refine o_nil ?_))))))
          refine r_cond rfl (fun hc => ?_) (fun hc => ?_)
          · have hc := of_decide_eq_true hc
            rw [if_pos hc]
            refine r_draw (id := 20) Mixed.h ?_
            first | refine d_take (i := 0) (by kernel_rfl) rfl (fun W0 => g_move (evv rfl)) rfl ?_
            first | refine d_take (i := 2) (by kernel_rfl) rfl (fun W0 => g_fld (evv rfl)) rfl ?_ | refine d_take (i := 2) (by kernel_rfl) rfl (fun W0 => g_fldE (evv rfl) (by first | (simp only [frow, mrow]; omega) | fail) (by first | exact Nat.succ_pos _ | decide)) rfl ?_
            refine d_two (i := 1) (j := 3) (by kernel_rfl) rfl rfl ?_ ?_
            · (first | (refine o_call rfl _ (Ent.refl _) inInt_l rfl ?_; rintro _ _ ⟨rfl, rfl⟩)); refine o_nil ?_
              refine d_one (i := 3) (by kernel_rfl) rfl ?_
              (first | refine o_give (g_load (evv rfl) (by rfl) (by rfl)) rfl rfl ?_ | refine o_give (g_loadM (evv rfl) (by rfl) (by omega)) rfl rfl ?_ | refine o_give (g_loadFld (evv rfl) (by rfl) (by intro; rfl) (by omega) (by rfl)) rfl rfl ?_); refine o_nil ?_
              first | refine d_take (i := 4) (by kernel_rfl) rfl (fun W0 => Gives.as (g_conv TyU.h TyU.h (evv rfl)) (by rw [wrap_in (by simp only [inR]; omega)])) rfl ?_ | refine d_take (i := 4) (by kernel_rfl) rfl (fun W0 => Gives.as (g_conv TyU.h TyU.h (evv rfl)) (by rw [wrap_mod (by rfl)])) rfl ?_ | refine d_take (i := 4) (by kernel_rfl) rfl (fun W0 => g_conv TyU.h TyU.h (evv rfl)) rfl ?_
              first | refine d_take (i := 5) (by kernel_rfl) rfl (fun W0 => g_bin (evv rfl) (evv rfl) (by rfl)) rfl ?_
              first | refine d_take (i := 6) (by kernel_rfl) rfl (fun W0 => g_assign (evv rfl)) rfl ?_
              refine d_done (by kernel_rfl) ?_
              (refine c_blk ?_; simp only [eI, hz, wrap_sgn h2, eq_self, decide_true]; exact c_cut () ⟨rfl, rfl, rfl, rfl, rfl, rfl, trivial⟩ Ent.drop)
            · (first | refine o_give (g_load (evv rfl) (by rfl) (by rfl)) rfl rfl ?_ | refine o_give (g_loadM (evv rfl) (by rfl) (by omega)) rfl rfl ?_ | refine o_give (g_loadFld (evv rfl) (by rfl) (by intro; rfl) (by omega) (by rfl)) rfl rfl ?_); refine o_nil ?_
              first | refine d_take (i := 4) (by kernel_rfl) rfl (fun W0 => Gives.as (g_conv TyU.h TyU.h (evv rfl)) (by rw [wrap_in (by simp only [inR]; omega)])) rfl ?_ | refine d_take (i := 4) (by kernel_rfl) rfl (fun W0 => Gives.as (g_conv TyU.h TyU.h (evv rfl)) (by rw [wrap_mod (by rfl)])) rfl ?_ | refine d_take (i := 4) (by kernel_rfl) rfl (fun W0 => g_conv TyU.h TyU.h (evv rfl)) rfl ?_
              refine d_one (i := 1) (by kernel_rfl) rfl ?_
              (first | (refine o_call rfl _ (Ent.refl _) inInt_l rfl ?_; rintro _ _ ⟨rfl, rfl⟩)); refine o_nil ?_
              first | refine d_take (i := 5) (by kernel_rfl) rfl (fun W0 => g_bin (evv rfl) (evv rfl) (by rfl)) rfl ?_
              first | refine d_take (i := 6) (by kernel_rfl) rfl (fun W0 => g_assign (evv rfl)) rfl ?_
              refine d_done (by kernel_rfl) ?_
              (refine c_blk ?_; simp only [eI, hz, wrap_sgn h2, eq_self, decide_true]; exact c_cut () ⟨rfl, rfl, rfl, rfl, rfl, rfl, trivial⟩ Ent.drop)
          · have hc := of_decide_eq_false hc
            rw [if_neg hc]
            repeat (first
                | (first | refine r_seq ?_ | refine c_code ?_ | refine c_blk ?_ | refine r_block ?_ | refine r_skip ?_ | refine r_exit rfl ?_ | refine r_cond_true rfl ?_ | refine r_cond_false rfl ?_)
                | (refine r_region (id := 21) ?_; try ((first | refine o_give (g_bin (evv rfl) (evv rfl) (by rfl)) rfl rfl ?_); try ((first | refine o_give (g_assign (evv rfl)) rfl rfl ?_); try ((refine o_nil ?_))))))
            refine r_cond rfl (fun hc => ?_) (fun hc => ?_)
            · have hc := of_decide_eq_true hc
              rw [if_pos hc]
              refine r_draw (id := 22) Mixed.h ?_
              first | refine d_take (i := 0) (by kernel_rfl) rfl (fun W0 => g_move (evv rfl)) rfl ?_
              first | refine d_take (i := 1) (by kernel_rfl) rfl (fun W0 => g_fld (evv rfl)) rfl ?_ | refine d_take (i := 1) (by kernel_rfl) rfl (fun W0 => g_fldE (evv rfl) (by first | (simp only [frow, mrow]; omega) | fail) (by first | exact Nat.succ_pos _ | decide)) rfl ?_
              first | refine d_take (i := 5) (by kernel_rfl) rfl (fun W0 => g_fld (evv rfl)) rfl ?_ | refine d_take (i := 5) (by kernel_rfl) rfl (fun W0 => g_fldE (evv rfl) (by first | (simp only [frow, mrow]; omega) | fail) (by first | exact Nat.succ_pos _ | decide)) rfl ?_
              refine d_two (i := 2) (j := 6) (by kernel_rfl) rfl rfl ?_ ?_
              · (first | refine o_give (g_load (evv rfl) (by rfl) (by rfl)) rfl rfl ?_ | refine o_give (g_loadM (evv rfl) (by rfl) (by omega)) rfl rfl ?_ | refine o_give (g_loadFld (evv rfl) (by rfl) (by intro; rfl) (by omega) (by rfl)) rfl rfl ?_); refine o_nil ?_
                refine d_two (i := 3) (j := 6) (by kernel_rfl) rfl rfl ?_ ?_
                · (first | refine o_give (g_lenS TyU.h (evv rfl)) rfl rfl ?_); refine o_nil ?_
                  refine d_two (i := 4) (j := 6) (by kernel_rfl) rfl rfl ?_ ?_
                  · (first | (refine o_call rfl _ (Ent.refl _) (inText_l _ (by omega)) rfl ?_; rintro _ _ ⟨rfl, rfl⟩)); refine o_nil ?_
                    refine d_one (i := 6) (by kernel_rfl) rfl ?_
                    (first | refine o_give (g_load (evv rfl) (by rfl) (by rfl)) rfl rfl ?_ | refine o_give (g_loadM (evv rfl) (by rfl) (by omega)) rfl rfl ?_ | refine o_give (g_loadFld (evv rfl) (by rfl) (by intro; rfl) (by omega) (by rfl)) rfl rfl ?_); refine o_nil ?_
                    first | refine d_take (i := 7) (by kernel_rfl) rfl (fun W0 => g_binS (evv rfl) (evv rfl) (by rfl)) rfl ?_
                    first | refine d_take (i := 8) (by kernel_rfl) rfl (fun W0 => g_assign (evv rfl)) rfl ?_
                    refine d_done (by kernel_rfl) ?_
                    (refine c_blk ?_; simp only [eT, eq_self, decide_true]; exact c_cut () ⟨rfl, rfl, rfl, rfl, rfl, rfl, trivial⟩ Ent.drop)
                  · (first | refine o_give (g_load (evv rfl) (by rfl) (by rfl)) rfl rfl ?_ | refine o_give (g_loadM (evv rfl) (by rfl) (by omega)) rfl rfl ?_ | refine o_give (g_loadFld (evv rfl) (by rfl) (by intro; rfl) (by omega) (by rfl)) rfl rfl ?_); refine o_nil ?_
                    refine d_one (i := 4) (by kernel_rfl) rfl ?_
                    (first | (refine o_call rfl _ (Ent.refl _) (inText_l _ (by omega)) rfl ?_; rintro _ _ ⟨rfl, rfl⟩)); refine o_nil ?_
                    first | refine d_take (i := 7) (by kernel_rfl) rfl (fun W0 => g_binS (evv rfl) (evv rfl) (by rfl)) rfl ?_
                    first | refine d_take (i := 8) (by kernel_rfl) rfl (fun W0 => g_assign (evv rfl)) rfl ?_
                    refine d_done (by kernel_rfl) ?_
                    (refine c_blk ?_; simp only [eT, eq_self, decide_true]; exact c_cut () ⟨rfl, rfl, rfl, rfl, rfl, rfl, trivial⟩ Ent.drop)
                · (first | refine o_give (g_load (evv rfl) (by rfl) (by rfl)) rfl rfl ?_ | refine o_give (g_loadM (evv rfl) (by rfl) (by omega)) rfl rfl ?_ | refine o_give (g_loadFld (evv rfl) (by rfl) (by intro; rfl) (by omega) (by rfl)) rfl rfl ?_); refine o_nil ?_
                  refine d_one (i := 3) (by kernel_rfl) rfl ?_
                  (first | refine o_give (g_lenS TyU.h (evv rfl)) rfl rfl ?_); refine o_nil ?_
                  refine d_one (i := 4) (by kernel_rfl) rfl ?_
                  (first | (refine o_call rfl _ (Ent.refl _) (inText_l _ (by omega)) rfl ?_; rintro _ _ ⟨rfl, rfl⟩)); refine o_nil ?_
                  first | refine d_take (i := 7) (by kernel_rfl) rfl (fun W0 => g_binS (evv rfl) (evv rfl) (by rfl)) rfl ?_
                  first | refine d_take (i := 8) (by kernel_rfl) rfl (fun W0 => g_assign (evv rfl)) rfl ?_
                  refine d_done (by kernel_rfl) ?_
                  (refine c_blk ?_; simp only [eT, eq_self, decide_true]; exact c_cut () ⟨rfl, rfl, rfl, rfl, rfl, rfl, trivial⟩ Ent.drop)
              · (first | refine o_give (g_load (evv rfl) (by rfl) (by rfl)) rfl rfl ?_ | refine o_give (g_loadM (evv rfl) (by rfl) (by omega)) rfl rfl ?_ | refine o_give (g_loadFld (evv rfl) (by rfl) (by intro; rfl) (by omega) (by rfl)) rfl rfl ?_); refine o_nil ?_
                refine d_one (i := 2) (by kernel_rfl) rfl ?_
                (first | refine o_give (g_load (evv rfl) (by rfl) (by rfl)) rfl rfl ?_ | refine o_give (g_loadM (evv rfl) (by rfl) (by omega)) rfl rfl ?_ | refine o_give (g_loadFld (evv rfl) (by rfl) (by intro; rfl) (by omega) (by rfl)) rfl rfl ?_); refine o_nil ?_
                refine d_one (i := 3) (by kernel_rfl) rfl ?_
                (first | refine o_give (g_lenS TyU.h (evv rfl)) rfl rfl ?_); refine o_nil ?_
                refine d_one (i := 4) (by kernel_rfl) rfl ?_
                (first | (refine o_call rfl _ (Ent.refl _) (inText_l _ (by omega)) rfl ?_; rintro _ _ ⟨rfl, rfl⟩)); refine o_nil ?_
                first | refine d_take (i := 7) (by kernel_rfl) rfl (fun W0 => g_binS (evv rfl) (evv rfl) (by rfl)) rfl ?_
                first | refine d_take (i := 8) (by kernel_rfl) rfl (fun W0 => g_assign (evv rfl)) rfl ?_
                refine d_done (by kernel_rfl) ?_
                (refine c_blk ?_; simp only [eT, eq_self, decide_true]; exact c_cut () ⟨rfl, rfl, rfl, rfl, rfl, rfl, trivial⟩ Ent.drop)
            · have hc := of_decide_eq_false hc
              rw [if_neg hc]
              repeat (first
                  | (first | refine r_seq ?_ | refine c_code ?_ | refine c_blk ?_ | refine r_block ?_ | refine r_skip ?_ | refine r_exit rfl ?_ | refine r_cond_true rfl ?_ | refine r_cond_false rfl ?_)
                  | (refine r_region (id := 23) ?_; try ((first | refine o_give (g_bin (evv rfl) (evv rfl) (by rfl)) rfl rfl ?_); try ((first | refine o_give (g_assign (evv rfl)) rfl rfl ?_); try ((refine o_nil ?_))))))
              refine r_cond rfl (fun hc => ?_) (fun hc => ?_)
              · have hc := of_decide_eq_true hc
                rw [if_pos hc]
                have e2 : decide ((l[k].n : Int) % 2 = 1) = decide (l[k].n % 2 = 1) := by congr 1; apply propext; omega
                refine r_draw (id := 24) Mixed.h ?_
                first | refine d_take (i := 0) (by kernel_rfl) rfl (fun W0 => g_move (evv rfl)) rfl ?_
                first | refine d_take (i := 2) (by kernel_rfl) rfl (fun W0 => g_fld (evv rfl)) rfl ?_ | refine d_take (i := 2) (by kernel_rfl) rfl (fun W0 => g_fldE (evv rfl) (by first | (simp only [frow, mrow]; omega) | fail) (by first | exact Nat.succ_pos _ | decide)) rfl ?_
                refine d_two (i := 1) (j := 3) (by kernel_rfl) rfl rfl ?_ ?_
                · (first | (refine o_call rfl _ (Ent.refl _) inFlag_l rfl ?_; rintro _ _ ⟨rfl, rfl⟩)); refine o_nil ?_
                  refine d_one (i := 3) (by kernel_rfl) rfl ?_
                  (first | refine o_give (g_load (evv rfl) (by rfl) (by rfl)) rfl rfl ?_ | refine o_give (g_loadM (evv rfl) (by rfl) (by omega)) rfl rfl ?_ | refine o_give (g_loadFld (evv rfl) (by rfl) (by intro; rfl) (by omega) (by rfl)) rfl rfl ?_); refine o_nil ?_
                  first | refine d_take (i := 4) (by kernel_rfl) rfl (fun W0 => g_remP (evv rfl) (evv rfl) (by omega) (by omega)) rfl ?_ | refine d_take (i := 4) (by kernel_rfl) rfl (fun W0 => g_div (evv rfl) (evv rfl) (by rfl) (by omega)) rfl ?_
                  first | refine d_take (i := 5) (by kernel_rfl) rfl (fun W0 => g_bin (evv rfl) (evv rfl) (by rfl)) rfl ?_
                  first | refine d_take (i := 6) (by kernel_rfl) rfl (fun W0 => g_binB TyU.h (evv rfl) (evv rfl) (by rfl)) rfl ?_
                  first | refine d_take (i := 7) (by kernel_rfl) rfl (fun W0 => g_assign (evv rfl)) rfl ?_
                  refine d_done (by kernel_rfl) ?_
                  (refine c_blk ?_; simp only [eF, e2, eq_self, decide_true, beq_self_eq_true]; exact c_cut () ⟨rfl, rfl, rfl, rfl, rfl, rfl, trivial⟩ Ent.drop)
                · (first | refine o_give (g_load (evv rfl) (by rfl) (by rfl)) rfl rfl ?_ | refine o_give (g_loadM (evv rfl) (by rfl) (by omega)) rfl rfl ?_ | refine o_give (g_loadFld (evv rfl) (by rfl) (by intro; rfl) (by omega) (by rfl)) rfl rfl ?_); refine o_nil ?_
                  first | refine d_take (i := 4) (by kernel_rfl) rfl (fun W0 => g_remP (evv rfl) (evv rfl) (by omega) (by omega)) rfl ?_ | refine d_take (i := 4) (by kernel_rfl) rfl (fun W0 => g_div (evv rfl) (evv rfl) (by rfl) (by omega)) rfl ?_
                  first | refine d_take (i := 5) (by kernel_rfl) rfl (fun W0 => g_bin (evv rfl) (evv rfl) (by rfl)) rfl ?_
                  refine d_one (i := 1) (by kernel_rfl) rfl ?_
                  (first | (refine o_call rfl _ (Ent.refl _) inFlag_l rfl ?_; rintro _ _ ⟨rfl, rfl⟩)); refine o_nil ?_
                  first | refine d_take (i := 6) (by kernel_rfl) rfl (fun W0 => g_binB TyU.h (evv rfl) (evv rfl) (by rfl)) rfl ?_
                  first | refine d_take (i := 7) (by kernel_rfl) rfl (fun W0 => g_assign (evv rfl)) rfl ?_
                  refine d_done (by kernel_rfl) ?_
                  (refine c_blk ?_; simp only [eF, e2, eq_self, decide_true, beq_self_eq_true]; exact c_cut () ⟨rfl, rfl, rfl, rfl, rfl, rfl, trivial⟩ Ent.drop)
              · have hc := of_decide_eq_false hc
                rw [if_neg hc]
                repeat (first
                    | (first | refine r_seq ?_ | refine c_code ?_ | refine c_blk ?_ | refine r_block ?_ | refine r_skip ?_ | refine r_exit rfl ?_ | refine r_cond_true rfl ?_ | refine r_cond_false rfl ?_))
                refine r_draw (id := 16) Mixed.h ?_
                first | refine d_take (i := 0) (by kernel_rfl) rfl (fun W0 => g_move (evv rfl)) rfl ?_
                first | refine d_take (i := 2) (by kernel_rfl) rfl (fun W0 => g_fld (evv rfl)) rfl ?_ | refine d_take (i := 2) (by kernel_rfl) rfl (fun W0 => g_fldE (evv rfl) (by first | (simp only [frow, mrow]; omega) | fail) (by first | exact Nat.succ_pos _ | decide)) rfl ?_
                refine d_two (i := 1) (j := 3) (by kernel_rfl) rfl rfl ?_ ?_
                · (first | (refine o_call rfl _ (Ent.refl _) inDigest_l rfl ?_; rintro _ _ ⟨rfl, rfl⟩)); refine o_nil ?_
                  refine d_one (i := 3) (by kernel_rfl) rfl ?_
                  (first | refine o_give (g_load (evv rfl) (by rfl) (by rfl)) rfl rfl ?_ | refine o_give (g_loadM (evv rfl) (by rfl) (by omega)) rfl rfl ?_ | refine o_give (g_loadFld (evv rfl) (by rfl) (by intro; rfl) (by omega) (by rfl)) rfl rfl ?_); refine o_nil ?_
                  refine d_one (i := 4) (by kernel_rfl) rfl ?_
                  (first | refine o_s2bM (evv rfl) (by (try simp only [bsOf, List.length_append, List.length_cons, List.length_nil]); omega) rfl (fun _ => ?_)); refine o_nil ?_
                  refine d_one (i := 5) (by kernel_rfl) rfl ?_
                  (first | (refine o_call rfl _ (Ent.refl _) (Fold_c _ _ _) rfl ?_; rintro _ _ ⟨rfl, hLz⟩; obtain rfl := hLz.symm; clear hLz)); refine o_nil ?_
                  first | refine d_take (i := 6) (by kernel_rfl) rfl (fun W0 => g_eqB (by kernel_rfl) (evv rfl) (evv rfl) (by rfl) (by rfl)) rfl ?_
                  first | refine d_take (i := 7) (by kernel_rfl) rfl (fun W0 => g_assign (evv rfl)) rfl ?_
                  refine d_done (by kernel_rfl) ?_
                  (refine c_blk ?_; simp only [eD, eq_self, decide_true]; exact c_cut () ⟨rfl, rfl, rfl, rfl, rfl, rfl, trivial⟩ Lay.ent)
                · (first | refine o_give (g_load (evv rfl) (by rfl) (by rfl)) rfl rfl ?_ | refine o_give (g_loadM (evv rfl) (by rfl) (by omega)) rfl rfl ?_ | refine o_give (g_loadFld (evv rfl) (by rfl) (by intro; rfl) (by omega) (by rfl)) rfl rfl ?_); refine o_nil ?_
                  refine d_two (i := 1) (j := 4) (by kernel_rfl) rfl rfl ?_ ?_
                  · (first | (refine o_call rfl _ (Ent.refl _) inDigest_l rfl ?_; rintro _ _ ⟨rfl, rfl⟩)); refine o_nil ?_
                    refine d_one (i := 4) (by kernel_rfl) rfl ?_
                    (first | refine o_s2bM (evv rfl) (by (try simp only [bsOf, List.length_append, List.length_cons, List.length_nil]); omega) rfl (fun _ => ?_)); refine o_nil ?_
                    refine d_one (i := 5) (by kernel_rfl) rfl ?_
                    (first | (refine o_call rfl _ (Ent.refl _) (Fold_c _ _ _) rfl ?_; rintro _ _ ⟨rfl, hLz⟩; obtain rfl := hLz.symm; clear hLz)); refine o_nil ?_
                    first | refine d_take (i := 6) (by kernel_rfl) rfl (fun W0 => g_eqB (by kernel_rfl) (evv rfl) (evv rfl) (by rfl) (by rfl)) rfl ?_
                    first | refine d_take (i := 7) (by kernel_rfl) rfl (fun W0 => g_assign (evv rfl)) rfl ?_
                    refine d_done (by kernel_rfl) ?_
                    (refine c_blk ?_; simp only [eD, eq_self, decide_true]; exact c_cut () ⟨rfl, rfl, rfl, rfl, rfl, rfl, trivial⟩ Lay.ent)
                  · (first | refine o_s2bM (evv rfl) (by (try simp only [bsOf, List.length_append, List.length_cons, List.length_nil]); omega) rfl (fun _ => ?_)); refine o_nil ?_
                    refine d_one (i := 1) (by kernel_rfl) rfl ?_
                    (first | (refine o_call rfl _ (Ent.refl _) inDigest_l rfl ?_; rintro _ _ ⟨rfl, rfl⟩)); refine o_nil ?_
                    refine d_one (i := 5) (by kernel_rfl) rfl ?_
                    (first | (refine o_call rfl _ (Ent.refl _) (Fold_c _ _ _) rfl ?_; rintro _ _ ⟨rfl, hLz⟩; obtain rfl := hLz.symm; clear hLz)); refine o_nil ?_
                    first | refine d_take (i := 6) (by kernel_rfl) rfl (fun W0 => g_eqB (by kernel_rfl) (evv rfl) (evv rfl) (by rfl) (by rfl)) rfl ?_
                    first | refine d_take (i := 7) (by kernel_rfl) rfl (fun W0 => g_assign (evv rfl)) rfl ?_
                    refine d_done (by kernel_rfl) ?_
                    (refine c_blk ?_; simp only [eD, eq_self, decide_true]; exact c_cut () ⟨rfl, rfl, rfl, rfl, rfl, rfl, trivial⟩ Lay.ent)
      · repeat (first
            | (first | refine r_seq ?_ | refine c_code ?_ | refine c_blk ?_ | refine r_block ?_ | refine r_skip ?_ | refine r_exit rfl ?_ | refine r_cond_true rfl ?_ | refine r_cond_false rfl ?_)
            | (refine r_region (id := 12) ?_; try ((first | refine o_give (g_move (evv rfl)) rfl rfl ?_); try ((first | refine o_giveN (g_bin (evv rfl) (evv rfl) (by rfl)) (by simp only [inR]; omega) rfl ?_ | refine o_giveU (g_bin (evv rfl) (evv rfl) (by rfl)) (by rfl) rfl ?_ | refine o_give (g_bin (evv rfl) (evv rfl) (by rfl)) rfl rfl ?_); try ((first | refine o_give (g_assign (evv rfl)) rfl rfl ?_); try ((refine o_nil ?_))))))
            | (refine r_region (id := 25) ?_; try ((first | refine o_give (g_move (evv rfl)) rfl rfl ?_); try ((first | refine o_give (g_not (evv rfl)) rfl rfl ?_); try ((first | refine o_give (g_move (evv rfl)) rfl rfl ?_); try ((first | refine o_gno rfl rfl ?_ | (refine o_gyes rfl ?_; first | refine o_give (g_move (evv rfl)) rfl rfl ?_) | refine o_lazy rfl (fun hg => g_move (by first | exact evv rfl | exact evg rfl hg | exact evg rfl (by first | (simp_all; done) | (simp [*]; done) | fail) | fail)) rfl rfl ?_); try ((first | refine o_gno rfl rfl ?_ | (refine o_gyes rfl ?_; first | (refine o_call rfl _ (Ent.refl _) inErr_l rfl ?_; rintro _ _ ⟨rfl, rfl⟩)) | fail); try ((first | refine o_gno rfl rfl ?_ | (refine o_gyes rfl ?_; first | refine o_give (g_bin (evv rfl) (evv rfl) (by rfl)) rfl rfl ?_) | refine o_lazy rfl (fun hg => g_bin (by first | exact evv rfl | exact evg rfl hg | exact evg rfl (by first | (simp_all; done) | (simp [*]; done) | fail) | fail) (by first | exact evv rfl | exact evg rfl hg | exact evg rfl (by first | (simp_all; done) | (simp [*]; done) | fail) | fail) (by rfl)) rfl rfl ?_); try ((first | refine o_give (g_pick (b := false) (evv rfl) (fun h => by cases h) (fun _ => (evv rfl))) rfl rfl ?_ | refine o_give (g_pick (b := true) (evv rfl) (fun _ => (evv rfl)) (fun h => by cases h)) rfl rfl ?_ | refine o_give (g_pick_and (evv rfl) (evv rfl) (fun hp => (by first | exact evv rfl | exact evg rfl hg | exact evg rfl (by first | (simp_all; done) | (simp [*]; done) | fail) | fail))) rfl rfl ?_ | refine o_give (g_pick_or (evv rfl) (evv rfl) (fun hp => (by first | exact evv rfl | exact evg rfl hg | exact evg rfl (by first | (simp_all; done) | (simp [*]; done) | fail) | fail))) rfl rfl ?_); try ((refine o_nil ?_)))))))))))
        exact c_loop (k + 1) (by omega) (by omega) ⟨rfl, rfl, rfl, rfl, rfl, trivial⟩ (Ent.refl _)
    · have hd := of_decide_eq_false hd
      rw [List.drop_of_length_le (by omega : l.length ≤ k)]
      repeat (first
          | (first | refine r_seq ?_ | refine c_code ?_ | refine c_blk ?_ | refine r_block ?_ | refine r_skip ?_ | refine r_exit rfl ?_ | refine r_cond_true rfl ?_ | refine r_cond_false rfl ?_)
          | (refine r_region (id := 27) ?_; try ((first | refine o_give (g_move (evv rfl)) rfl rfl ?_); try ((first | (refine o_call rfl _ (Ent.refl _) inEnd_l rfl ?_; rintro _ _ ⟨rfl, rfl⟩)); try ((first | refine o_give (g_not (evv rfl)) rfl rfl ?_); try ((refine o_nil ?_))))))
          | (refine r_region (id := 28) ?_; try ((first | refine o_give (g_assign (evv rfl)) rfl rfl ?_); try ((refine o_nil ?_))))
          | (refine r_region (id := 29) ?_; try ((first | refine o_give (g_move (evv rfl)) rfl rfl ?_); try ((first | refine o_give (g_len TyU.h (evv rfl)) rfl rfl ?_ | refine o_give (g_lenM (evv rfl)) rfl rfl ?_ | refine o_give (g_lenF (evv rfl)) rfl rfl ?_); try ((first | refine o_give (g_bin (evv rfl) (evv rfl) (by rfl)) rfl rfl ?_); try ((refine o_nil ?_)))))))
      refine r_cond rfl (fun he => ?_) (fun he => ?_)
      · repeat (first
            | (first | refine r_seq ?_ | refine c_code ?_ | refine c_blk ?_ | refine r_block ?_ | refine r_skip ?_ | refine r_exit rfl ?_ | refine r_cond_true rfl ?_ | refine r_cond_false rfl ?_)
            | (refine r_region (id := 30) ?_; try ((first | refine o_give (g_assign (evv rfl)) rfl rfl ?_); try ((refine o_nil ?_)))))
        exact r_ret (rs := [.tmp 4]) rfl rfl _ (Ent.drop.trans Ent.drop) ⟨rfl, rfl⟩
      · have he := of_decide_eq_false he
        obtain ⟨q, hq, hql⟩ : ∃ q : Nat, cut % 18446744073709551616 % ((fldsB l).length : Int) = q ∧ q < (fldsB l).length := by
          have h0 : ((fldsB l).length : Int) ≠ 0 := by omega
          have h1 := Int.emod_nonneg (cut % 18446744073709551616) h0
          have h2 := Int.emod_lt_of_pos (cut % 18446744073709551616) (b := ((fldsB l).length : Int)) (by omega)
          exact ⟨(cut % 18446744073709551616 % ((fldsB l).length : Int)).toNat, by omega, by omega⟩
        repeat (first
            | (first | refine r_seq ?_ | refine c_code ?_ | refine c_blk ?_ | refine r_block ?_ | refine r_skip ?_ | refine r_exit rfl ?_ | refine r_cond_true rfl ?_ | refine r_cond_false rfl ?_)
            | (refine r_region (id := 31) ?_; try ((first | refine o_give (g_move (evv rfl)) rfl rfl ?_); try ((first | refine o_give (g_move (evv rfl)) rfl rfl ?_); try ((first | refine o_giveN (g_conv TyU.h TyU.h (evv rfl)) (by simp only [inR]; omega) rfl ?_ | refine o_giveU (g_conv TyU.h TyU.h (evv rfl)) (by rfl) rfl ?_ | refine o_give (g_conv TyU.h TyU.h (evv rfl)) rfl rfl ?_); try ((first | refine o_give (g_move (evv rfl)) rfl rfl ?_); try ((first | refine o_give (g_len TyU.h (evv rfl)) rfl rfl ?_ | refine o_give (g_lenM (evv rfl)) rfl rfl ?_ | refine o_give (g_lenF (evv rfl)) rfl rfl ?_); try ((first | refine o_giveN (g_conv TyU.h TyU.h (evv rfl)) (by simp only [inR]; omega) rfl ?_ | refine o_giveU (g_conv TyU.h TyU.h (evv rfl)) (by rfl) rfl ?_ | refine o_give (g_conv TyU.h TyU.h (evv rfl)) rfl rfl ?_); try ((first | refine o_give (g_remP (evv rfl) (evv rfl) (by omega) (by omega)) rfl rfl ?_ | refine o_give (g_div (evv rfl) (evv rfl) (by rfl) (by omega)) rfl rfl ?_); try ((first | refine o_giveN (g_conv TyU.h TyU.h (evv rfl)) (by simp only [inR]; omega) rfl ?_ | refine o_giveU (g_conv TyU.h TyU.h (evv rfl)) (by rfl) rfl ?_ | refine o_give (g_conv TyU.h TyU.h (evv rfl)) rfl rfl ?_); try ((first | fail); try ((first | (refine o_call rfl _ (Ent.refl _) (Read_c _ _ _ (by (try simp only [bsOf, List.length_append, List.length_cons, List.length_nil]); omega)) rfl ?_; rintro _ _ ⟨i, rfl, rfl⟩)); try ((first | refine o_give (g_assign (evv rfl)) rfl rfl ?_); try ((refine o_nil ?_)))))))))))))))
        rw [hq]
        refine o_subM (evv rfl) Ent.drop (Rd.head _ _ L) 0 q bnd_none (bnd_some (evv rfl) rfl) (by rfl) (by omega) (by omega) rfl (fun v2 hv2 => ?_)
        simp only [List.drop_zero, Nat.sub_zero] at hv2
        haveI := hv2
        have hpl : ((fldsB l).take q).length ≤ 140737488000000 := by simp; omega
        (try ((first | (refine o_call rfl _ (Ent.refl _) (Read_c _ _ _ (by (try simp only [bsOf, List.length_append, List.length_cons, List.length_nil]); omega)) rfl ?_; rintro _ _ ⟨i, rfl, rfl⟩)); try ((first | refine o_give (g_assign (evv rfl)) rfl rfl ?_); try ((refine o_nil ?_)))))
        repeat (first
            | (first | refine r_seq ?_ | refine c_code ?_ | refine c_blk ?_ | refine r_block ?_ | refine r_skip ?_ | refine r_exit rfl ?_ | refine r_cond_true rfl ?_ | refine r_cond_false rfl ?_)
            | (refine r_region (id := 32) ?_; try ((first | refine o_give (g_assign (evv rfl)) rfl rfl ?_); try ((refine o_nil ?_)))))
        have hcutl : stL l ⟨(fldsB l).take q, 0⟩ = ⟨[], 20⟩ := stL_cut hl (List.take_prefix _ _) (by simp; omega)
        refine r_loop (σ := Nat) (fun s => s ≤ l.length) (fun s => l.length - s) (fun s => [(0, .v v), (12, .v (.pointer (some ⟨i, 0, none⟩))), (13, .v (.int .i64 s))]) (fun s => inA i (stL (l.take s) ⟨(fldsB l).take q, 0⟩) :: L) 0 (Nat.zero_le _) ⟨rfl, rfl, rfl, trivial⟩ (Ent.cons (Ent.drop.trans Ent.drop)) ?_
        intro k h1
        repeat (first
            | (first | refine r_seq ?_ | refine c_code ?_ | refine c_blk ?_ | refine r_block ?_ | refine r_skip ?_ | refine r_exit rfl ?_ | refine r_cond_true rfl ?_ | refine r_cond_false rfl ?_)
            | (refine r_region (id := 33) ?_; try ((first | refine o_give (g_move (evv rfl)) rfl rfl ?_); try ((first | refine o_give (g_move (evv rfl)) rfl rfl ?_); try ((first | refine o_give (g_len TyU.h (evv rfl)) rfl rfl ?_ | refine o_give (g_lenM (evv rfl)) rfl rfl ?_ | refine o_give (g_lenF (evv rfl)) rfl rfl ?_); try ((first | refine o_give (g_bin (evv rfl) (evv rfl) (by rfl)) rfl rfl ?_); try ((refine o_nil ?_))))))))
        refine r_cond rfl (fun hd => ?_) (fun hd => ?_)
        · have hd := of_decide_eq_true hd
          have hk : k < l.length := by omega
          have hget : l.getD (↑k : Int).toNat default = l[k] := by simp [hk]
          have hf := hl l[k] (List.getElem_mem hk)
          have hok := hf.1
          have hst : stL (l.take (k + 1)) ⟨(fldsB l).take q, 0⟩ = stF l[k] (stL (l.take k) ⟨(fldsB l).take q, 0⟩) := by
            rw [List.take_succ_eq_append_getElem hk, stL, List.foldl_append]; rfl
          generalize stL (l.take k) ⟨(fldsB l).take q, 0⟩ = s at hst
          repeat (first
              | (first | refine r_seq ?_ | refine c_code ?_ | refine c_blk ?_ | refine r_block ?_ | refine r_skip ?_ | refine r_exit rfl ?_ | refine r_cond_true rfl ?_ | refine r_cond_false rfl ?_))
          repeat (first
              | (first | refine r_seq ?_ | refine c_code ?_ | refine c_blk ?_ | refine r_skip ?_ | refine r_exit rfl ?_ | refine r_cond_true rfl ?_ | refine r_cond_false rfl ?_)
              | (refine r_region (id := 35) ?_; try ((first | refine o_give (g_move (evv rfl)) rfl rfl ?_); try ((first | refine o_give (g_move (evv rfl)) rfl rfl ?_); try ((first | refine o_give (g_idxM (evv rfl) (evv rfl) (by rfl) (by omega) (by omega)) rfl rfl ?_ | refine o_give (g_idxF (evv rfl) (evv rfl) (by rfl) (by rfl) (by omega) (by omega)) rfl rfl ?_); try ((first | refine o_give (g_loadF (evv rfl) (by rfl) (by rfl)) rfl rfl ?_ | refine o_give (g_loadW (evv rfl) (by rfl) (by first | rfl | assumption | (simp [bys, *]; done) | fail)) rfl rfl ?_ | refine o_give (g_loadFr (evv rfl) (by rfl) (by intro; rfl) (by rfl) (by rfl) (by omega)) rfl rfl ?_); try ((first | (refine o_call rfl _ (Ent.refl _) (kind_c _ _ (by assumption)) rfl ?_; rintro _ _ ⟨rfl, hLz⟩; obtain rfl := hLz.symm; clear hLz)); try ((refine o_nil ?_)))))))))
          rw [hget]
          (try ((first | (refine o_call rfl _ (Ent.refl _) (kind_c _ _ (by assumption)) rfl ?_; rintro _ _ ⟨rfl, hLz⟩; obtain rfl := hLz.symm; clear hLz)); try ((refine o_nil ?_))))
          repeat (first
              | (first | refine r_seq ?_ | refine c_code ?_ | refine c_blk ?_ | refine r_skip ?_ | refine r_exit rfl ?_ | refine r_cond_true rfl ?_ | refine r_cond_false rfl ?_)
              | (refine r_region (id := 36) ?_; try ((first | refine o_give (g_move (evv rfl)) rfl rfl ?_); try ((first | (refine o_call rfl _ (Ent.refl _) inDigest_l rfl ?_; rintro _ _ ⟨rfl, rfl⟩)); try ((refine o_nil ?_))))))
          refine r_cut (σ := Unit) (fun _ => [(0, .v v), (12, .v (.pointer (some ⟨i, 0, none⟩))), (13, .v (.int .i64 k))]) (fun _ => inA i (stF l[k] s) :: L) ?_ (fun _ => ?_)
          · rw [stF]
            repeat (first
                | (first | refine r_seq ?_ | refine c_code ?_ | refine c_blk ?_ | refine r_block ?_ | refine r_skip ?_ | refine r_exit rfl ?_ | refine r_cond_true rfl ?_ | refine r_cond_false rfl ?_)
                | (refine r_region (id := 37) ?_; try ((first | refine o_give (g_bin (evv rfl) (evv rfl) (by rfl)) rfl rfl ?_); try ((first | refine o_give (g_assign (evv rfl)) rfl rfl ?_); try ((refine o_nil ?_))))))
            refine r_cond rfl (fun hc => ?_) (fun hc => ?_)
            · have hc := of_decide_eq_true hc
              rw [if_pos (Or.inl hc)]
              repeat (first
                  | (first | refine r_seq ?_ | refine c_code ?_ | refine c_blk ?_ | refine r_block ?_ | refine r_skip ?_ | refine r_exit rfl ?_ | refine r_cond_true rfl ?_ | refine r_cond_false rfl ?_)
                  | (refine r_region (id := 38) ?_; try ((first | refine o_give (g_move (evv rfl)) rfl rfl ?_); try ((first | (refine o_call rfl _ (Ent.refl _) inNum_l rfl ?_; rintro _ _ ⟨rfl, rfl⟩)); try ((refine o_nil ?_))))))
              exact c_cut () ⟨rfl, rfl, rfl, trivial⟩ (Ent.refl _)
            · have hc0 := of_decide_eq_false hc
              repeat (first
                  | (first | refine r_seq ?_ | refine c_code ?_ | refine c_blk ?_ | refine r_block ?_ | refine r_skip ?_ | refine r_exit rfl ?_ | refine r_cond_true rfl ?_ | refine r_cond_false rfl ?_)
                  | (refine r_region (id := 39) ?_; try ((first | refine o_give (g_bin (evv rfl) (evv rfl) (by rfl)) rfl rfl ?_); try ((first | refine o_give (g_assign (evv rfl)) rfl rfl ?_); try ((refine o_nil ?_))))))
              refine r_cond rfl (fun hc => ?_) (fun hc => ?_)
              · have hc := of_decide_eq_true hc
                rw [if_pos (Or.inr hc)]
                repeat (first
                    | (first | refine r_seq ?_ | refine c_code ?_ | refine c_blk ?_ | refine r_block ?_ | refine r_skip ?_ | refine r_exit rfl ?_ | refine r_cond_true rfl ?_ | refine r_cond_false rfl ?_)
                    | (refine r_region (id := 40) ?_; try ((first | refine o_give (g_move (evv rfl)) rfl rfl ?_); try ((first | (refine o_call rfl _ (Ent.refl _) inInt_l rfl ?_; rintro _ _ ⟨rfl, rfl⟩)); try ((refine o_nil ?_))))))
                exact c_cut () ⟨rfl, rfl, rfl, trivial⟩ (Ent.refl _)
              · have hc1 := of_decide_eq_false hc
                rw [if_neg (fun h : kindOf l[k] = 0 ∨ kindOf l[k] = 1 => h.elim hc0 hc1)]
                repeat (first
                    | (first | refine r_seq ?_ | refine c_code ?_ | refine c_blk ?_ | refine r_block ?_ | refine r_skip ?_ | refine r_exit rfl ?_ | refine r_cond_true rfl ?_ | refine r_cond_false rfl ?_)
                    | (refine r_region (id := 41) ?_; try ((first | refine o_give (g_bin (evv rfl) (evv rfl) (by rfl)) rfl rfl ?_); try ((first | refine o_give (g_assign (evv rfl)) rfl rfl ?_); try ((refine o_nil ?_))))))
                refine r_cond rfl (fun hc => ?_) (fun hc => ?_)
                · have hc := of_decide_eq_true hc
                  rw [if_pos hc]
                  repeat (first
                      | (first | refine r_seq ?_ | refine c_code ?_ | refine c_blk ?_ | refine r_block ?_ | refine r_skip ?_ | refine r_exit rfl ?_ | refine r_cond_true rfl ?_ | refine r_cond_false rfl ?_)
                      | (refine r_region (id := 42) ?_; try ((first | refine o_give (g_move (evv rfl)) rfl rfl ?_); try ((first | refine o_give (g_move (evv rfl)) rfl rfl ?_); try ((first | refine o_give (g_move (evv rfl)) rfl rfl ?_); try ((first | refine o_give (g_idxM (evv rfl) (evv rfl) (by rfl) (by omega) (by omega)) rfl rfl ?_ | refine o_give (g_idxF (evv rfl) (evv rfl) (by rfl) (by rfl) (by omega) (by omega)) rfl rfl ?_); try ((first | refine o_give (g_fld (evv rfl)) rfl rfl ?_ | refine o_give (g_fldE (evv rfl) (by first | (simp only [frow, mrow]; omega) | fail) (by first | exact Nat.succ_pos _ | decide)) rfl rfl ?_); try ((first | refine o_give (g_load (evv rfl) (by rfl) (by rfl)) rfl rfl ?_ | refine o_give (g_loadM (evv rfl) (by rfl) (by omega)) rfl rfl ?_ | refine o_give (g_loadFld (evv rfl) (by rfl) (by intro; rfl) (by omega) (by rfl)) rfl rfl ?_); try ((first | refine o_give (g_lenS TyU.h (evv rfl)) rfl rfl ?_); try ((first | (refine o_call rfl _ (Ent.refl _) (inText_l _ (by omega)) rfl ?_; rintro _ _ ⟨rfl, rfl⟩)); try ((refine o_nil ?_))))))))))))
                  rw [hget]
                  (try ((first | (refine o_call rfl _ (Ent.refl _) (inText_l _ (by omega)) rfl ?_; rintro _ _ ⟨rfl, rfl⟩)); try ((refine o_nil ?_))))
                  repeat (first
                      | (first | refine r_seq ?_ | refine c_code ?_ | refine c_blk ?_ | refine r_block ?_ | refine r_skip ?_ | refine r_exit rfl ?_ | refine r_cond_true rfl ?_ | refine r_cond_false rfl ?_))
                  exact c_cut () ⟨rfl, rfl, rfl, trivial⟩ (Ent.refl _)
                · have hc := of_decide_eq_false hc
                  rw [if_neg hc]
                  repeat (first
                      | (first | refine r_seq ?_ | refine c_code ?_ | refine c_blk ?_ | refine r_block ?_ | refine r_skip ?_ | refine r_exit rfl ?_ | refine r_cond_true rfl ?_ | refine r_cond_false rfl ?_)
                      | (refine r_region (id := 43) ?_; try ((first | refine o_give (g_bin (evv rfl) (evv rfl) (by rfl)) rfl rfl ?_); try ((first | refine o_give (g_assign (evv rfl)) rfl rfl ?_); try ((refine o_nil ?_))))))
                  refine r_cond rfl (fun hc => ?_) (fun hc => ?_)
                  · have hc := of_decide_eq_true hc
                    rw [if_pos hc]
                    repeat (first
                        | (first | refine r_seq ?_ | refine c_code ?_ | refine c_blk ?_ | refine r_block ?_ | refine r_skip ?_ | refine r_exit rfl ?_ | refine r_cond_true rfl ?_ | refine r_cond_false rfl ?_)
                        | (refine r_region (id := 44) ?_; try ((first | refine o_give (g_move (evv rfl)) rfl rfl ?_); try ((first | (refine o_call rfl _ (Ent.refl _) inFlag_l rfl ?_; rintro _ _ ⟨rfl, rfl⟩)); try ((refine o_nil ?_))))))
                    exact c_cut () ⟨rfl, rfl, rfl, trivial⟩ (Ent.refl _)
                  · have hc := of_decide_eq_false hc
                    rw [if_neg hc]
                    repeat (first
                        | (first | refine r_seq ?_ | refine c_code ?_ | refine c_blk ?_ | refine r_block ?_ | refine r_skip ?_ | refine r_exit rfl ?_ | refine r_cond_true rfl ?_ | refine r_cond_false rfl ?_)
                        | (refine r_region (id := 36) ?_; try ((first | refine o_give (g_move (evv rfl)) rfl rfl ?_); try ((first | (refine o_call rfl _ (Ent.refl _) inDigest_l rfl ?_; rintro _ _ ⟨rfl, rfl⟩)); try ((refine o_nil ?_))))))
                    exact c_cut () ⟨rfl, rfl, rfl, trivial⟩ (Ent.refl _)
          · repeat (first
                | (first | refine r_seq ?_ | refine c_code ?_ | refine c_blk ?_ | refine r_block ?_ | refine r_skip ?_ | refine r_exit rfl ?_ | refine r_cond_true rfl ?_ | refine r_cond_false rfl ?_)
                | (refine r_region (id := 34) ?_; try ((first | refine o_give (g_move (evv rfl)) rfl rfl ?_); try ((first | refine o_giveN (g_bin (evv rfl) (evv rfl) (by rfl)) (by simp only [inR]; omega) rfl ?_ | refine o_giveU (g_bin (evv rfl) (evv rfl) (by rfl)) (by rfl) rfl ?_ | refine o_give (g_bin (evv rfl) (evv rfl) (by rfl)) rfl rfl ?_); try ((first | refine o_give (g_assign (evv rfl)) rfl rfl ?_); try ((refine o_nil ?_)))))))
            rw [← hst]
            exact c_loop (k + 1) (by omega) (by omega) ⟨rfl, rfl, rfl, trivial⟩ (Ent.refl _)
        · have hd := of_decide_eq_false hd
          rw [List.take_of_length_le (show l.length ≤ k by omega), hcutl]
          repeat (first
              | (first | refine r_seq ?_ | refine c_code ?_ | refine c_blk ?_ | refine r_block ?_ | refine r_skip ?_ | refine r_exit rfl ?_ | refine r_cond_true rfl ?_ | refine r_cond_false rfl ?_)
              | (refine r_region (id := 45) ?_; try ((first | refine o_give (g_move (evv rfl)) rfl rfl ?_); try ((first | (refine o_call rfl _ (Ent.refl _) inErr_l rfl ?_; rintro _ _ ⟨rfl, rfl⟩)); try ((first | refine o_give (g_bin (evv rfl) (evv rfl) (by rfl)) rfl rfl ?_); try ((first | refine o_give (g_move (evv rfl)) rfl rfl ?_); try ((first | refine o_gno rfl rfl ?_ | (refine o_gyes rfl ?_; first | refine o_give (g_move (evv rfl)) rfl rfl ?_) | refine o_lazy rfl (fun hg => g_move (by first | exact evv rfl | exact evg rfl hg | exact evg rfl (by first | (simp_all; done) | (simp [*]; done) | fail) | fail)) rfl rfl ?_); try ((first | refine o_gno rfl rfl ?_ | (refine o_gyes rfl ?_; first | (refine o_call rfl _ (Ent.refl _) inLeft_l rfl ?_; rintro _ _ ⟨rfl, rfl⟩)) | fail); try ((first | refine o_gno rfl rfl ?_ | (refine o_gyes rfl ?_; first | refine o_give (g_bin (evv rfl) (evv rfl) (by rfl)) rfl rfl ?_) | refine o_lazy rfl (fun hg => g_bin (by first | exact evv rfl | exact evg rfl hg | exact evg rfl (by first | (simp_all; done) | (simp [*]; done) | fail) | fail) (by first | exact evv rfl | exact evg rfl hg | exact evg rfl (by first | (simp_all; done) | (simp [*]; done) | fail) | fail) (by rfl)) rfl rfl ?_); try ((first | refine o_give (g_pick (b := false) (evv rfl) (fun h => by cases h) (fun _ => (evv rfl))) rfl rfl ?_ | refine o_give (g_pick (b := true) (evv rfl) (fun _ => (evv rfl)) (fun h => by cases h)) rfl rfl ?_ | refine o_give (g_pick_and (evv rfl) (evv rfl) (fun hp => (by first | exact evv rfl | exact evg rfl hg | exact evg rfl (by first | (simp_all; done) | (simp [*]; done) | fail) | fail))) rfl rfl ?_ | refine o_give (g_pick_or (evv rfl) (evv rfl) (fun hp => (by first | exact evv rfl | exact evg rfl hg | exact evg rfl (by first | (simp_all; done) | (simp [*]; done) | fail) | fail))) rfl rfl ?_); try ((first | refine o_give (g_move (evv rfl)) rfl rfl ?_); try ((first | refine o_gno rfl rfl ?_ | (refine o_gyes rfl ?_; first | refine o_give (g_move (evv rfl)) rfl rfl ?_) | refine o_lazy rfl (fun hg => g_move (by first | exact evv rfl | exact evg rfl hg | exact evg rfl (by first | (simp_all; done) | (simp [*]; done) | fail) | fail)) rfl rfl ?_); try ((first | refine o_gno rfl rfl ?_ | (refine o_gyes rfl ?_; first | (refine o_call rfl _ (Ent.refl _) inEnd_l rfl ?_; rintro _ _ ⟨rfl, rfl⟩)) | fail); try ((first | refine o_gno rfl rfl ?_ | (refine o_gyes rfl ?_; first | refine o_give (g_not (evv rfl)) rfl rfl ?_) | refine o_lazy rfl (fun hg => g_not (by first | exact evv rfl | exact evg rfl hg | exact evg rfl (by first | (simp_all; done) | (simp [*]; done) | fail) | fail)) rfl rfl ?_); try ((first | refine o_give (g_pick (b := false) (evv rfl) (fun h => by cases h) (fun _ => (evv rfl))) rfl rfl ?_ | refine o_give (g_pick (b := true) (evv rfl) (fun _ => (evv rfl)) (fun h => by cases h)) rfl rfl ?_ | refine o_give (g_pick_and (evv rfl) (evv rfl) (fun hp => (by first | exact evv rfl | exact evg rfl hg | exact evg rfl (by first | (simp_all; done) | (simp [*]; done) | fail) | fail))) rfl rfl ?_ | refine o_give (g_pick_or (evv rfl) (evv rfl) (fun hp => (by first | exact evv rfl | exact evg rfl hg | exact evg rfl (by first | (simp_all; done) | (simp [*]; done) | fail) | fail))) rfl rfl ?_); try ((first | refine o_give (g_assign (evv rfl)) rfl rfl ?_); try ((refine o_nil ?_))))))))))))))))))
          exact r_ret (rs := [.tmp 4]) rfl rfl _ Ent.drop ⟨rfl, rfl⟩
end VK
