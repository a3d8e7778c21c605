/- Scan, the code's and the reference's. Conditions: few bytes. -/
import Derived.Test.YtdgenjdphmclhaaScanL
namespace VK
open Go Go.Proofs
set_option linter.unusedSimpArgs false
set_option linter.unusedVariables false
set_option maxRecDepth 100000
set_option maxHeartbeats 40000000
theorem next_len {b : List UInt8} (h : (nextR b).2.2 = 0) : 8 ≤ (nextR b).2.1 ∧ (nextR b).2.1 ≤ b.length ∧ (nextR b).1.length + 8 = (nextR b).2.1 := by
  unfold nextR at h ⊢
  split
  · rename_i g; rw [if_pos g] at h; exact absurd h (by decide)
  · rename_i g1
    rw [if_neg g1] at h
    split
    · rename_i g; rw [if_pos g] at h; exact absurd h (by decide)
    · rename_i g2
      rw [if_neg g2] at h
      split
      · rename_i g; rw [if_pos g] at h; exact absurd h (by decide)
      · rename_i g3
        rw [if_neg g3] at h
        split
        · rename_i g; rw [if_pos g] at h; exact absurd h (by decide)
        · dsimp only
          refine ⟨by omega, by omega, ?_⟩
          rw [List.length_take, List.length_drop]
          omega
theorem scanF_fuel : ∀ {k m : Nat} {b : List UInt8}, b.length < k → b.length < m → scanF k b = scanF m b
  | 0, _, b, h, _ => absurd h (Nat.not_lt_zero _)
  | _ + 1, 0, b, _, h => absurd h (Nat.not_lt_zero _)
  | k + 1, m + 1, b, h1, h2 => by
    unfold scanF
    split
    · rfl
    · rename_i g
      have g := Decidable.of_not_not g
      have hl := next_len g
      have : (b.drop (nextR b).2.1).length < b.length := by rw [List.length_drop]; omega
      rw [scanF_fuel (k := k) (m := m) (by omega) (by omega)]
def scanR (b : List UInt8) : List (List UInt8) × Nat := scanF (b.length + 1) b
theorem scan_stop {b : List UInt8} (h : (nextR b).2.2 ≠ 0) : scanR b = ([], 0) := by
  unfold scanR scanF
  rw [if_pos h]
theorem scan_go {b : List UInt8} (h : (nextR b).2.2 = 0) : scanR b = ((nextR b).1 :: (scanR (b.drop (nextR b).2.1)).1, (nextR b).2.1 + (scanR (b.drop (nextR b).2.1)).2) := by
  have hl := next_len h
  have e : scanF b.length (b.drop (nextR b).2.1) = scanR (b.drop (nextR b).2.1) := scanF_fuel (by rw [List.length_drop]; omega) (by omega)
  rw [← e]
  unfold scanR
  rw [scanF, if_neg (fun k => k h)]
def scI (b : List UInt8) (j : Nat) (rows : List (Value × List UInt8)) : Prop :=
  j ≤ b.length ∧ rows.length ≤ j ∧ rows.map (·.2) ++ (scanR (b.drop j)).1 = (scanR b).1 ∧ j + (scanR (b.drop j)).2 = (scanR b).2
theorem scI.step {b : List UInt8} {j : Nat} {rows : List (Value × List UInt8)} (h : scI b j rows) (h0 : (nextR (b.drop j)).2.2 = 0) (v : Value) :
    scI b (j + (nextR (b.drop j)).2.1) (rows ++ [(v, (nextR (b.drop j)).1)]) := by
  obtain ⟨h1, h2, h3, h4⟩ := h
  have hl := next_len h0
  have hg := scan_go h0
  rw [List.length_drop] at hl
  rw [List.drop_drop] at hg
  refine ⟨by omega, by rw [List.length_append, List.length_singleton]; omega, ?_, ?_⟩
  · rw [← h3, hg]; simp
  · rw [← h4, hg]; dsimp only; omega
theorem scI.stop {b : List UInt8} {j : Nat} {rows : List (Value × List UInt8)} (h : scI b j rows) (h0 : (nextR (b.drop j)).2.2 ≠ 0) :
    rows.map (·.2) = (scanR b).1 ∧ j = (scanR b).2 := by
  obtain ⟨h1, h2, h3, h4⟩ := h
  rw [scan_stop h0] at h3 h4
  exact ⟨by simpa using h3, by simpa using h4⟩
def pcR (l : List (Value × List UInt8)) : List (Value × Row) := l.map fun p => (p.1, mrow by8 5 p.2)
theorem romMore {v : Value} {p : List UInt8} {l : List (Value × List UInt8)} {L : List Atom} : Ent (sl v (mrow by8 5 p) :: rom (pcR l) :: L) (rom (pcR (l ++ [(v, p)])) :: L) :=
  Ent.romIn.trans (Ent.romSub (fun h q => by
    unfold rom at *
    intro x hx
    simp only [pcR, List.map_append, List.map_cons, List.map_nil, List.mem_append, List.mem_singleton] at hx
    rcases hx with hx | rfl
    · exact q x (List.mem_cons_of_mem _ hx)
    · exact q _ (List.mem_cons_self ..)))
theorem pcR_in {l : List (Value × List UInt8)} {p : Value × List UInt8} (hp : p ∈ l) : InR (pcR l) p.1 (mrow by8 5 p.2) := ⟨fun h q => by
  unfold rom at q
  exact q (p.1, mrow by8 5 p.2) (List.mem_map.2 ⟨p, hp, rfl⟩)⟩
theorem Scan_c (L : List Atom) (v : Value) (b : List UInt8) (hb : b.length ≤ 1000000000) [rd : Rd L v (mrow by8 5 b)] :
    Fn Try.prog 18 [v] L fun w L' => ∃ o rows, w = .tuple #[o, .int .i64 ((scanR b).2 : Int)] ∧ rows.map (·.2) = (scanR b).1 ∧ L' = sl o (mrow pcV 25 rows) :: rom (pcR rows) :: L := by
  refine fn_intro Try.func18 rfl Try.ntmps18 rfl (fun W0 => ?_)
  simp only [argE]
  refine r_seq ?_
  refine r_region (id := 0) ?_
  refine o_give (g_assign (evv rfl)) rfl rfl ?_
  refine o_give (g_assign (evv rfl)) rfl rfl ?_
  refine o_nil ?_
  refine c_code ?_
  refine r_seq ?_
  refine r_region (id := 1) ?_
  refine o_give (g_assign (evv rfl)) rfl rfl ?_
  refine o_nil ?_
  refine c_code ?_
  refine r_seq ?_
  refine r_region (id := 2) ?_
  refine o_give (g_assign (evv rfl)) rfl rfl ?_
  refine o_nil ?_
  refine c_code ?_
  refine r_block ?_
  refine r_loopE (σ := Nat × Value × List (Value × List UInt8)) (fun ⟨j, o, rows⟩ => scI b j rows) (fun ⟨j, o, rows⟩ => b.length - j) (fun ⟨j, o, rows⟩ => [(4, .v (o)), (5, .v (.int .i64 j))]) [0] (fun ⟨j, o, rows⟩ => sl o (mrow pcV 25 rows) :: rom (pcR rows) :: L) (0, .slice none 0 0, []) (by dsimp only [pickE, pick1, lk2, Nat.reduceBEq, Nat.reduceAdd, Nat.zero_add, cond_true, cond_false] <;> exact rfl) ?_ (by repeat (first | exact trivial | refine ⟨rfl, ?_⟩ | refine envsub_v rfl (by first | rfl | (refine int_eq ?_; first | omega | (simp; omega) | (simp; done)) | (refine bool_eq ?_; first | (simp [*]; done) | (simp; done)) | (refine str_eq ?_; simp; done) | (refine ptr_eq ?_; omega) | fail) ?_)) ?_ ?_
  · exact ⟨Nat.zero_le _, Nat.le_refl _, rfl, Nat.zero_add _⟩
  · exact Ent.romNil.trans (Ent.nilM pcV 25)
  rintro ⟨j, o, rows⟩ hI; (try dsimp only at hI); dsimp only [List.cons_append, List.nil_append]
  have hj : j ≤ b.length := hI.1
  have hrl : rows.length ≤ j := hI.2.1
  have hdl : (List.take (b.length - j) (b.drop j)).length ≤ 140737488355000 := by rw [List.length_take]; omega
  have et : List.take (b.length - j) (b.drop j) = b.drop j := List.take_of_length_le (by rw [List.length_drop]; omega)
  refine r_block ?_
  refine r_seq ?_
  refine r_region (id := 3) ?_
  refine o_give (g_move (evv rfl)) rfl rfl ?_
  refine o_give (g_move (evv rfl)) rfl rfl ?_
  refine o_give (g_subM (evv rfl) _ _ (bnd_some (evv rfl) rfl) bnd_none (by rfl) (by omega) (by omega)) rfl rfl ?_
  (refine o_call rfl _ (Ent.refl _) (Next_c _ _ _ (by first | assumption | omega)) rfl ?_; rintro _ _ ⟨nf, rfl, rfl⟩)
  refine o_give (g_move (evv rfl)) rfl rfl ?_
  refine o_give (g_extract (evv rfl) (by rfl)) rfl rfl ?_
  refine o_give (g_extract (evv rfl) (by rfl)) rfl rfl ?_
  refine o_give (g_extract (evv rfl) (by rfl)) rfl rfl ?_
  refine o_give (g_assign (evv rfl)) rfl rfl ?_
  refine o_give (g_assign (evv rfl)) rfl rfl ?_
  refine o_give (g_assign (evv rfl)) rfl rfl ?_
  refine o_nil ?_
  refine c_code ?_
  refine r_seq ?_
  refine r_seq ?_
  rw [et]
  refine r_region (id := 4) ?_
  refine o_give (g_move (evv rfl)) rfl rfl ?_
  refine o_give (g_bin (evv rfl) (evv rfl) (by rfl)) rfl rfl ?_
  refine o_nil ?_
  refine c_code ?_
  refine r_cond rfl (fun hz => ?_) (fun hz => ?_) <;> (try simp only [decide_eq_true_eq, decide_eq_false_iff_not, Bool.and_eq_true, Bool.or_eq_true, Bool.not_eq_true', Bool.and_eq_false_iff, Bool.or_eq_false_iff, Bool.not_eq_false', Bool.not_eq_true, Bool.not_eq_false, Bool.true_eq_false, Bool.false_eq_true, Int.not_lt, Int.not_le, not_and, not_or, ne_eq] at hz)
  · have hf := hI.stop hz
    refine r_seq ?_
    refine r_region (id := 5) ?_
    refine o_give (g_move (evv rfl)) rfl rfl ?_
    refine o_give (g_move (evv rfl)) rfl rfl ?_
    refine o_give (g_assign (evv rfl)) rfl rfl ?_
    refine o_give (g_assign (evv rfl)) rfl rfl ?_
    refine o_nil ?_
    refine c_code ?_
    rw [hf.2]
    first | refine r_ret (rs := [.tmp 2, .tmp 3]) rfl rfl _ (Ent.drop) ?_ | refine c_end (rs := [.tmp 2, .tmp 3]) rfl rfl _ (Ent.drop) ?_
    exact ⟨_, _, rfl, hf.1, rfl⟩
  · have hl := next_len hz
    rw [List.length_drop] at hl
    refine r_skip ?_
    refine c_code ?_
    refine r_region (id := 6) ?_
    refine o_give (g_move (evv rfl)) rfl rfl ?_
    refine o_give (g_move (evv rfl)) rfl rfl ?_
    refine o_litV rfl rfl rfl (by rfl) rfl rfl (fun _ => ?_)
    rename_i lit
    refine o_appM (f := pcV) (m := [(nf, (nextR (b.drop j)).1)]) (e2 := 25) (evv rfl) (evv rfl) (rd := Rd.as (r := mrow id 25 [nf]) inferInstance rfl) (by rfl) (by rfl) (by rfl) (by simp only [List.length_singleton]; omega) rfl (fun o2 => ?_)
    refine o_give (g_move (evv rfl)) rfl rfl ?_
    refine o_give (g_move (evv rfl)) rfl rfl ?_
    refine o_giveN (g_bin (evv rfl) (evv rfl) (by rfl)) (by simp only [inR]; omega) rfl ?_
    refine o_give (g_assign (evv rfl)) rfl rfl ?_
    refine o_give (g_assign (evv rfl)) rfl rfl ?_
    refine o_nil ?_
    refine c_blk ?_
    skip
    refine c_loop (j + (nextR (b.drop j)).2.1, o2, rows ++ [(nf, (nextR (b.drop j)).1)]) ?_ ?_ (by repeat (first | exact trivial | refine ⟨rfl, ?_⟩ | refine envsub_v rfl (by first | rfl | (refine int_eq ?_; first | omega | (simp; omega) | (simp; done)) | (refine bool_eq ?_; first | (simp [*]; done) | (simp; done)) | (refine str_eq ?_; simp; done) | (refine ptr_eq ?_; omega) | fail) ?_)) ?_ <;> (try dsimp only)
    · exact hI.step hz nf
    · omega
    · exact Ent.drop.trans (Ent.swap.trans (Ent.cons romMore))
theorem rScan_c (L : List Atom) (v : Value) (b : List UInt8) (hb : b.length ≤ 1000000000) [rd : Rd L v (mrow by8 5 b)] :
    Fn Try.prog 19 [v] L fun w L' => ∃ o rows, w = .tuple #[o, .int .i64 ((scanR b).2 : Int)] ∧ rows.map (·.2) = (scanR b).1 ∧ L' = sl o (mrow pcV 25 rows) :: rom (pcR rows) :: L := by
  refine fn_intro Try.func19 rfl Try.ntmps19 rfl (fun W0 => ?_)
  simp only [argE]
  refine r_seq ?_
  refine r_region (id := 0) ?_
  refine o_give (g_assign (evv rfl)) rfl rfl ?_
  refine o_give (g_assign (evv rfl)) rfl rfl ?_
  refine o_nil ?_
  refine c_code ?_
  refine r_seq ?_
  refine r_region (id := 1) ?_
  refine o_give (g_assign (evv rfl)) rfl rfl ?_
  refine o_nil ?_
  refine c_code ?_
  refine r_seq ?_
  refine r_region (id := 2) ?_
  refine o_give (g_assign (evv rfl)) rfl rfl ?_
  refine o_nil ?_
  refine c_code ?_
  refine r_block ?_
  refine r_loopE (σ := Nat × Value × List (Value × List UInt8)) (fun ⟨j, o, rows⟩ => scI b j rows) (fun ⟨j, o, rows⟩ => b.length - j) (fun ⟨j, o, rows⟩ => [(4, .v (o)), (5, .v (.int .i64 j))]) [0] (fun ⟨j, o, rows⟩ => sl o (mrow pcV 25 rows) :: rom (pcR rows) :: L) (0, .slice none 0 0, []) (by dsimp only [pickE, pick1, lk2, Nat.reduceBEq, Nat.reduceAdd, Nat.zero_add, cond_true, cond_false] <;> exact rfl) ?_ (by repeat (first | exact trivial | refine ⟨rfl, ?_⟩ | refine envsub_v rfl (by first | rfl | (refine int_eq ?_; first | omega | (simp; omega) | (simp; done)) | (refine bool_eq ?_; first | (simp [*]; done) | (simp; done)) | (refine str_eq ?_; simp; done) | (refine ptr_eq ?_; omega) | fail) ?_)) ?_ ?_
  · exact ⟨Nat.zero_le _, Nat.le_refl _, rfl, Nat.zero_add _⟩
  · exact Ent.romNil.trans (Ent.nilM pcV 25)
  rintro ⟨j, o, rows⟩ hI; (try dsimp only at hI); dsimp only [List.cons_append, List.nil_append]
  have hj : j ≤ b.length := hI.1
  have hrl : rows.length ≤ j := hI.2.1
  have hdl : (List.take (b.length - j) (b.drop j)).length ≤ 140737488355000 := by rw [List.length_take]; omega
  have et : List.take (b.length - j) (b.drop j) = b.drop j := List.take_of_length_le (by rw [List.length_drop]; omega)
  refine r_block ?_
  refine r_seq ?_
  refine r_region (id := 3) ?_
  refine o_give (g_move (evv rfl)) rfl rfl ?_
  refine o_give (g_move (evv rfl)) rfl rfl ?_
  refine o_give (g_subM (evv rfl) _ _ (bnd_some (evv rfl) rfl) bnd_none (by rfl) (by omega) (by omega)) rfl rfl ?_
  (refine o_call rfl _ (Ent.refl _) (rNext_c _ _ _ (by first | assumption | omega)) rfl ?_; rintro _ _ ⟨nf, rfl, rfl⟩)
  refine o_give (g_move (evv rfl)) rfl rfl ?_
  refine o_give (g_extract (evv rfl) (by rfl)) rfl rfl ?_
  refine o_give (g_extract (evv rfl) (by rfl)) rfl rfl ?_
  refine o_give (g_extract (evv rfl) (by rfl)) rfl rfl ?_
  refine o_give (g_assign (evv rfl)) rfl rfl ?_
  refine o_give (g_assign (evv rfl)) rfl rfl ?_
  refine o_give (g_assign (evv rfl)) rfl rfl ?_
  refine o_nil ?_
  refine c_code ?_
  refine r_seq ?_
  refine r_seq ?_
  rw [et]
  refine r_region (id := 4) ?_
  refine o_give (g_move (evv rfl)) rfl rfl ?_
  refine o_give (g_bin (evv rfl) (evv rfl) (by rfl)) rfl rfl ?_
  refine o_nil ?_
  refine c_code ?_
  refine r_cond rfl (fun hz => ?_) (fun hz => ?_) <;> (try simp only [decide_eq_true_eq, decide_eq_false_iff_not, Bool.and_eq_true, Bool.or_eq_true, Bool.not_eq_true', Bool.and_eq_false_iff, Bool.or_eq_false_iff, Bool.not_eq_false', Bool.not_eq_true, Bool.not_eq_false, Bool.true_eq_false, Bool.false_eq_true, Int.not_lt, Int.not_le, not_and, not_or, ne_eq] at hz)
  · have hf := hI.stop hz
    refine r_seq ?_
    refine r_region (id := 5) ?_
    refine o_give (g_move (evv rfl)) rfl rfl ?_
    refine o_give (g_move (evv rfl)) rfl rfl ?_
    refine o_give (g_assign (evv rfl)) rfl rfl ?_
    refine o_give (g_assign (evv rfl)) rfl rfl ?_
    refine o_nil ?_
    refine c_code ?_
    rw [hf.2]
    first | refine r_ret (rs := [.tmp 2, .tmp 3]) rfl rfl _ (Ent.drop) ?_ | refine c_end (rs := [.tmp 2, .tmp 3]) rfl rfl _ (Ent.drop) ?_
    exact ⟨_, _, rfl, hf.1, rfl⟩
  · have hl := next_len hz
    rw [List.length_drop] at hl
    refine r_skip ?_
    refine c_code ?_
    refine r_seq ?_
    refine r_region (id := 6) ?_
    refine o_give (g_move (evv rfl)) rfl rfl ?_
    refine o_give (g_move (evv rfl)) rfl rfl ?_
    refine o_litV rfl rfl rfl (by rfl) rfl rfl (fun _ => ?_)
    rename_i lit
    refine o_appM (f := pcV) (m := [(nf, (nextR (b.drop j)).1)]) (e2 := 25) (evv rfl) (evv rfl) (rd := Rd.as (r := mrow id 25 [nf]) inferInstance rfl) (by rfl) (by rfl) (by rfl) (by simp only [List.length_singleton]; omega) rfl (fun o2 => ?_)
    refine o_give (g_assign (evv rfl)) rfl rfl ?_
    refine o_nil ?_
    refine c_code ?_
    refine r_region (id := 7) ?_
    refine o_give (g_move (evv rfl)) rfl rfl ?_
    refine o_give (g_move (evv rfl)) rfl rfl ?_
    refine o_giveN (g_bin (evv rfl) (evv rfl) (by rfl)) (by simp only [inR]; omega) rfl ?_
    refine o_give (g_assign (evv rfl)) rfl rfl ?_
    refine o_nil ?_
    refine c_blk ?_
    refine c_loop (j + (nextR (b.drop j)).2.1, o2, rows ++ [(nf, (nextR (b.drop j)).1)]) ?_ ?_ (by repeat (first | exact trivial | refine ⟨rfl, ?_⟩ | refine envsub_v rfl (by first | rfl | (refine int_eq ?_; first | omega | (simp; omega) | (simp; done)) | (refine bool_eq ?_; first | (simp [*]; done) | (simp; done)) | (refine str_eq ?_; simp; done) | (refine ptr_eq ?_; omega) | fail) ?_)) ?_ <;> (try dsimp only)
    · exact hI.step hz nf
    · omega
    · exact Ent.drop.trans (Ent.swap.trans (Ent.cons romMore))
end VK
