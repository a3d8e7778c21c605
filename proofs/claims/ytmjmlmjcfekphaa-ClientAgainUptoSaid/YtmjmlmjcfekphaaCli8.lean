/- The requests to all replicas. Conditions: few replicas. -/
import Derived.Test.YtmjmlmjcfekphaaCli7
namespace VK
open Go Go.Proofs
set_option linter.unusedSimpArgs false
set_option linter.unusedVariables false
set_option maxRecDepth 100000
set_option maxHeartbeats 40000000
theorem reqL_len (id : Int) (vs : List Value) : (reqL id vs).length = vs.length := by simp [reqL]
theorem reqRom_app (e : EntS) (vs : List Value) (v : Value) : reqRom e (vs ++ [v]) = (v, entR [e]) :: reqRom e vs := by simp [reqRom]
theorem ent_nil1 {L : List Atom} (id : Int) (e : EntS) : Ent L (sl (.slice none 0 0) (msgR (reqL id [])) :: rom (reqRom e []) :: L) := Ent.trans Ent.romNil (Ent.nilsl 37 47)
instance (L : List Atom) (id : Int) (i : Nat) (ve : Value) [h : OneC L ve] : AllOne L (msgC (reqM id i ve)) := by rw [← reqC_eq]; unfold reqC; infer_instance
theorem request_c (L : List Atom) (c : Nat) (id n num left : Int) (w : Bool) (o : OpS) (h : 1 ≤ id ∧ id ≤ 8) (hn : n = 3 ∨ n = 5 ∨ n = 7) : Fn Try.prog 22 [.pointer (some ⟨c, 0, none⟩)] (blk c ⟨cliC id n num left w o, 68⟩ :: L) fun v L' => ∃ vs, (vs.length : Int) = n ∧ L' = blk c ⟨cliC id n num 4 w o, 68⟩ :: sl v (msgR (reqL id vs)) :: rom (reqRom ⟨id, num, o⟩ vs) :: L := by
  refine fn_intro Try.func22 rfl Try.ntmps22 rfl (fun W0 => ?_)
  simp only [argE]
  refine r_seq ?_
  refine r_region (id := 0) ?_
  refine o_box1 (evv rfl) rfl (fun _ => ?_)
  refine o_give (g_assign (evv rfl)) rfl rfl ?_
  refine o_nil ?_
  refine c_code ?_
  refine r_seq ?_
  rename_i p
  refine r_region (id := 1) ?_
  refine o_give (g_load (evv rfl) (by rfl) (by rfl)) rfl rfl ?_
  refine o_give (g_nil (evv rfl)) rfl rfl ?_
  refine o_give (g_fld (evv rfl)) rfl rfl ?_
  refine o_store1 (evv rfl) (evv rfl) (by rfl) (by rfl) (by rfl) ?_
  refine o_nil ?_
  refine c_code ?_
  refine r_seq ?_
  refine r_region (id := 2) ?_
  refine o_give (g_func rfl rfl) rfl rfl ?_
  refine o_give (g_assign (evv rfl)) rfl rfl ?_
  refine o_nil ?_
  refine c_code ?_
  refine r_seq ?_
  refine r_region (id := 3) ?_
  refine o_give (g_assign (evv rfl)) rfl rfl ?_
  refine o_nil ?_
  refine c_code ?_
  refine r_seq ?_
  refine r_seq ?_
  refine r_region (id := 4) ?_
  refine o_give (g_load (evv rfl) (by rfl) (by rfl)) rfl rfl ?_
  refine o_give (g_nil (evv rfl)) rfl rfl ?_
  refine o_give (g_fld (evv rfl)) rfl rfl ?_
  refine o_give (g_load (evv rfl) (by rfl) (by rfl)) rfl rfl ?_
  refine o_give (g_move (evv rfl)) rfl rfl ?_
  refine o_nil ?_
  refine c_code ?_
  refine r_block ?_
  refine r_loopE (σ := Value × List Value) (fun x => (x.2.length : Int) ≤ n) (fun x => (n - x.2.length).toNat) (fun x => [(4, .v (x.1)), (14, .v (.int .i64 x.2.length))]) [3, 13] (fun x => blk p ⟨[.pointer (some ⟨c, 0, none⟩)], 24⟩ :: blk c ⟨cliC id n num 4 w o, 68⟩ :: sl x.1 (msgR (reqL id x.2)) :: rom (reqRom ⟨id, num, o⟩ x.2) :: L) (.slice none 0 0, []) (by dsimp only [pickE, pick1, lk2, Nat.reduceBEq, Nat.reduceAdd, Nat.zero_add, cond_true, cond_false] <;> exact rfl) ?_ (by repeat (first | exact trivial | refine ⟨rfl, ?_⟩ | refine envsub_v rfl (by first | rfl | (refine int_eq ?_; first | omega | (simp; omega) | (simp; done)) | (refine bool_eq ?_; first | (simp [*]; done) | (simp; done)) | (refine str_eq ?_; simp; done) | (refine ptr_eq ?_; omega) | fail) ?_)) ?_ ?_
  · dsimp only; simp; omega
  · exact (ent_nil1 id ⟨id, num, o⟩).trans Lay.ent
  rintro ⟨vo, vs⟩ hx; (try dsimp only at hx); dsimp only [List.cons_append, List.nil_append]
  have hl := reqL_len id vs
  refine r_seq ?_
  refine r_region (id := 5) ?_
  refine o_give (g_bin (evv rfl) (evv rfl) (by rfl)) rfl rfl ?_
  refine o_nil ?_
  refine c_code ?_
  refine r_seq ?_
  refine r_cond rfl (fun hc => ?_) (fun hc => ?_) <;> (try simp only [decide_eq_true_eq, decide_eq_false_iff_not, Bool.and_eq_true, Bool.or_eq_true, Bool.not_eq_true', Bool.and_eq_false_iff, Bool.or_eq_false_iff, Bool.not_eq_false', Bool.not_eq_true, Bool.not_eq_false, Bool.true_eq_false, Bool.false_eq_true, Int.not_lt, Int.not_le, not_and, not_or, ne_eq] at hc)
  · refine r_skip ?_
    refine c_code ?_
    refine r_seq ?_
    refine r_block ?_
    refine r_seq ?_
    refine r_region (id := 6) ?_
    refine o_give (g_move (evv rfl)) rfl rfl ?_
    refine o_give (g_assign (evv rfl)) rfl rfl ?_
    refine o_nil ?_
    refine c_code ?_
    refine r_region (id := 7) ?_
    refine o_give (g_move (evv rfl)) rfl rfl ?_
    refine o_give (g_move (evv rfl)) rfl rfl ?_
    refine o_give (g_move (evv rfl)) rfl rfl ?_
    (refine o_callV rfl rfl _ (Ent.refl _) (req1_c _ _ _ _ _ _ _ _ _ _ (by assumption)) rfl ?_; rintro _ _ ⟨ve, rfl, rfl⟩)
    refine o_litS rfl (by rfl) inferInstance (by rfl) rfl (fun _ => ?_)
    refine o_appF (evv rfl) (evv rfl) (by rfl) (by rfl) (by rfl) (by (try simp only [bsOf, List.length_append, List.length_cons, List.length_nil, List.length_take, List.length_drop, List.length_map, List.length_range]); omega) rfl (fun _ => ?_)
    refine o_give (g_assign (evv rfl)) rfl rfl ?_
    refine o_nil ?_
    refine c_blk ?_
    refine c_code ?_
    refine r_region (id := 8) ?_
    refine o_giveN (g_bin (evv rfl) (evv rfl) (by rfl)) (by simp only [inR]; omega) rfl ?_
    refine o_give (g_move (evv rfl)) rfl rfl ?_
    refine o_nil ?_
    rename_i vm vo'
    refine c_loop (vo', vs ++ [ve]) ?_ ?_ (by simp only [List.length_append, List.length_singleton, Int.natCast_add, Int.natCast_one]; repeat (first | exact trivial | refine ⟨rfl, ?_⟩ | refine envsub_v rfl (by first | rfl | (refine int_eq ?_; first | omega | (simp; omega) | (simp; done)) | (refine bool_eq ?_; first | (simp [*]; done) | (simp; done)) | (refine str_eq ?_; simp; done) | (refine ptr_eq ?_; omega) | fail) ?_)) ?_ <;> (try dsimp only)
    · simp; omega
    · simp; omega
    · rw [reqL_app, reqRom_app]
      exact Ent.trans (Lay.ent (L' := sl ve (entR [⟨id, num, o⟩]) :: rom (reqRom ⟨id, num, o⟩ vs) :: blk p ⟨[.pointer (some ⟨c, 0, none⟩)], 24⟩ :: blk c ⟨cliC id n num 4 w o, 68⟩ :: sl vo' (msgR (reqL id vs ++ [reqM id vs.length ve])) :: L)) (Ent.romIn.trans Lay.ent)
  · refine r_exit rfl ?_
    refine c_code ?_
    refine r_seq ?_
    refine r_region (id := 9) ?_
    refine o_give (g_move (evv rfl)) rfl rfl ?_
    refine o_give (g_assign (evv rfl)) rfl rfl ?_
    refine o_nil ?_
    refine c_code ?_
    first | refine r_ret (rs := [.tmp 2]) rfl rfl _ ((Lay.ent (L' := blk c ⟨cliC id n num 4 w o, 68⟩ :: sl vo (msgR (reqL id vs)) :: rom (reqRom ⟨id, num, o⟩ vs) :: L))) ?_ | refine c_end (rs := [.tmp 2]) rfl rfl _ ((Lay.ent (L' := blk c ⟨cliC id n num 4 w o, 68⟩ :: sl vo (msgR (reqL id vs)) :: rom (reqRom ⟨id, num, o⟩ vs) :: L))) ?_
    exact ⟨vs, by omega, rfl⟩
end VK
