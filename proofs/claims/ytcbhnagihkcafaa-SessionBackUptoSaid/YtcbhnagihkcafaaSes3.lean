/- What Forget, List and Clone of the session table do. Conditions: eight seats. -/
import Derived.Test.YtcbhnagihkcafaaSes2
namespace VK
open Go Go.Proofs
set_option linter.unusedSimpArgs false
set_option linter.unusedVariables false
set_option maxRecDepth 100000
set_option maxHeartbeats 40000000
theorem getD_set_self {α : Type} {l : List α} {i : Nat} {a d : α} (hi : i < l.length) : (l.set i a).getD i d = a := by simp [hi]
def forgT (l : List Seat) (client : Int) : Bool × List Seat :=
  if 1 ≤ client ∧ client ≤ 8 ∧ (seatAt l client).kept then (true, l.set (client - 1).toNat { seatAt l client with kept := false, reply := [] }) else (false, l)
theorem Forget_g {g : Atom → List Atom} {b : Nat} [hp : ∀ c, Pick (blk b) (g (blk b c)) c g] (room : Int) (l : List Seat) (client : Int) (hc : inR .i64 client) (hl : l.length = 8) :
    Fn Try.prog 17 [.pointer (some ⟨b, 0, none⟩), .int .i64 client] (g (blk b (tblB room l))) fun v L' => v = .bool (forgT l client).1 ∧ L' = g (blk b (tblB room (forgT l client).2)) := by
  refine fn_intro Try.func17 rfl Try.ntmps17 rfl (fun W0 => ?_)
  simp only [argE]
  by_cases h : 1 ≤ client ∧ client ≤ 8
  · have hi : (client - 1).toNat < l.length := by omega
    refine r_seq ?_
    refine r_region (id := 0) ?_
    refine o_give (g_assign (evv rfl)) rfl rfl ?_
    refine o_nil ?_
    refine c_code ?_
    refine r_seq ?_
    refine r_region (id := 1) ?_
    refine o_give (g_move (evv rfl)) rfl rfl ?_
    refine o_give (g_move (evv rfl)) rfl rfl ?_
    (refine o_call rfl _ (Ent.refl _) (seat_in _ _ _ (by omega)) rfl ?_; rintro _ _ ⟨rfl, rfl⟩)
    refine o_give (g_assign (evv rfl)) rfl rfl ?_
    refine o_nil ?_
    refine c_code ?_
    refine r_seq ?_
    refine r_seq ?_
    refine r_region (id := 2) ?_
    refine o_give (g_move (evv rfl)) rfl rfl ?_
    refine o_give (g_pnil TyU.h (evv rfl) (evv rfl) (by simp) (by rfl)) rfl rfl ?_
    refine o_give (g_move (evv rfl)) rfl rfl ?_
    refine o_gyes rfl ?_
    refine o_give (g_move (evv rfl)) rfl rfl ?_
    refine o_gyes rfl ?_
    refine o_give (g_nil (evv rfl)) rfl rfl ?_
    refine o_gyes rfl ?_
    refine o_give (g_fld (evv rfl)) rfl rfl ?_
    refine o_gyes rfl ?_
    refine o_give (g_loadFl (evv rfl) (by rfl) (by rfl) (by intro; rfl) (by rfl) (by first | omega | (have := of_decide_eq_true hg; omega) | (simp at hg; omega) | (simp only [List.length_set, List.length_append, List.length_cons, List.length_nil, List.length_map, List.length_take, List.length_drop, List.length_replicate]; omega))) rfl rfl ?_
    refine o_gyes rfl ?_
    refine o_give (g_not (evv rfl)) rfl rfl ?_
    refine o_give (g_pick (b := false) (evv rfl) (fun h => by cases h) (fun _ => (evv rfl))) rfl rfl ?_
    refine o_nil ?_
    refine c_code ?_
    refine r_cond rfl (fun h1 => ?_) (fun h1 => ?_) <;> (try simp only [decide_eq_true_eq, decide_eq_false_iff_not, Bool.and_eq_true, Bool.or_eq_true, Bool.not_eq_true', Bool.and_eq_false_iff, Bool.or_eq_false_iff, Bool.not_eq_false', Bool.not_eq_true, Bool.not_eq_false, Bool.true_eq_false, Bool.false_eq_true, Int.not_lt, Int.not_le, not_and, not_or, ne_eq] at h1)
    · have h2 : (seatAt l client).kept = false := by simpa [seatAt] using h1
      simp only [forgT, if_neg (show ¬ (1 ≤ client ∧ client ≤ 8 ∧ (seatAt l client).kept = true) by simp [h2])]
      refine r_seq ?_
      refine r_region (id := 3) ?_
      refine o_give (g_assign (evv rfl)) rfl rfl ?_
      refine o_nil ?_
      refine c_code ?_
      first | refine r_ret (rs := [.tmp 4]) rfl rfl _ (Ent.refl _) ?_ | refine c_end (rs := [.tmp 4]) rfl rfl _ (Ent.refl _) ?_
      (refine ⟨?_, ?_⟩ <;> first | rfl | trivial | omega)
    · have h2 : (seatAt l client).kept = true := by simpa [seatAt] using h1
      simp only [forgT, if_pos (show (1 ≤ client ∧ client ≤ 8 ∧ (seatAt l client).kept = true) from ⟨h.1, h.2, h2⟩)]
      have he : l.set (client - 1).toNat { seatAt l client with kept := false, reply := [] } = (l.set (client - 1).toNat { l.getD (client - 1).toNat default with kept := false }).set (client - 1).toNat { (l.set (client - 1).toNat { l.getD (client - 1).toNat default with kept := false }).getD (client - 1).toNat default with reply := [] } := by
        rw [getD_set_self hi, List.set_set, seatAt]
      rw [he]
      refine r_skip ?_
      refine c_code ?_
      refine r_seq ?_
      refine r_region (id := 4) ?_
      refine o_give (g_move (evv rfl)) rfl rfl ?_
      refine o_give (g_move (evv rfl)) rfl rfl ?_
      refine o_give (g_nil (evv rfl)) rfl rfl ?_
      refine o_give (g_fld (evv rfl)) rfl rfl ?_
      refine o_storeFl (evv rfl) (evv rfl) (by rfl) (by rfl) (by intro; rfl) (by first | omega | (have := of_decide_eq_true hg; omega) | (simp at hg; omega) | (simp only [List.length_set, List.length_append, List.length_cons, List.length_nil, List.length_map, List.length_take, List.length_drop, List.length_replicate]; omega)) (by rfl) ?_
      refine o_give (g_nil (evv rfl)) rfl rfl ?_
      refine o_give (g_fld (evv rfl)) rfl rfl ?_
      refine o_storeFl (evv rfl) (evv rfl) (by rfl) (by rfl) (by intro; rfl) (by first | omega | (have := of_decide_eq_true hg; omega) | (simp at hg; omega) | (simp only [List.length_set, List.length_append, List.length_cons, List.length_nil, List.length_map, List.length_take, List.length_drop, List.length_replicate]; omega)) (by rfl) ?_
      refine o_nil ?_
      refine c_code ?_
      refine r_seq ?_
      refine r_region (id := 5) ?_
      refine o_give (g_assign (evv rfl)) rfl rfl ?_
      refine o_nil ?_
      refine c_code ?_
      first | refine r_ret (rs := [.tmp 4]) rfl rfl _ (Ent.refl _) ?_ | refine c_end (rs := [.tmp 4]) rfl rfl _ (Ent.refl _) ?_
      (refine ⟨?_, ?_⟩ <;> first | rfl | trivial | omega)
  · simp only [forgT, if_neg (show ¬ (1 ≤ client ∧ client ≤ 8 ∧ (seatAt l client).kept = true) by rintro ⟨h1, h2, _⟩; exact h ⟨h1, h2⟩)]
    refine r_seq ?_
    refine r_region (id := 0) ?_
    refine o_give (g_assign (evv rfl)) rfl rfl ?_
    refine o_nil ?_
    refine c_code ?_
    refine r_seq ?_
    refine r_region (id := 1) ?_
    refine o_give (g_move (evv rfl)) rfl rfl ?_
    refine o_give (g_move (evv rfl)) rfl rfl ?_
    (refine o_call rfl _ (Ent.refl _) (seat_c _ _ _ (by first | assumption | (simp only [inR]; omega))) rfl ?_; rintro _ _ ⟨rfl, rfl⟩)
    refine o_give (g_assign (evv rfl)) rfl rfl ?_
    refine o_nil ?_
    refine c_code ?_
    refine r_seq ?_
    refine r_seq ?_
    simp only [seatP, if_neg h]
    refine r_region (id := 2) ?_
    refine o_give (g_move (evv rfl)) rfl rfl ?_
    refine o_give (g_pnil TyU.h (evv rfl) (evv rfl) (by simp) (by rfl)) rfl rfl ?_
    refine o_give (g_move (evv rfl)) rfl rfl ?_
    refine o_lazy rfl (fun hg => g_move (by first | exact evv rfl | exact evg rfl (by rw [hp]; rfl) | exact evg rfl hp | exact evg rfl hg | exact evg rfl (by first | (simp_all; done) | (simp [*]; done) | fail) | fail)) rfl rfl ?_
    refine o_lazy (v0 := undef) rfl (fun hg => absurd hg (by first | (simp; done) | fail)) rfl rfl ?_
    refine o_lazy (v0 := undef) rfl (fun hg => absurd hg (by first | (simp; done) | fail)) rfl rfl ?_
    refine o_lazy (v0 := undef) rfl (fun hg => absurd hg (by first | (simp; done) | fail)) rfl rfl ?_
    refine o_lazy (v0 := undef) rfl (fun hg => absurd hg (by first | (simp; done) | fail)) rfl rfl ?_
    refine o_give (g_pick (b := true) (evv rfl) (fun _ => (evv rfl)) (fun h => by cases h)) rfl rfl ?_
    refine o_nil ?_
    refine c_code ?_
    refine r_cond_true rfl ?_
    refine r_seq ?_
    refine r_region (id := 3) ?_
    refine o_give (g_assign (evv rfl)) rfl rfl ?_
    refine o_nil ?_
    refine c_code ?_
    first | refine r_ret (rs := [.tmp 4]) rfl rfl _ (Ent.refl _) ?_ | refine c_end (rs := [.tmp 4]) rfl rfl _ (Ent.refl _) ?_
    (refine ⟨?_, ?_⟩ <;> first | rfl | trivial | omega)
def listT (l : List Seat) : List Seat := l.filter fun s => decide (0 < s.number)
theorem listT_succ {l : List Seat} {k : Nat} (h : k < l.length) : listT (l.take (k + 1)) = if 0 < (l.getD k default).number then listT (l.take k) ++ [l.getD k default] else listT (l.take k) := by
  rw [List.take_succ_eq_append_getElem h]
  simp only [listT, List.filter_append, List.getD_eq_getElem?_getD, List.getElem?_eq_getElem h, Option.getD_some]
  split <;> simp_all
theorem List_g {g : Atom → List Atom} {b : Nat} [hp : ∀ c, Pick (blk b) (g (blk b c)) c g] (room : Int) (l : List Seat) (hl : l.length = 8) :
    Fn Try.prog 11 [.pointer (some ⟨b, 0, none⟩)] (g (blk b (tblB room l))) fun v L' => True ∧ L' = sl v (frow seatC 5 34 (listT l)) :: g (blk b (tblB room l)) := by
  refine fn_intro Try.func11 rfl Try.ntmps11 rfl (fun W0 => ?_)
  simp only [argE]
  refine r_seq ?_
  refine r_region (id := 0) ?_
  refine o_give (g_assign (evv rfl)) rfl rfl ?_
  refine o_nil ?_
  refine c_code ?_
  refine r_seq ?_
  refine r_region (id := 1) ?_
  refine o_give (g_assign (evv rfl)) rfl rfl ?_
  refine o_nil ?_
  refine c_code ?_
  refine r_seq ?_
  refine r_seq ?_
  refine r_region (id := 2) ?_
  refine o_give (g_move (evv rfl)) rfl rfl ?_
  refine o_give (g_pnil TyU.h (evv rfl) (evv rfl) (by simp) (by rfl)) rfl rfl ?_
  refine o_nil ?_
  refine c_code ?_
  refine r_cond_false rfl ?_
  refine r_skip ?_
  refine c_code ?_
  refine r_seq ?_
  refine r_seq ?_
  refine r_region (id := 4) ?_
  refine o_give (g_move (evv rfl)) rfl rfl ?_
  refine o_give (g_nil (evv rfl)) rfl rfl ?_
  refine o_give (g_fld (evv rfl)) rfl rfl ?_
  refine o_give (g_loadFlA (evv rfl) (by rfl) (by rfl) (by first | rfl | (simp only [*]; done) | (dsimp only; omega) | fail)) rfl rfl ?_
  refine o_give (g_move (evv rfl)) rfl rfl ?_
  refine o_nil ?_
  refine c_code ?_
  refine r_block ?_
  refine r_loopE (σ := Nat × Value) (fun ⟨k, u⟩ => k ≤ 8) (fun ⟨k, u⟩ => 8 - k) (fun ⟨k, u⟩ => [(3, .v (u)), (12, .v (.int .i64 k))]) [11] (fun ⟨k, u⟩ => sl u (frow seatC 5 34 (listT (l.take k))) :: g (blk b (tblB room l))) (0, .slice none 0 0) (by dsimp only [pickE, pick1, lk2, Nat.reduceBEq, Nat.reduceAdd, Nat.zero_add, cond_true, cond_false] <;> exact rfl) ?_ (by repeat (first | exact trivial | refine ⟨rfl, ?_⟩ | refine envsub_v rfl (by first | rfl | (refine int_eq ?_; first | omega | (simp; omega) | (simp; done)) | (refine bool_eq ?_; first | (simp [*]; done) | (simp; done)) | (refine str_eq ?_; simp; done) | (refine ptr_eq ?_; omega) | fail) ?_)) ?_ ?_
  · exact Nat.zero_le 8
  · exact Ent.nilsl _ _
  rintro ⟨k, u⟩ hk; (try dsimp only at hk); dsimp only [List.cons_append, List.nil_append]
  refine r_seq ?_
  refine r_region (id := 5) ?_
  refine o_give (g_bin (evv rfl) (evv rfl) (by rfl)) rfl rfl ?_
  refine o_nil ?_
  refine c_code ?_
  refine r_seq ?_
  refine r_cond rfl (fun hc => ?_) (fun hc => ?_) <;> (try simp only [decide_eq_true_eq, decide_eq_false_iff_not, Bool.and_eq_true, Bool.or_eq_true, Bool.not_eq_true', Bool.and_eq_false_iff, Bool.or_eq_false_iff, Bool.not_eq_false', Bool.not_eq_true, Bool.not_eq_false, Bool.true_eq_false, Bool.false_eq_true, Int.not_lt, Int.not_le, not_and, not_or, ne_eq] at hc)
  · have hk8 : k < l.length := by omega
    have hlen : (listT (l.take k)).length ≤ 8 := Nat.le_trans (List.length_filter_le _ _) (by simp; omega)
    have hs := listT_succ hk8
    refine r_skip ?_
    refine c_code ?_
    refine r_seq ?_
    refine r_block ?_
    refine r_seq ?_
    refine r_region (id := 6) ?_
    refine o_give (g_indexFlN (evv rfl) (evv rfl) (by rfl) (by rfl) (by first | assumption | omega) (by omega)) rfl rfl ?_
    refine o_alloc rfl rfl (fun _ => ?_)
    refine o_storeW (evv rfl) (evv rfl) (by first | rfl | assumption | (simp [bys, *]; done) | fail) (by first | (intro _ _ _; exact bys_one _) | exact AllOne.h | (intro _ _ _ u hu; simp at hu; rcases hu with rfl | rfl | rfl | rfl | rfl | rfl | rfl | rfl <;> rfl) | fail) (by first | rfl | (simp [bys, *]; done) | (simp only [bys, List.length_map, *]; rfl) | fail) ?_
    refine o_nil ?_
    refine c_code ?_
    refine r_seq ?_
    refine r_region (id := 7) ?_
    refine o_give (g_fld (evv rfl)) rfl rfl ?_
    refine o_give (g_load (evv rfl) (by rfl) (by rfl)) rfl rfl ?_
    refine o_give (g_bin (evv rfl) (evv rfl) (by rfl)) rfl rfl ?_
    refine o_nil ?_
    refine c_code ?_
    refine r_cond rfl (fun h1 => ?_) (fun h1 => ?_) <;> (try simp only [decide_eq_true_eq, decide_eq_false_iff_not, Bool.and_eq_true, Bool.or_eq_true, Bool.not_eq_true', Bool.and_eq_false_iff, Bool.or_eq_false_iff, Bool.not_eq_false', Bool.not_eq_true, Bool.not_eq_false, Bool.true_eq_false, Bool.false_eq_true, Int.not_lt, Int.not_le, not_and, not_or, ne_eq] at h1)
    · rw [if_pos h1] at hs
      refine r_region (id := 8) ?_
      refine o_give (g_move (evv rfl)) rfl rfl ?_
      refine o_give (g_loadF (evv rfl) (by rfl) (by rfl)) rfl rfl ?_
      refine o_litS rfl (by rfl) inferInstance (by rfl) rfl (fun _ => ?_)
      refine o_appF (evv rfl) (evv rfl) (by rfl) (by rfl) (by rfl) (by (try simp only [bsOf, List.length_append, List.length_cons, List.length_nil]); omega) rfl (fun _ => ?_)
      refine o_give (g_assign (evv rfl)) rfl rfl ?_
      refine o_nil ?_
      refine c_blk ?_
      refine c_code ?_
      rename_i u'
      refine r_region (id := 9) ?_
      refine o_giveN (g_bin (evv rfl) (evv rfl) (by rfl)) (by simp only [inR]; omega) rfl ?_
      refine o_give (g_move (evv rfl)) rfl rfl ?_
      refine o_nil ?_
      refine c_loop (k + 1, u') ?_ ?_ (by repeat (first | exact trivial | refine ⟨rfl, ?_⟩ | refine envsub_v rfl (by first | rfl | (refine int_eq ?_; first | omega | (simp; omega) | (simp; done)) | (refine bool_eq ?_; first | (simp [*]; done) | (simp; done)) | (refine str_eq ?_; simp; done) | (refine ptr_eq ?_; omega) | fail) ?_)) ?_ <;> (try dsimp only)
      · show k + 1 ≤ 8; omega
      · show 8 - (k + 1) < 8 - k; omega
      · rw [hs]; exact Ent.drop.trans Ent.drop
    · rw [if_neg (by omega)] at hs
      refine r_skip ?_
      refine c_blk ?_
      refine c_code ?_
      refine r_region (id := 9) ?_
      refine o_giveN (g_bin (evv rfl) (evv rfl) (by rfl)) (by simp only [inR]; omega) rfl ?_
      refine o_give (g_move (evv rfl)) rfl rfl ?_
      refine o_nil ?_
      refine c_loop (k + 1, u) ?_ ?_ (by repeat (first | exact trivial | refine ⟨rfl, ?_⟩ | refine envsub_v rfl (by first | rfl | (refine int_eq ?_; first | omega | (simp; omega) | (simp; done)) | (refine bool_eq ?_; first | (simp [*]; done) | (simp; done)) | (refine str_eq ?_; simp; done) | (refine ptr_eq ?_; omega) | fail) ?_)) ?_ <;> (try dsimp only)
      · show k + 1 ≤ 8; omega
      · show 8 - (k + 1) < 8 - k; omega
      · rw [hs]; exact Ent.drop
  · have : k = 8 := by omega
    subst this
    rw [show l.take 8 = l from List.take_of_length_le (by omega)]
    refine r_exit rfl ?_
    refine c_code ?_
    refine r_seq ?_
    refine r_region (id := 10) ?_
    refine o_give (g_move (evv rfl)) rfl rfl ?_
    refine o_give (g_assign (evv rfl)) rfl rfl ?_
    refine o_nil ?_
    refine c_code ?_
    first | refine r_ret (rs := [.tmp 2]) rfl rfl _ (Ent.refl _) ?_ | refine c_end (rs := [.tmp 2]) rfl rfl _ (Ent.refl _) ?_
    (refine ⟨?_, ?_⟩ <;> first | rfl | trivial | omega)
end VK
