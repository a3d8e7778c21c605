/- What Record and Forget of the reference table do to its seats. Conditions: few bytes; what isn't kept has no reply. -/
import Derived.Test.YtcbhnagihkcafaaSesP
namespace VK
open Go Go.Proofs
set_option linter.unusedSimpArgs false
set_option linter.unusedVariables false
set_option maxRecDepth 100000
set_option maxHeartbeats 40000000
abbrev rtB (room : Int) (u : Value) : Blk := ⟨[.int .i64 room, u], 40⟩
theorem ins_len {s : Seat} : ∀ {put : Bool} {l : List Seat}, (insGo s put l).length ≤ l.length + 1
  | put, [] => by simp only [insGo]; split <;> simp
  | put, x :: xs => by
    have ih := ins_len (s := s) (put := put || decide (s.client ≤ x.client)) (l := xs)
    have h1 : (if x.client = s.client then [] else [x]).length ≤ 1 := by split <;> simp
    cases put with
    | true => simp only [insGo, List.length_append, List.length_cons, Bool.true_eq_false, false_and, if_false, List.length_nil]; omega
    | false =>
      by_cases h : s.client ≤ x.client
      · have : ∀ xs : List Seat, (insGo s true xs).length ≤ xs.length := by
          intro xs
          induction xs with
          | nil => simp [insGo]
          | cons y ys ih => simp only [insGo, List.length_append, List.length_cons, Bool.true_eq_false, false_and, if_false, List.length_nil, Bool.true_or]; have : (if y.client = s.client then [] else [y]).length ≤ 1 := by split <;> simp
                            omega
        have := this xs
        simp only [insGo, h, and_self, if_true, List.length_append, List.length_cons, List.length_nil, decide_true, Bool.or_true]; omega
      · simp only [insGo, h, and_false, if_false, List.length_append, List.length_cons, List.length_nil, decide_false, Bool.or_false] at ih ⊢; omega
theorem rForget_c (F : List Atom) (r : Nat) (room : Int) (l : List Seat) (client : Int) (hl : l.length ≤ 1000) :
    Fn Try.prog 24 [.pointer (some ⟨r, 0, none⟩), .int .i64 client] (rtA r (room, l) :: F) fun v L' => v = .bool (forgR l client).1 ∧ L' = rtA r (room, (forgR l client).2) :: F := by
  refine Fn.exA fun u => ?_
  simp only [List.cons_append, List.nil_append]
  refine fn_intro Try.func24 rfl Try.ntmps24 rfl (fun W0 => ?_)
  simp only [argE]
  by_cases hf : findI l client < l.length
  · refine r_seq ?_
    refine r_region (id := 0) ?_
    refine o_give (g_assign (evv rfl)) rfl rfl ?_
    refine o_nil ?_
    refine c_code ?_
    refine r_seq ?_
    refine r_region (id := 1) ?_
    refine o_give (g_move (evv rfl)) rfl rfl ?_
    refine o_give (g_move (evv rfl)) rfl rfl ?_
    (refine o_call rfl _ (Ent.refl _) (Fn.atPick (rfind_g _ _ _ (by assumption))) rfl ?_; rintro _ _ ⟨rfl, rfl⟩)
    refine o_give (g_assign (evv rfl)) rfl rfl ?_
    refine o_nil ?_
    refine c_code ?_
    refine r_seq ?_
    refine r_seq ?_
    simp only [findV, if_pos hf]
    generalize hi : findI l client = i at *
    generalize hs : l.getD i default = s
    refine r_region (id := 2) ?_
    refine o_give (g_move (evv rfl)) rfl rfl ?_
    refine o_give (g_bin (evv rfl) (evv rfl) (by rfl)) rfl rfl ?_
    refine o_give (g_move (evv rfl)) rfl rfl ?_
    refine o_gyes rfl ?_
    refine o_give (g_move (evv rfl)) rfl rfl ?_
    refine o_gyes rfl ?_
    refine o_give (g_nil (evv rfl)) rfl rfl ?_
    refine o_gyes rfl ?_
    refine o_give (g_fld (evv rfl)) rfl rfl ?_
    refine o_gyes rfl ?_
    refine o_give (g_load (evv rfl) (by rfl) (by rfl)) rfl rfl ?_
    refine o_gyes rfl ?_
    refine o_give (g_move (evv rfl)) rfl rfl ?_
    refine o_gyes rfl ?_
    refine o_give (g_idxFN (evv rfl) (evv rfl) (by rfl) (by rfl) (by first | omega | (have := of_decide_eq_true hg; omega) | (simp at hg; omega) | (simp only [List.length_set, List.length_append, List.length_cons, List.length_nil, List.length_map, List.length_take, List.length_drop, List.length_replicate]; omega))) rfl rfl ?_
    refine o_gyes rfl ?_
    refine o_give (g_fldE (evv rfl) (by first | (simp only [frow, mrow]; omega) | (simp only [frow, mrow, List.length_set, List.length_append, List.length_cons]; omega) | fail) (by first | exact Nat.succ_pos _ | decide)) rfl rfl ?_
    refine o_gyes rfl ?_
    refine o_give (g_loadFld (evv rfl) (by rfl) (by intro; rfl) (by first | omega | (have := of_decide_eq_true hg; omega) | (simp at hg; omega) | (simp only [List.length_set, List.length_append, List.length_cons, List.length_nil, List.length_map, List.length_take, List.length_drop, List.length_replicate]; omega)) (by rfl)) rfl rfl ?_
    refine o_gyes rfl ?_
    refine o_give (g_not (evv rfl)) rfl rfl ?_
    refine o_give (g_pick (b := false) (evv rfl) (fun h => by cases h) (fun _ => (evv rfl))) rfl rfl ?_
    refine o_nil ?_
    refine c_code ?_
    rw [hs]
    refine r_cond rfl (fun h1 => ?_) (fun h1 => ?_) <;> (try simp only [decide_eq_true_eq, decide_eq_false_iff_not, Bool.and_eq_true, Bool.or_eq_true, Bool.not_eq_true', Bool.and_eq_false_iff, Bool.or_eq_false_iff, Bool.not_eq_false', Bool.not_eq_true, Bool.not_eq_false, Bool.true_eq_false, Bool.false_eq_true, Int.not_lt, Int.not_le, not_and, not_or, ne_eq] at h1)
    · have h2 : forgR l client = (false, l) := by
        rw [forgR, if_neg]; rintro ⟨_, h⟩; rw [hi, hs] at h; rw [h] at h1; cases h1
      rw [h2]
      refine r_seq ?_
      refine r_region (id := 3) ?_
      refine o_give (g_assign (evv rfl)) rfl rfl ?_
      refine o_nil ?_
      refine c_code ?_
      first | refine r_ret (rs := [.tmp 4]) rfl rfl _ (Ent.shut (X := fun u : Value => [blk r (rtB room u), sl u (frow seatC 5 34 l)]) u) ?_ | refine c_end (rs := [.tmp 4]) rfl rfl _ (Ent.shut (X := fun u : Value => [blk r (rtB room u), sl u (frow seatC 5 34 l)]) u) ?_
      (refine ⟨?_, ?_⟩ <;> first | rfl | trivial | omega)
    · have h2 : forgR l client = (true, l.set i { s with kept := false, reply := [] }) := by
        rw [forgR, hi, hs, if_pos ⟨hf, h1⟩]
      have he : l.set i { s with kept := false, reply := [] } = (l.set i { l.getD i default with kept := false }).set i { (l.set i { l.getD i default with kept := false }).getD i default with reply := [] } := by
        rw [getD_set_self hf, List.set_set, hs]
      rw [h2, he]
      refine r_skip ?_
      refine c_code ?_
      refine r_seq ?_
      refine r_region (id := 4) ?_
      refine o_give (g_move (evv rfl)) rfl rfl ?_
      refine o_give (g_nil (evv rfl)) rfl rfl ?_
      refine o_give (g_fld (evv rfl)) rfl rfl ?_
      refine o_give (g_load (evv rfl) (by rfl) (by rfl)) rfl rfl ?_
      refine o_give (g_move (evv rfl)) rfl rfl ?_
      refine o_give (g_idxFN (evv rfl) (evv rfl) (by rfl) (by rfl) (by first | omega | (have := of_decide_eq_true hg; omega) | (simp at hg; omega) | (simp only [List.length_set, List.length_append, List.length_cons, List.length_nil, List.length_map, List.length_take, List.length_drop, List.length_replicate]; omega))) rfl rfl ?_
      refine o_give (g_fldE (evv rfl) (by first | (simp only [frow, mrow]; omega) | (simp only [frow, mrow, List.length_set, List.length_append, List.length_cons]; omega) | fail) (by first | exact Nat.succ_pos _ | decide)) rfl rfl ?_
      refine o_storeFld (evv rfl) (evv rfl) (by rfl) (by intro; rfl) (by first | omega | (have := of_decide_eq_true hg; omega) | (simp at hg; omega) | (simp only [List.length_set, List.length_append, List.length_cons, List.length_nil, List.length_map, List.length_take, List.length_drop, List.length_replicate]; omega)) (by rfl) ?_
      refine o_nil ?_
      refine c_code ?_
      refine r_seq ?_
      refine r_region (id := 5) ?_
      refine o_give (g_move (evv rfl)) rfl rfl ?_
      refine o_give (g_nil (evv rfl)) rfl rfl ?_
      refine o_give (g_fld (evv rfl)) rfl rfl ?_
      refine o_give (g_load (evv rfl) (by rfl) (by rfl)) rfl rfl ?_
      refine o_give (g_move (evv rfl)) rfl rfl ?_
      refine o_give (g_idxFN (evv rfl) (evv rfl) (by rfl) (by rfl) (by first | omega | (have := of_decide_eq_true hg; omega) | (simp at hg; omega) | (simp only [List.length_set, List.length_append, List.length_cons, List.length_nil, List.length_map, List.length_take, List.length_drop, List.length_replicate]; omega))) rfl rfl ?_
      refine o_give (g_fldE (evv rfl) (by first | (simp only [frow, mrow]; omega) | (simp only [frow, mrow, List.length_set, List.length_append, List.length_cons]; omega) | fail) (by first | exact Nat.succ_pos _ | decide)) rfl rfl ?_
      refine o_storeFld (evv rfl) (evv rfl) (by rfl) (by intro; rfl) (by first | omega | (have := of_decide_eq_true hg; omega) | (simp at hg; omega) | (simp only [List.length_set, List.length_append, List.length_cons, List.length_nil, List.length_map, List.length_take, List.length_drop, List.length_replicate]; omega)) (by rfl) ?_
      refine o_nil ?_
      refine c_code ?_
      refine r_seq ?_
      refine r_region (id := 6) ?_
      refine o_give (g_assign (evv rfl)) rfl rfl ?_
      refine o_nil ?_
      refine c_code ?_
      first | refine r_ret (rs := [.tmp 4]) rfl rfl _ (Ent.shut (X := fun u : Value => [blk r (rtB room u), sl u (frow seatC 5 34 _)]) u) ?_ | refine c_end (rs := [.tmp 4]) rfl rfl _ (Ent.shut (X := fun u : Value => [blk r (rtB room u), sl u (frow seatC 5 34 _)]) u) ?_
      (refine ⟨?_, ?_⟩ <;> first | rfl | trivial | omega)
  · have h2 : forgR l client = (false, l) := by rw [forgR, if_neg]; rintro ⟨h, _⟩; exact hf h
    rw [h2]
    refine r_seq ?_
    refine r_region (id := 0) ?_
    refine o_give (g_assign (evv rfl)) rfl rfl ?_
    refine o_nil ?_
    refine c_code ?_
    refine r_seq ?_
    refine r_region (id := 1) ?_
    refine o_give (g_move (evv rfl)) rfl rfl ?_
    refine o_give (g_move (evv rfl)) rfl rfl ?_
    (refine o_call rfl _ (Ent.refl _) (Fn.atPick (rfind_g _ _ _ (by assumption))) rfl ?_; rintro _ _ ⟨rfl, rfl⟩)
    refine o_give (g_assign (evv rfl)) rfl rfl ?_
    refine o_nil ?_
    refine c_code ?_
    refine r_seq ?_
    refine r_seq ?_
    simp only [findV, if_neg hf]
    refine r_region (id := 2) ?_
    refine o_give (g_move (evv rfl)) rfl rfl ?_
    refine o_give (g_bin (evv rfl) (evv rfl) (by rfl)) rfl rfl ?_
    refine o_give (g_move (evv rfl)) rfl rfl ?_
    refine o_lazy rfl (fun hg => g_move (by first | exact evv rfl | exact evg rfl (by rw [hp]; rfl) | exact evg rfl hp | exact evg rfl hg | exact evg rfl (by first | (simp_all; done) | (simp [*]; done) | fail) | fail)) rfl rfl ?_
    refine o_lazy rfl (fun hg => g_nil (by first | exact evv rfl | exact evg rfl (by rw [hp]; rfl) | exact evg rfl hp | exact evg rfl hg | exact evg rfl (by first | (simp_all; done) | (simp [*]; done) | fail) | fail)) rfl rfl ?_
    refine o_lazy rfl (fun hg => g_fld (evg rfl hg)) rfl rfl ?_
    refine o_lazy rfl (fun hg => g_load (evg rfl hg) (by rfl) (by rfl)) rfl rfl ?_
    refine o_lazy rfl (fun hg => g_move (by first | exact evv rfl | exact evg rfl (by rw [hp]; rfl) | exact evg rfl hp | exact evg rfl hg | exact evg rfl (by first | (simp_all; done) | (simp [*]; done) | fail) | fail)) rfl rfl ?_
    refine o_lazy (v0 := undef) rfl (fun hg => absurd hg (by first | (simp; done) | fail)) rfl rfl ?_
    refine o_lazy (v0 := undef) rfl (fun hg => absurd hg (by first | (simp; done) | fail)) rfl rfl ?_
    refine o_lazy (v0 := undef) rfl (fun hg => absurd hg (by first | (simp; done) | fail)) rfl rfl ?_
    refine o_lazy (v0 := undef) rfl (fun hg => absurd hg (by first | (simp; done) | fail)) rfl rfl ?_
    refine o_give (g_pick (b := true) (evv rfl) (fun _ => (evv rfl)) (fun h => by cases h)) rfl rfl ?_
    refine o_nil ?_
    refine c_code ?_
    refine r_cond_true rfl ?_
    refine r_seq ?_
    refine r_region (id := 3) ?_
    refine o_give (g_assign (evv rfl)) rfl rfl ?_
    refine o_nil ?_
    refine c_code ?_
    first | refine r_ret (rs := [.tmp 4]) rfl rfl _ (Ent.shut (X := fun u : Value => [blk r (rtB room u), sl u (frow seatC 5 34 l)]) u) ?_ | refine c_end (rs := [.tmp 4]) rfl rfl _ (Ent.shut (X := fun u : Value => [blk r (rtB room u), sl u (frow seatC 5 34 l)]) u) ?_
    (refine ⟨?_, ?_⟩ <;> first | rfl | trivial | omega)
theorem rForget_l {L : List Atom} {r : Nat} {x : Int × List Seat} {g : Atom → List Atom} [pk : Pick (rtA r) L x g] (client : Int) (hl : x.2.length ≤ 1000) :
    Fn Try.prog 24 [.pointer (some ⟨r, 0, none⟩), .int .i64 client] L fun v L' => v = .bool (forgR x.2 client).1 ∧ L' = g (rtA r (x.1, (forgR x.2 client).2)) :=
  Fn.lift1 (fun F => rForget_c F r x.1 x.2 client hl) pk
theorem drop_cons {l : List Seat} {k : Nat} (h : k < l.length) : l.drop k = l.getD k default :: l.drop (k + 1) := by rw [List.drop_eq_getElem_cons h]; simp [h]
theorem ins_mem {s x : Seat} : ∀ {put : Bool} {l : List Seat}, x ∈ insGo s put l → x = s ∨ x ∈ l
  | put, [], h => by cases put <;> simp [insGo] at h; exact .inl h
  | put, y :: ys, h => by
    simp only [insGo, List.mem_append] at h
    rcases h with h | h | h
    · split at h <;> simp at h; exact .inl h
    · split at h <;> simp at h; exact .inr (by simp [h])
    · rcases ins_mem h with h | h
      · exact .inl h
      · exact .inr (by simp [h])
theorem repB_app (a b : List Seat) : repB (a ++ b) = repB a + repB b := by simp [repB]
theorem ins_rep {s : Seat} : ∀ {put : Bool} {l : List Seat}, repB (insGo s put l) ≤ repB l + (if put then 0 else s.reply.length)
  | put, [] => by cases put <;> simp [insGo, repB]
  | put, y :: ys => by
    have ih := ins_rep (s := s) (put := put || decide (s.client ≤ y.client)) (l := ys)
    have h1 : repB (if y.client = s.client then [] else [y]) ≤ y.reply.length := by split <;> simp [repB]
    have h2 : repB (y :: ys) = y.reply.length + repB ys := by simp [repB]
    have h3 : repB [s] = s.reply.length := by simp [repB]
    have h4 : repB [] = 0 := rfl
    simp only [insGo, repB_app]
    rw [h2]
    cases put with
    | true => simp only [Bool.true_or, if_true, Bool.true_eq_false, false_and, if_false] at ih ⊢; omega
    | false =>
      by_cases hc : s.client ≤ y.client
      · simp only [hc, decide_true, Bool.or_true, if_true, true_and, Bool.false_eq_true, if_false] at ih ⊢; omega
      · simp only [hc, decide_false, Bool.or_false, Bool.false_eq_true, if_false, and_false] at ih ⊢; omega
def bestV : Option Nat → Int
  | none => -1
  | some j => (j : Int)
theorem rRecord_c (F : List Atom) (r : Nat) (room : Int) (l : List Seat) (client number at_ : Int) (reply : List UInt8) (hl : l.length ≤ 100) (h0 : 0 ≤ room) (hw : wfS l) (hb : repB l ≤ 1000000) :
    Fn Try.prog 25 [.pointer (some ⟨r, 0, none⟩), .int .i64 client, .int .i64 number, .int .i64 at_, str reply] (rtA r (room, l) :: F) fun v L' => v = .int .i64 (recR room l client number at_ reply).1 ∧ L' = rtA r (room, (recR room l client number at_ reply).2) :: F := by
  refine Fn.exA fun u => ?_
  simp only [List.cons_append, List.nil_append]
  refine fn_intro Try.func25 rfl Try.ntmps25 rfl (fun W0 => ?_)
  simp only [argE]
  have hl' : l.length ≤ 1000 := by omega
  refine r_seq ?_
  refine r_region (id := 0) ?_
  refine o_give (g_assign (evv rfl)) rfl rfl ?_
  refine o_nil ?_
  refine c_code ?_
  refine r_seq ?_
  refine r_region (id := 1) ?_
  refine o_give (g_move (evv rfl)) rfl rfl ?_
  refine o_give (g_move (evv rfl)) rfl rfl ?_
  refine o_give (g_move (evv rfl)) rfl rfl ?_
  (refine o_call rfl _ (Ent.refl _) (Fn.atPick (rLook_g _ _ _ _ (by assumption))) rfl ?_; rintro _ _ ⟨rfl, rfl⟩)
  refine o_give (g_move (evv rfl)) rfl rfl ?_
  refine o_give (g_extract (evv rfl) (by rfl)) rfl rfl ?_
  refine o_give (g_extract (evv rfl) (by rfl)) rfl rfl ?_
  refine o_give (g_assign (evv rfl)) rfl rfl ?_
  refine o_give (g_assign (evv rfl)) rfl rfl ?_
  refine o_nil ?_
  refine c_code ?_
  refine r_seq ?_
  refine r_seq ?_
  refine r_region (id := 2) ?_
  refine o_give (g_move (evv rfl)) rfl rfl ?_
  refine o_give (g_bin (evv rfl) (evv rfl) (by rfl)) rfl rfl ?_
  refine o_nil ?_
  refine c_code ?_
  simp only [recR]
  refine r_cond rfl (fun h1 => ?_) (fun h1 => ?_) <;> (try simp only [decide_eq_true_eq, decide_eq_false_iff_not, Bool.and_eq_true, Bool.or_eq_true, Bool.not_eq_true', Bool.and_eq_false_iff, Bool.or_eq_false_iff, Bool.not_eq_false', Bool.not_eq_true, Bool.not_eq_false, Bool.true_eq_false, Bool.false_eq_true, Int.not_lt, Int.not_le, not_and, not_or, ne_eq] at h1)
  · rw [if_pos h1]
    refine r_seq ?_
    refine r_region (id := 3) ?_
    refine o_give (g_assign (evv rfl)) rfl rfl ?_
    refine o_nil ?_
    refine c_code ?_
    first | refine r_ret (rs := [.tmp 10]) rfl rfl _ (Ent.shut (X := fun u : Value => [blk r (rtB room u), sl u (frow seatC 5 34 l)]) u) ?_ | refine c_end (rs := [.tmp 10]) rfl rfl _ (Ent.shut (X := fun u : Value => [blk r (rtB room u), sl u (frow seatC 5 34 l)]) u) ?_
    (refine ⟨?_, ?_⟩ <;> first | rfl | trivial | omega)
  · rw [if_neg h1]
    refine r_skip ?_
    refine c_code ?_
    refine r_seq ?_
    refine r_seq ?_
    refine r_region (id := 4) ?_
    refine o_give (g_move (evv rfl)) rfl rfl ?_
    refine o_give (g_bin (evv rfl) (evv rfl) (by rfl)) rfl rfl ?_
    refine o_nil ?_
    refine c_code ?_
    refine r_cond rfl (fun h2 => ?_) (fun h2 => ?_) <;> (try simp only [decide_eq_true_eq, decide_eq_false_iff_not, Bool.and_eq_true, Bool.or_eq_true, Bool.not_eq_true', Bool.and_eq_false_iff, Bool.or_eq_false_iff, Bool.not_eq_false', Bool.not_eq_true, Bool.not_eq_false, Bool.true_eq_false, Bool.false_eq_true, Int.not_lt, Int.not_le, not_and, not_or, ne_eq] at h2)
    · rw [if_pos h2]
      refine r_seq ?_
      refine r_region (id := 5) ?_
      refine o_give (g_assign (evv rfl)) rfl rfl ?_
      refine o_nil ?_
      refine c_code ?_
      first | refine r_ret (rs := [.tmp 10]) rfl rfl _ (Ent.shut (X := fun u : Value => [blk r (rtB room u), sl u (frow seatC 5 34 l)]) u) ?_ | refine c_end (rs := [.tmp 10]) rfl rfl _ (Ent.shut (X := fun u : Value => [blk r (rtB room u), sl u (frow seatC 5 34 l)]) u) ?_
      (refine ⟨?_, ?_⟩ <;> first | rfl | trivial | omega)
    · rw [if_neg (by simpa using h2)]
      refine r_skip ?_
      refine c_code ?_
      refine r_seq ?_
      refine r_seq ?_
      refine r_region (id := 6) ?_
      refine o_give (g_move (evv rfl)) rfl rfl ?_
      refine o_give (g_lenS TyU.h (evv rfl)) rfl rfl ?_
      refine o_give (g_bin (evv rfl) (evv rfl) (by rfl)) rfl rfl ?_
      refine o_nil ?_
      refine c_code ?_
      refine r_cond rfl (fun h3 => ?_) (fun h3 => ?_) <;> (try simp only [decide_eq_true_eq, decide_eq_false_iff_not, Bool.and_eq_true, Bool.or_eq_true, Bool.not_eq_true', Bool.and_eq_false_iff, Bool.or_eq_false_iff, Bool.not_eq_false', Bool.not_eq_true, Bool.not_eq_false, Bool.true_eq_false, Bool.false_eq_true, Int.not_lt, Int.not_le, not_and, not_or, ne_eq] at h3)
      · rw [if_pos (by omega)]
        refine r_seq ?_
        refine r_region (id := 7) ?_
        refine o_give (g_assign (evv rfl)) rfl rfl ?_
        refine o_nil ?_
        refine c_code ?_
        first | refine r_ret (rs := [.tmp 10]) rfl rfl _ (Ent.shut (X := fun u : Value => [blk r (rtB room u), sl u (frow seatC 5 34 l)]) u) ?_ | refine c_end (rs := [.tmp 10]) rfl rfl _ (Ent.shut (X := fun u : Value => [blk r (rtB room u), sl u (frow seatC 5 34 l)]) u) ?_
        (refine ⟨?_, ?_⟩ <;> first | rfl | trivial | omega)
      · rw [if_neg (by omega)]
        generalize hns : newSeat client number at_ reply = ns
        have hc : ns.client = client := by rw [← hns]; rfl
        refine r_skip ?_
        refine c_code ?_
        refine r_seq ?_
        refine r_region (id := 8) ?_
        refine o_give (g_assign (evv rfl)) rfl rfl ?_
        refine o_nil ?_
        refine c_code ?_
        refine r_seq ?_
        refine r_region (id := 9) ?_
        refine o_give (g_move (evv rfl)) rfl rfl ?_
        refine o_give (g_move (evv rfl)) rfl rfl ?_
        refine o_give (g_move (evv rfl)) rfl rfl ?_
        refine o_give (g_move (evv rfl)) rfl rfl ?_
        refine o_give (g_buildC rfl (by rfl)) rfl rfl ?_
        refine o_alloc rfl rfl (fun _ => ?_)
        refine o_storeW (evv rfl) (evv rfl) (by first | rfl | assumption | (simp [bys, *]; done) | fail) (by first | (intro _ _ _; exact bys_one _) | exact AllOne.h | (intro _ _ _ u hu; simp at hu; rcases hu with rfl | rfl | rfl | rfl | rfl | rfl | rfl | rfl <;> rfl) | fail) (by first | rfl | (simp [bys, *]; done) | (simp only [bys, List.length_map, *]; rfl) | fail) ?_
        refine o_nil ?_
        refine c_code ?_
        refine r_seq ?_
        refine r_region (id := 10) ?_
        refine o_give (g_assign (evv rfl)) rfl rfl ?_
        refine o_nil ?_
        refine c_code ?_
        refine r_seq ?_
        refine r_seq ?_
        refine r_region (id := 11) ?_
        refine o_give (g_assign (evv rfl)) rfl rfl ?_
        refine o_nil ?_
        refine c_code ?_
        refine r_block ?_
        rename_i p
        refine r_loopE (σ := Nat × Value × Bool × List Seat) (fun ⟨k, w, put, acc⟩ => k ≤ l.length ∧ acc ++ insGo ns put (l.drop k) = insGo ns false l ∧ acc.length ≤ 2 * k) (fun ⟨k, w, put, acc⟩ => l.length - k) (fun ⟨k, w, put, acc⟩ => [(13, .v (w)), (15, .v (.bool put)), (16, .v (.int .i64 k))]) [0, 1, 14] (fun ⟨k, w, put, acc⟩ => sl w (frow seatC 5 34 acc) :: blk p ⟨seatC ns, 34⟩ :: blk r (rtB room u) :: sl u (frow seatC 5 34 l) :: F) (0, .slice none 0 0, false, []) (by dsimp only [pickE, pick1, lk2, Nat.reduceBEq, Nat.reduceAdd, Nat.zero_add, cond_true, cond_false] <;> exact rfl) ?_ (by repeat (first | exact trivial | refine ⟨rfl, ?_⟩ | refine envsub_v rfl (by first | rfl | (refine int_eq ?_; first | omega | (simp; omega) | (simp; done)) | (refine bool_eq ?_; first | (simp [*]; done) | (simp; done)) | (refine str_eq ?_; simp; done) | (refine ptr_eq ?_; omega) | fail) ?_)) ?_ ?_
        · exact ⟨Nat.zero_le _, rfl, Nat.zero_le _⟩
        · rw [← hns]; exact Ent.nilsl _ _
        rintro ⟨k, w, put, acc⟩ ⟨hk, he, ha⟩; dsimp only [List.cons_append, List.nil_append]
        refine r_seq ?_
        refine r_seq ?_
        refine r_region (id := 12) ?_
        refine o_give (g_move (evv rfl)) rfl rfl ?_
        refine o_give (g_move (evv rfl)) rfl rfl ?_
        refine o_give (g_nil (evv rfl)) rfl rfl ?_
        refine o_give (g_fld (evv rfl)) rfl rfl ?_
        refine o_give (g_load (evv rfl) (by rfl) (by rfl)) rfl rfl ?_
        refine o_give (g_lenF (evv rfl)) rfl rfl ?_
        refine o_give (g_bin (evv rfl) (evv rfl) (by rfl)) rfl rfl ?_
        refine o_nil ?_
        refine c_code ?_
        refine r_cond rfl (fun hk1 => ?_) (fun hk1 => ?_) <;> (try simp only [decide_eq_true_eq, decide_eq_false_iff_not, Bool.and_eq_true, Bool.or_eq_true, Bool.not_eq_true', Bool.and_eq_false_iff, Bool.or_eq_false_iff, Bool.not_eq_false', Bool.not_eq_true, Bool.not_eq_false, Bool.true_eq_false, Bool.false_eq_true, Int.not_lt, Int.not_le, not_and, not_or, ne_eq] at hk1)
        · have hk2 : k < l.length := by omega
          rw [drop_cons hk2] at he
          generalize hx : l.getD k default = x at *
          refine r_skip ?_
          refine c_code ?_
          refine r_seq ?_
          refine r_block ?_
          refine r_seq ?_
          refine r_seq ?_
          refine r_region (id := 14) ?_
          refine o_give (g_move (evv rfl)) rfl rfl ?_
          refine o_give (g_not (evv rfl)) rfl rfl ?_
          refine o_give (g_move (evv rfl)) rfl rfl ?_
          refine o_lazy rfl (fun hg => g_move (by first | exact evv rfl | exact evg rfl (by rw [hp]; rfl) | exact evg rfl hp | exact evg rfl hg | exact evg rfl (by first | (simp_all; done) | (simp [*]; done) | fail) | fail)) rfl rfl ?_
          refine o_lazy rfl (fun hg => g_nil (by first | exact evv rfl | exact evg rfl (by rw [hp]; rfl) | exact evg rfl hp | exact evg rfl hg | exact evg rfl (by first | (simp_all; done) | (simp [*]; done) | fail) | fail)) rfl rfl ?_
          refine o_lazy rfl (fun hg => g_fld (evg rfl hg)) rfl rfl ?_
          refine o_lazy rfl (fun hg => g_load (evg rfl hg) (by rfl) (by rfl)) rfl rfl ?_
          refine o_lazy rfl (fun hg => g_move (by first | exact evv rfl | exact evg rfl (by rw [hp]; rfl) | exact evg rfl hp | exact evg rfl hg | exact evg rfl (by first | (simp_all; done) | (simp [*]; done) | fail) | fail)) rfl rfl ?_
          refine o_lazy rfl (fun hg => g_idxFN (evg rfl hg) (evg rfl hg) (by rfl) (by rfl) (by first | omega | (have := of_decide_eq_true hg; omega) | (simp at hg; omega) | (simp only [List.length_set, List.length_append, List.length_cons, List.length_nil, List.length_map, List.length_take, List.length_drop, List.length_replicate]; omega))) rfl rfl ?_
          refine o_lazy rfl (fun hg => g_fldE (evg rfl hg) (by first | (simp only [frow, mrow]; omega) | (simp only [frow, mrow, List.length_set, List.length_append, List.length_cons]; omega) | fail) (by first | exact Nat.succ_pos _ | decide)) rfl rfl ?_
          refine o_lazy rfl (fun hg => g_loadFld (evg rfl hg) (by rfl) (by intro; rfl) (by first | omega | (have := of_decide_eq_true hg; omega) | (simp at hg; omega) | (simp only [List.length_set, List.length_append, List.length_cons, List.length_nil, List.length_map, List.length_take, List.length_drop, List.length_replicate]; omega)) (by rfl)) rfl rfl ?_
          refine o_lazy rfl (fun hg => g_move (by first | exact evv rfl | exact evg rfl (by rw [hp]; rfl) | exact evg rfl hp | exact evg rfl hg | exact evg rfl (by first | (simp_all; done) | (simp [*]; done) | fail) | fail)) rfl rfl ?_
          refine o_lazy rfl (fun hg => g_bin (by first | exact evv rfl | exact evg rfl (by rw [hp]; rfl) | exact evg rfl hp | exact evg rfl hg | exact evg rfl (by first | (simp_all; done) | (simp [*]; done) | fail) | fail) (by first | exact evv rfl | exact evg rfl (by rw [hp]; rfl) | exact evg rfl hp | exact evg rfl hg | exact evg rfl (by first | (simp_all; done) | (simp [*]; done) | fail) | fail) (by rfl)) rfl rfl ?_
          refine o_give (g_pick_and (evv rfl) (evv rfl) (fun hp => (by first | exact evv rfl | exact evg rfl (by rw [hp]; rfl) | exact evg rfl hp | exact evg rfl hg | exact evg rfl (by first | (simp_all; done) | (simp [*]; done) | fail) | fail))) rfl rfl ?_
          refine o_nil ?_
          refine c_code ?_
          rw [hx]
          refine r_cond rfl (fun h4 => ?_) (fun h4 => ?_) <;> (try simp only [decide_eq_true_eq, decide_eq_false_iff_not, Bool.and_eq_true, Bool.or_eq_true, Bool.not_eq_true', Bool.and_eq_false_iff, Bool.or_eq_false_iff, Bool.not_eq_false', Bool.not_eq_true, Bool.not_eq_false, Bool.true_eq_false, Bool.false_eq_true, Int.not_lt, Int.not_le, not_and, not_or, ne_eq] at h4)
          · have h5 : put = false ∧ ns.client ≤ x.client := by
              cases put <;> simp_all
            obtain ⟨rfl, h5⟩ := h5
            have he2 : insGo ns false (x :: l.drop (k + 1)) = [ns] ++ ((if x.client = ns.client then [] else [x]) ++ insGo ns true (l.drop (k + 1))) := by
              simp only [insGo, h5, and_self, if_true, decide_true, Bool.or_true]
            rw [he2] at he
            refine r_seq ?_
            refine r_region (id := 15) ?_
            refine o_give (g_move (evv rfl)) rfl rfl ?_
            refine o_give (g_loadF (evv rfl) (by rfl) (by rfl)) rfl rfl ?_
            refine o_litS rfl (by rfl) inferInstance (by rfl) rfl (fun _ => ?_)
            refine o_appF (evv rfl) (evv rfl) (by rfl) (by rfl) (by rfl) (by (try simp only [bsOf, List.length_append, List.length_cons, List.length_nil]); omega) rfl (fun _ => ?_)
            refine o_give (g_assign (evv rfl)) rfl rfl ?_
            refine o_nil ?_
            refine c_code ?_
            refine r_region (id := 16) ?_
            refine o_give (g_assign (evv rfl)) rfl rfl ?_
            refine o_nil ?_
            refine c_code ?_
            refine r_seq ?_
            refine r_region (id := 17) ?_
            refine o_give (g_move (evv rfl)) rfl rfl ?_
            refine o_give (g_nil (evv rfl)) rfl rfl ?_
            refine o_give (g_fld (evv rfl)) rfl rfl ?_
            refine o_give (g_load (evv rfl) (by rfl) (by rfl)) rfl rfl ?_
            refine o_give (g_move (evv rfl)) rfl rfl ?_
            refine o_give (g_idxFN (evv rfl) (evv rfl) (by rfl) (by rfl) (by first | omega | (have := of_decide_eq_true hg; omega) | (simp at hg; omega) | (simp only [List.length_set, List.length_append, List.length_cons, List.length_nil, List.length_map, List.length_take, List.length_drop, List.length_replicate]; omega))) rfl rfl ?_
            refine o_give (g_fldE (evv rfl) (by first | (simp only [frow, mrow]; omega) | (simp only [frow, mrow, List.length_set, List.length_append, List.length_cons]; omega) | fail) (by first | exact Nat.succ_pos _ | decide)) rfl rfl ?_
            refine o_give (g_loadFld (evv rfl) (by rfl) (by intro; rfl) (by first | omega | (have := of_decide_eq_true hg; omega) | (simp at hg; omega) | (simp only [List.length_set, List.length_append, List.length_cons, List.length_nil, List.length_map, List.length_take, List.length_drop, List.length_replicate]; omega)) (by rfl)) rfl rfl ?_
            refine o_give (g_move (evv rfl)) rfl rfl ?_
            refine o_give (g_bin (evv rfl) (evv rfl) (by rfl)) rfl rfl ?_
            refine o_nil ?_
            refine c_code ?_
            rw [hx]
            refine r_cond rfl (fun h6 => ?_) (fun h6 => ?_) <;> (try simp only [decide_eq_true_eq, decide_eq_false_iff_not, Bool.and_eq_true, Bool.or_eq_true, Bool.not_eq_true', Bool.and_eq_false_iff, Bool.or_eq_false_iff, Bool.not_eq_false', Bool.not_eq_true, Bool.not_eq_false, Bool.true_eq_false, Bool.false_eq_true, Int.not_lt, Int.not_le, not_and, not_or, ne_eq] at h6)
            · rw [if_neg (by rw [hc]; exact h6)] at he
              refine r_region (id := 18) ?_
              refine o_give (g_move (evv rfl)) rfl rfl ?_
              refine o_give (g_move (evv rfl)) rfl rfl ?_
              refine o_give (g_nil (evv rfl)) rfl rfl ?_
              refine o_give (g_fld (evv rfl)) rfl rfl ?_
              refine o_give (g_load (evv rfl) (by rfl) (by rfl)) rfl rfl ?_
              refine o_give (g_move (evv rfl)) rfl rfl ?_
              refine o_give (g_idxFN (evv rfl) (evv rfl) (by rfl) (by rfl) (by first | omega | (have := of_decide_eq_true hg; omega) | (simp at hg; omega) | (simp only [List.length_set, List.length_append, List.length_cons, List.length_nil, List.length_map, List.length_take, List.length_drop, List.length_replicate]; omega))) rfl rfl ?_
              refine o_give (g_loadFr (evv rfl) (by rfl) (by intro; rfl) (by rfl) (by rfl) (by first | omega | (have := of_decide_eq_true hg; omega) | (simp at hg; omega) | (simp only [List.length_set, List.length_append, List.length_cons, List.length_nil, List.length_map, List.length_take, List.length_drop, List.length_replicate]; omega))) rfl rfl ?_
              refine o_litS rfl (by rfl) inferInstance (by rfl) rfl (fun _ => ?_)
              refine o_appF (evv rfl) (evv rfl) (by rfl) (by rfl) (by rfl) (by (try simp only [bsOf, List.length_append, List.length_cons, List.length_nil]); omega) rfl (fun _ => ?_)
              refine o_give (g_assign (evv rfl)) rfl rfl ?_
              refine o_nil ?_
              refine c_blk ?_
              refine c_code ?_
              refine r_region (id := 13) ?_
              refine o_give (g_move (evv rfl)) rfl rfl ?_
              refine o_giveN (g_bin (evv rfl) (evv rfl) (by rfl)) (by simp only [inR]; omega) rfl ?_
              refine o_give (g_assign (evv rfl)) rfl rfl ?_
              refine o_nil ?_
              rename_i w'
              refine c_loop (k + 1, w', true, (acc ++ [ns]) ++ [x]) ?_ ?_ (by repeat (first | exact trivial | refine ⟨rfl, ?_⟩ | refine envsub_v rfl (by first | rfl | (refine int_eq ?_; first | omega | (simp; omega) | (simp; done)) | (refine bool_eq ?_; first | (simp [*]; done) | (simp; done)) | (refine str_eq ?_; simp; done) | (refine ptr_eq ?_; omega) | fail) ?_)) ?_ <;> (try dsimp only)
              · exact ⟨by omega, by simpa using he, by simp; omega⟩
              · show l.length - (k + 1) < l.length - k; omega
              · first | exact Lay.ent | (rw [hx]; exact Lay.ent)
            · rw [if_pos (by rw [hc]; exact h6)] at he
              refine r_skip ?_
              refine c_blk ?_
              refine c_code ?_
              refine r_region (id := 13) ?_
              refine o_give (g_move (evv rfl)) rfl rfl ?_
              refine o_giveN (g_bin (evv rfl) (evv rfl) (by rfl)) (by simp only [inR]; omega) rfl ?_
              refine o_give (g_assign (evv rfl)) rfl rfl ?_
              refine o_nil ?_
              rename_i w'
              refine c_loop (k + 1, w', true, acc ++ [ns]) ?_ ?_ (by repeat (first | exact trivial | refine ⟨rfl, ?_⟩ | refine envsub_v rfl (by first | rfl | (refine int_eq ?_; first | omega | (simp; omega) | (simp; done)) | (refine bool_eq ?_; first | (simp [*]; done) | (simp; done)) | (refine str_eq ?_; simp; done) | (refine ptr_eq ?_; omega) | fail) ?_)) ?_ <;> (try dsimp only)
              · exact ⟨by omega, by simpa using he, by simp; omega⟩
              · show l.length - (k + 1) < l.length - k; omega
              · first | exact Lay.ent | (rw [hx]; exact Lay.ent)
          · have h5 : ¬ (put = false ∧ ns.client ≤ x.client) := by
              rw [hc]; rintro ⟨rfl, h5⟩; simp at h4; omega
            have h7 : (put || decide (ns.client ≤ x.client)) = put := by
              cases put
              · simp at h5 ⊢; omega
              · rfl
            have he2 : insGo ns put (x :: l.drop (k + 1)) = ((if x.client = ns.client then [] else [x]) ++ insGo ns put (l.drop (k + 1))) := by
              simp only [insGo, if_neg h5, h7, List.nil_append]
            rw [he2] at he
            refine r_skip ?_
            refine c_code ?_
            refine r_seq ?_
            refine r_region (id := 17) ?_
            refine o_give (g_move (evv rfl)) rfl rfl ?_
            refine o_give (g_nil (evv rfl)) rfl rfl ?_
            refine o_give (g_fld (evv rfl)) rfl rfl ?_
            refine o_give (g_load (evv rfl) (by rfl) (by rfl)) rfl rfl ?_
            refine o_give (g_move (evv rfl)) rfl rfl ?_
            refine o_give (g_idxFN (evv rfl) (evv rfl) (by rfl) (by rfl) (by first | omega | (have := of_decide_eq_true hg; omega) | (simp at hg; omega) | (simp only [List.length_set, List.length_append, List.length_cons, List.length_nil, List.length_map, List.length_take, List.length_drop, List.length_replicate]; omega))) rfl rfl ?_
            refine o_give (g_fldE (evv rfl) (by first | (simp only [frow, mrow]; omega) | (simp only [frow, mrow, List.length_set, List.length_append, List.length_cons]; omega) | fail) (by first | exact Nat.succ_pos _ | decide)) rfl rfl ?_
            refine o_give (g_loadFld (evv rfl) (by rfl) (by intro; rfl) (by first | omega | (have := of_decide_eq_true hg; omega) | (simp at hg; omega) | (simp only [List.length_set, List.length_append, List.length_cons, List.length_nil, List.length_map, List.length_take, List.length_drop, List.length_replicate]; omega)) (by rfl)) rfl rfl ?_
            refine o_give (g_move (evv rfl)) rfl rfl ?_
            refine o_give (g_bin (evv rfl) (evv rfl) (by rfl)) rfl rfl ?_
            refine o_nil ?_
            refine c_code ?_
            rw [hx]
            refine r_cond rfl (fun h6 => ?_) (fun h6 => ?_) <;> (try simp only [decide_eq_true_eq, decide_eq_false_iff_not, Bool.and_eq_true, Bool.or_eq_true, Bool.not_eq_true', Bool.and_eq_false_iff, Bool.or_eq_false_iff, Bool.not_eq_false', Bool.not_eq_true, Bool.not_eq_false, Bool.true_eq_false, Bool.false_eq_true, Int.not_lt, Int.not_le, not_and, not_or, ne_eq] at h6)
            · rw [if_neg (by rw [hc]; exact h6)] at he
              refine r_region (id := 18) ?_
              refine o_give (g_move (evv rfl)) rfl rfl ?_
              refine o_give (g_move (evv rfl)) rfl rfl ?_
              refine o_give (g_nil (evv rfl)) rfl rfl ?_
              refine o_give (g_fld (evv rfl)) rfl rfl ?_
              refine o_give (g_load (evv rfl) (by rfl) (by rfl)) rfl rfl ?_
              refine o_give (g_move (evv rfl)) rfl rfl ?_
              refine o_give (g_idxFN (evv rfl) (evv rfl) (by rfl) (by rfl) (by first | omega | (have := of_decide_eq_true hg; omega) | (simp at hg; omega) | (simp only [List.length_set, List.length_append, List.length_cons, List.length_nil, List.length_map, List.length_take, List.length_drop, List.length_replicate]; omega))) rfl rfl ?_
              refine o_give (g_loadFr (evv rfl) (by rfl) (by intro; rfl) (by rfl) (by rfl) (by first | omega | (have := of_decide_eq_true hg; omega) | (simp at hg; omega) | (simp only [List.length_set, List.length_append, List.length_cons, List.length_nil, List.length_map, List.length_take, List.length_drop, List.length_replicate]; omega))) rfl rfl ?_
              refine o_litS rfl (by rfl) inferInstance (by rfl) rfl (fun _ => ?_)
              refine o_appF (evv rfl) (evv rfl) (by rfl) (by rfl) (by rfl) (by (try simp only [bsOf, List.length_append, List.length_cons, List.length_nil]); omega) rfl (fun _ => ?_)
              refine o_give (g_assign (evv rfl)) rfl rfl ?_
              refine o_nil ?_
              refine c_blk ?_
              refine c_code ?_
              refine r_region (id := 13) ?_
              refine o_give (g_move (evv rfl)) rfl rfl ?_
              refine o_giveN (g_bin (evv rfl) (evv rfl) (by rfl)) (by simp only [inR]; omega) rfl ?_
              refine o_give (g_assign (evv rfl)) rfl rfl ?_
              refine o_nil ?_
              rename_i w'
              refine c_loop (k + 1, w', put, acc ++ [x]) ?_ ?_ (by repeat (first | exact trivial | refine ⟨rfl, ?_⟩ | refine envsub_v rfl (by first | rfl | (refine int_eq ?_; first | omega | (simp; omega) | (simp; done)) | (refine bool_eq ?_; first | (simp [*]; done) | (simp; done)) | (refine str_eq ?_; simp; done) | (refine ptr_eq ?_; omega) | fail) ?_)) ?_ <;> (try dsimp only)
              · exact ⟨by omega, by simpa using he, by simp; omega⟩
              · show l.length - (k + 1) < l.length - k; omega
              · first | exact Lay.ent | (rw [hx]; exact Lay.ent)
            · rw [if_pos (by rw [hc]; exact h6)] at he
              refine r_skip ?_
              refine c_blk ?_
              refine c_code ?_
              refine r_region (id := 13) ?_
              refine o_give (g_move (evv rfl)) rfl rfl ?_
              refine o_giveN (g_bin (evv rfl) (evv rfl) (by rfl)) (by simp only [inR]; omega) rfl ?_
              refine o_give (g_assign (evv rfl)) rfl rfl ?_
              refine o_nil ?_
              refine c_loop (k + 1, w, put, acc) ?_ ?_ (by repeat (first | exact trivial | refine ⟨rfl, ?_⟩ | refine envsub_v rfl (by first | rfl | (refine int_eq ?_; first | omega | (simp; omega) | (simp; done)) | (refine bool_eq ?_; first | (simp [*]; done) | (simp; done)) | (refine str_eq ?_; simp; done) | (refine ptr_eq ?_; omega) | fail) ?_)) ?_ <;> (try dsimp only)
              · exact ⟨by omega, by simpa using he, by omega⟩
              · show l.length - (k + 1) < l.length - k; omega
              · first | exact Lay.ent | (rw [hx]; exact Lay.ent)
        · have hk2 : l.drop k = [] := List.drop_of_length_le (by omega)
          rw [hk2] at he
          have ha2 : acc.length ≤ 200 := by omega
          have hns0 : ns.kept = true := by rw [← hns]; rfl
          have hns1 : ns.reply.length ≤ 8192 := by rw [← hns]; simp only [newSeat]; omega
          generalize hl1 : insGo ns false l = l1 at *
          have g1 : l1.length ≤ 1000 := by rw [← hl1]; have := ins_len (s := ns) (put := false) (l := l); omega
          have gm : ∀ s ∈ l1, s = ns ∨ s ∈ l := by rw [← hl1]; exact fun s hs => ins_mem hs
          have g2 : wfS l1 := fun s hs hk' => by
            rcases gm s hs with rfl | h
            · rw [hns0] at hk'; cases hk'
            · exact hw s h hk'
          have g3 : repB l1 ≤ 1100000 := by rw [← hl1]; have := ins_rep (s := ns) (put := false) (l := l); simp only [Bool.false_eq_true, if_false] at this; omega
          refine r_exit rfl ?_
          refine c_code ?_
          refine r_seq ?_
          refine r_seq ?_
          refine r_region (id := 19) ?_
          refine o_give (g_move (evv rfl)) rfl rfl ?_
          refine o_give (g_not (evv rfl)) rfl rfl ?_
          refine o_nil ?_
          refine c_code ?_
          repeat (first | refine r_seq ?_ | refine c_code ?_ | refine c_blk ?_ | refine r_block ?_ | refine r_skip ?_)
          refine r_cutE (σ := Value) (fun w2 => [(13, .v (w2))]) [0] (fun w2 => sl w2 (frow seatC 5 34 l1) :: blk r (rtB room u) :: F) (by dsimp only [pickE, pick1, lk2, Nat.reduceBEq, Nat.reduceAdd, Nat.zero_add, cond_true, cond_false] <;> exact rfl) ?_ ?_
          · cases put with
            | true =>
              have he3 : acc = l1 := by simpa [insGo] using he
              refine r_cond_false rfl ?_
              refine r_skip ?_
              exact c_cut w (by repeat (first | exact trivial | refine ⟨rfl, ?_⟩ | refine envsub_v rfl (by first | rfl | (refine int_eq ?_; first | omega | (simp; omega) | (simp; done)) | (refine bool_eq ?_; first | (simp [*]; done) | (simp; done)) | (refine str_eq ?_; simp; done) | (refine ptr_eq ?_; omega) | fail) ?_)) (by rw [he3]; exact Lay.ent)
            | false =>
              have he3 : acc ++ [ns] = l1 := by simpa [insGo] using he
              refine r_cond_true rfl ?_
              refine r_region (id := 20) ?_
              refine o_give (g_move (evv rfl)) rfl rfl ?_
              refine o_give (g_loadF (evv rfl) (by rfl) (by rfl)) rfl rfl ?_
              refine o_litS rfl (by rfl) inferInstance (by rfl) rfl (fun _ => ?_)
              refine o_appF (evv rfl) (evv rfl) (by rfl) (by rfl) (by rfl) (by (try simp only [bsOf, List.length_append, List.length_cons, List.length_nil]); omega) rfl (fun _ => ?_)
              refine o_give (g_assign (evv rfl)) rfl rfl ?_
              refine o_nil ?_
              rename_i w2
              exact c_cut w2 (by repeat (first | exact trivial | refine ⟨rfl, ?_⟩ | refine envsub_v rfl (by first | rfl | (refine int_eq ?_; first | omega | (simp; omega) | (simp; done)) | (refine bool_eq ?_; first | (simp [*]; done) | (simp; done)) | (refine str_eq ?_; simp; done) | (refine ptr_eq ?_; omega) | fail) ?_)) (by rw [← he3]; exact Lay.ent)
          intro w2
          dsimp only [List.cons_append, List.nil_append]
          refine c_code ?_
          refine r_seq ?_
          refine r_region (id := 21) ?_
          refine o_give (g_move (evv rfl)) rfl rfl ?_
          refine o_give (g_move (evv rfl)) rfl rfl ?_
          refine o_give (g_nil (evv rfl)) rfl rfl ?_
          refine o_give (g_fld (evv rfl)) rfl rfl ?_
          refine o_store1 (evv rfl) (evv rfl) (by rfl) (by rfl) (by rfl) ?_
          refine o_nil ?_
          refine c_code ?_
          refine r_seq ?_
          refine r_block ?_
          refine r_loopE (σ := List Seat) (fun l' => l'.length = l1.length ∧ wfS l' ∧ repB l' ≤ 1100000 ∧ evicted room l' = evicted room l1) (fun l' => kc l') (fun l' => []) [0] (fun l' => sl w2 (frow seatC 5 34 l') :: blk r (rtB room w2) :: F) l1 (by dsimp only [pickE, pick1, lk2, Nat.reduceBEq, Nat.reduceAdd, Nat.zero_add, cond_true, cond_false] <;> exact rfl) ?_ (by repeat (first | exact trivial | refine ⟨rfl, ?_⟩ | refine envsub_v rfl (by first | rfl | (refine int_eq ?_; first | omega | (simp; omega) | (simp; done)) | (refine bool_eq ?_; first | (simp [*]; done) | (simp; done)) | (refine str_eq ?_; simp; done) | (refine ptr_eq ?_; omega) | fail) ?_)) ?_ ?_
          · exact ⟨rfl, g2, g3, rfl⟩
          · exact Lay.ent
          rintro l' ⟨k1, k2, k3, k4⟩; dsimp only [List.cons_append, List.nil_append]
          have k5 : repB l' ≤ 4611686018427387904 := by omega
          have k7 : l'.length ≤ 1000 := by omega
          repeat (first | refine r_seq ?_ | refine c_code ?_ | refine c_blk ?_ | refine r_block ?_ | refine r_skip ?_)
          refine r_held (id := 22) [blk r (rtB room w2)] Mixed.h ?_
          refine h_give (i := 0) (by kernel_rfl) rfl (g_move (evv rfl)) rfl rfl ?_
          refine h_give (i := 2) (by kernel_rfl) rfl (g_move (evv rfl)) rfl rfl ?_
          refine h_give (i := 3) (by kernel_rfl) rfl (g_nil (evv rfl)) rfl rfl ?_
          refine h_give (i := 4) (by kernel_rfl) rfl (g_fld (evv rfl)) rfl rfl ?_
          refine h_give (i := 5) (by kernel_rfl) rfl (g_load (evv rfl) (by rfl) (by rfl)) rfl rfl ?_
          refine h_one (i := 1) (by kernel_rfl) rfl (Lay.ent) ?_
          (refine o_call rfl _ (Ent.refl _) (Fn.atPick (rBytes_g _ _ (by first | assumption | omega) (by first | assumption | omega))) rfl ?_; rintro _ _ ⟨rfl, rfl⟩)
          refine o_nil ?_
          refine h_give (i := 6) (by kernel_rfl) rfl (g_bin (evv rfl) (evv rfl) (by rfl)) rfl rfl ?_
          refine h_done (by kernel_rfl) (Lay.ent) ?_
          refine c_code ?_
          refine r_cond rfl (fun h7 => ?_) (fun h7 => ?_) <;> (try simp only [decide_eq_true_eq, decide_eq_false_iff_not, Bool.and_eq_true, Bool.or_eq_true, Bool.not_eq_true', Bool.and_eq_false_iff, Bool.or_eq_false_iff, Bool.not_eq_false', Bool.not_eq_true, Bool.not_eq_false, Bool.true_eq_false, Bool.false_eq_true, Int.not_lt, Int.not_le, not_and, not_or, ne_eq] at h7)
          · have k6 := best_some_of k2 (by omega)
            refine r_skip ?_
            refine c_code ?_
            refine r_block ?_
            refine r_seq ?_
            refine r_region (id := 23) ?_
            refine o_give (g_assign (evv rfl)) rfl rfl ?_
            refine o_nil ?_
            refine c_code ?_
            refine r_seq ?_
            refine r_seq ?_
            refine r_region (id := 24) ?_
            refine o_give (g_assign (evv rfl)) rfl rfl ?_
            refine o_nil ?_
            refine c_code ?_
            refine r_block ?_
            refine r_loopE (σ := Nat) (fun m => m ≤ l'.length) (fun m => l'.length - m) (fun m => [(17, .v (.int .i64 (bestV (bestTo l' m)))), (18, .v (.int .i64 m))]) [0] (fun m => sl w2 (frow seatC 5 34 l') :: blk r (rtB room w2) :: F) 0 (by dsimp only [pickE, pick1, lk2, Nat.reduceBEq, Nat.reduceAdd, Nat.zero_add, cond_true, cond_false] <;> exact rfl) ?_ (by repeat (first | exact trivial | refine ⟨rfl, ?_⟩ | refine envsub_v rfl (by first | rfl | (refine int_eq ?_; first | omega | (simp; omega) | (simp; done)) | (refine bool_eq ?_; first | (simp [*]; done) | (simp; done)) | (refine str_eq ?_; simp; done) | (refine ptr_eq ?_; omega) | fail) ?_)) ?_ ?_
            · exact Nat.zero_le _
            · exact Lay.ent
            rintro m hm; (try dsimp only at hm); dsimp only [List.cons_append, List.nil_append]
            refine r_seq ?_
            refine r_seq ?_
            refine r_region (id := 25) ?_
            refine o_give (g_move (evv rfl)) rfl rfl ?_
            refine o_give (g_move (evv rfl)) rfl rfl ?_
            refine o_give (g_nil (evv rfl)) rfl rfl ?_
            refine o_give (g_fld (evv rfl)) rfl rfl ?_
            refine o_give (g_load (evv rfl) (by rfl) (by rfl)) rfl rfl ?_
            refine o_give (g_lenF (evv rfl)) rfl rfl ?_
            refine o_give (g_bin (evv rfl) (evv rfl) (by rfl)) rfl rfl ?_
            refine o_nil ?_
            refine c_code ?_
            refine r_cond rfl (fun hm1 => ?_) (fun hm1 => ?_) <;> (try simp only [decide_eq_true_eq, decide_eq_false_iff_not, Bool.and_eq_true, Bool.or_eq_true, Bool.not_eq_true', Bool.and_eq_false_iff, Bool.or_eq_false_iff, Bool.not_eq_false', Bool.not_eq_true, Bool.not_eq_false, Bool.true_eq_false, Bool.false_eq_true, Int.not_lt, Int.not_le, not_and, not_or, ne_eq] at hm1)
            · have hm2 : m < l'.length := by omega
              generalize hs : l'.getD m default = s
              cases hj : bestTo l' m with
              | none =>
                have hb1 : bestTo l' (m + 1) = if s.kept then some m else none := by simp only [bestTo, hj, hs]
                simp only [bestV]
                refine r_skip ?_
                refine c_code ?_
                refine r_seq ?_
                refine r_block ?_
                refine r_seq ?_
                refine r_quiet (id := 27) Mixed.h (by kernel_rfl) ?_
                refine q_give (g_move (evv rfl)) rfl rfl ?_
                refine q_give (g_nil (evv rfl)) rfl rfl ?_
                refine q_give (g_fld (evv rfl)) rfl rfl ?_
                refine q_give (g_load (evv rfl) (by rfl) (by rfl)) rfl rfl ?_
                refine q_give (g_move (evv rfl)) rfl rfl ?_
                refine q_give (g_idxFN (evv rfl) (evv rfl) (by rfl) (by rfl) (by first | omega | (have := of_decide_eq_true hg; omega) | (simp at hg; omega) | (simp only [List.length_set, List.length_append, List.length_cons, List.length_nil, List.length_map, List.length_take, List.length_drop, List.length_replicate]; omega))) rfl rfl ?_
                refine q_give (g_fldE (evv rfl) (by first | (simp only [frow, mrow]; omega) | (simp only [frow, mrow, List.length_set, List.length_append, List.length_cons]; omega) | fail) (by first | exact Nat.succ_pos _ | decide)) rfl rfl ?_
                refine q_give (g_loadFld (evv rfl) (by rfl) (by intro; rfl) (by first | omega | (have := of_decide_eq_true hg; omega) | (simp at hg; omega) | (simp only [List.length_set, List.length_append, List.length_cons, List.length_nil, List.length_map, List.length_take, List.length_drop, List.length_replicate]; omega)) (by rfl)) rfl rfl ?_
                refine q_give (g_move (evv rfl)) rfl rfl ?_
                refine q_lazy rfl (fun hg => g_move (by first | exact evv rfl | exact evg rfl (by rw [hp]; rfl) | exact evg rfl hp | exact evg rfl hg | exact evg rfl (by first | (simp_all; done) | (simp [*]; done) | fail) | fail)) rfl rfl ?_
                refine q_lazy rfl (fun hg => g_bin (by first | exact evv rfl | exact evg rfl (by rw [hp]; rfl) | exact evg rfl hp | exact evg rfl hg | exact evg rfl (by first | (simp_all; done) | (simp [*]; done) | fail) | fail) (by first | exact evv rfl | exact evg rfl (by rw [hp]; rfl) | exact evg rfl hp | exact evg rfl hg | exact evg rfl (by first | (simp_all; done) | (simp [*]; done) | fail) | fail) (by rfl)) rfl rfl ?_
                refine q_lazy rfl (fun hg => g_move (by first | exact evv rfl | exact evg rfl (by rw [hp]; rfl) | exact evg rfl hp | exact evg rfl hg | exact evg rfl (by first | (simp_all; done) | (simp [*]; done) | fail) | fail)) rfl rfl ?_
                refine q_lazy rfl (fun hg => g_move (by first | exact evv rfl | exact evg rfl (by rw [hp]; rfl) | exact evg rfl hp | exact evg rfl hg | exact evg rfl (by first | (simp_all; done) | (simp [*]; done) | fail) | fail)) rfl rfl ?_
                refine q_lazy rfl (fun hg => g_nil (by first | exact evv rfl | exact evg rfl (by rw [hp]; rfl) | exact evg rfl hp | exact evg rfl hg | exact evg rfl (by first | (simp_all; done) | (simp [*]; done) | fail) | fail)) rfl rfl ?_
                refine q_lazy rfl (fun hg => g_fld (evg rfl hg)) rfl rfl ?_
                refine q_lazy rfl (fun hg => g_load (evg rfl hg) (by rfl) (by rfl)) rfl rfl ?_
                refine q_lazy rfl (fun hg => g_move (by first | exact evv rfl | exact evg rfl (by rw [hp]; rfl) | exact evg rfl hp | exact evg rfl hg | exact evg rfl (by first | (simp_all; done) | (simp [*]; done) | fail) | fail)) rfl rfl ?_
                refine q_lazy rfl (fun hg => g_idxFN (evg rfl hg) (evg rfl hg) (by rfl) (by rfl) (by first | omega | (have := of_decide_eq_true hg; omega) | (simp at hg; omega) | (simp only [List.length_set, List.length_append, List.length_cons, List.length_nil, List.length_map, List.length_take, List.length_drop, List.length_replicate]; omega))) rfl rfl ?_
                refine q_lazy rfl (fun hg => g_fldE (evg rfl hg) (by first | (simp only [frow, mrow]; omega) | (simp only [frow, mrow, List.length_set, List.length_append, List.length_cons]; omega) | fail) (by first | exact Nat.succ_pos _ | decide)) rfl rfl ?_
                refine q_lazy rfl (fun hg => g_loadFld (evg rfl hg) (by rfl) (by intro; rfl) (by first | omega | (have := of_decide_eq_true hg; omega) | (simp at hg; omega) | (simp only [List.length_set, List.length_append, List.length_cons, List.length_nil, List.length_map, List.length_take, List.length_drop, List.length_replicate]; omega)) (by rfl)) rfl rfl ?_
                refine q_lazy rfl (fun hg => g_move (by first | exact evv rfl | exact evg rfl (by rw [hp]; rfl) | exact evg rfl hp | exact evg rfl hg | exact evg rfl (by first | (simp_all; done) | (simp [*]; done) | fail) | fail)) rfl rfl ?_
                refine q_lazy rfl (fun hg => g_nil (by first | exact evv rfl | exact evg rfl (by rw [hp]; rfl) | exact evg rfl hp | exact evg rfl hg | exact evg rfl (by first | (simp_all; done) | (simp [*]; done) | fail) | fail)) rfl rfl ?_
                refine q_lazy rfl (fun hg => g_fld (evg rfl hg)) rfl rfl ?_
                refine q_lazy rfl (fun hg => g_load (evg rfl hg) (by rfl) (by rfl)) rfl rfl ?_
                refine q_lazy rfl (fun hg => g_move (by first | exact evv rfl | exact evg rfl (by rw [hp]; rfl) | exact evg rfl hp | exact evg rfl hg | exact evg rfl (by first | (simp_all; done) | (simp [*]; done) | fail) | fail)) rfl rfl ?_
                refine q_lazy (v0 := undef) rfl (fun hg => absurd hg (by first | (simp; done) | fail)) rfl rfl ?_
                refine q_lazy (v0 := undef) rfl (fun hg => absurd hg (by first | (simp; done) | fail)) rfl rfl ?_
                refine q_lazy (v0 := undef) rfl (fun hg => absurd hg (by first | (simp; done) | fail)) rfl rfl ?_
                refine q_lazy (v0 := undef) rfl (fun hg => absurd hg (by first | (simp; done) | fail)) rfl rfl ?_
                refine q_lazy rfl (fun hg => g_pick (b := true) (by first | exact evv rfl | exact evg rfl (by rw [hp]; rfl) | exact evg rfl hp | exact evg rfl hg | exact evg rfl (by first | (simp_all; done) | (simp [*]; done) | fail) | fail) (fun _ => (by first | exact evv rfl | exact evg rfl (by rw [hp]; rfl) | exact evg rfl hp | exact evg rfl hg | exact evg rfl (by first | (simp_all; done) | (simp [*]; done) | fail) | fail)) (fun h => by cases h)) rfl rfl ?_
                refine q_give (g_pick_and (evv rfl) (evv rfl) (fun hp => (by first | exact evv rfl | exact evg rfl (by rw [hp]; rfl) | exact evg rfl hp | exact evg rfl hg | exact evg rfl (by first | (simp_all; done) | (simp [*]; done) | fail) | fail))) rfl rfl ?_
                refine q_nil ?_
                refine c_code ?_
                rw [hs]
                refine r_cond rfl (fun h8 => ?_) (fun h8 => ?_) <;> (try simp only [decide_eq_true_eq, decide_eq_false_iff_not, Bool.and_eq_true, Bool.or_eq_true, Bool.not_eq_true', Bool.and_eq_false_iff, Bool.or_eq_false_iff, Bool.not_eq_false', Bool.not_eq_true, Bool.not_eq_false, Bool.true_eq_false, Bool.false_eq_true, Int.not_lt, Int.not_le, not_and, not_or, ne_eq] at h8)
                · rw [if_pos (by simpa using h8)] at hb1
                  refine r_region (id := 28) ?_
                  refine o_give (g_move (evv rfl)) rfl rfl ?_
                  refine o_give (g_assign (evv rfl)) rfl rfl ?_
                  refine o_nil ?_
                  refine c_blk ?_
                  refine c_code ?_
                  refine r_region (id := 26) ?_
                  refine o_give (g_move (evv rfl)) rfl rfl ?_
                  refine o_giveN (g_bin (evv rfl) (evv rfl) (by rfl)) (by simp only [inR]; omega) rfl ?_
                  refine o_give (g_assign (evv rfl)) rfl rfl ?_
                  refine o_nil ?_
                  refine c_loop (m + 1) ?_ ?_ (by simp only [bestV, hb1]; repeat (first | exact trivial | refine ⟨rfl, ?_⟩ | refine envsub_v rfl (by first | rfl | (refine int_eq ?_; first | omega | (simp; omega) | (simp; done)) | (refine bool_eq ?_; first | (simp [*]; done) | (simp; done)) | (refine str_eq ?_; simp; done) | (refine ptr_eq ?_; omega) | fail) ?_)) ?_ <;> (try dsimp only)
                  · omega
                  · omega
                  · exact Lay.ent
                · rw [if_neg (by simpa using h8)] at hb1
                  refine r_skip ?_
                  refine c_blk ?_
                  refine c_code ?_
                  refine r_region (id := 26) ?_
                  refine o_give (g_move (evv rfl)) rfl rfl ?_
                  refine o_giveN (g_bin (evv rfl) (evv rfl) (by rfl)) (by simp only [inR]; omega) rfl ?_
                  refine o_give (g_assign (evv rfl)) rfl rfl ?_
                  refine o_nil ?_
                  refine c_loop (m + 1) ?_ ?_ (by simp only [bestV, hb1]; repeat (first | exact trivial | refine ⟨rfl, ?_⟩ | refine envsub_v rfl (by first | rfl | (refine int_eq ?_; first | omega | (simp; omega) | (simp; done)) | (refine bool_eq ?_; first | (simp [*]; done) | (simp; done)) | (refine str_eq ?_; simp; done) | (refine ptr_eq ?_; omega) | fail) ?_)) ?_ <;> (try dsimp only)
                  · omega
                  · omega
                  · exact Lay.ent
              | some j =>
                obtain ⟨hj1, hj2⟩ := bestTo_some hj
                have hj8 : j < l'.length := by omega
                simp only [bestV]
                generalize hsj : l'.getD j default = sj
                have hb1 : bestTo l' (m + 1) = if s.kept ∧ s.at_ < sj.at_ then some m else some j := by simp only [bestTo, hj, hs, hsj]
                refine r_skip ?_
                refine c_code ?_
                refine r_seq ?_
                refine r_block ?_
                refine r_seq ?_
                refine r_quiet (id := 27) Mixed.h (by kernel_rfl) ?_
                refine q_give (g_move (evv rfl)) rfl rfl ?_
                refine q_give (g_nil (evv rfl)) rfl rfl ?_
                refine q_give (g_fld (evv rfl)) rfl rfl ?_
                refine q_give (g_load (evv rfl) (by rfl) (by rfl)) rfl rfl ?_
                refine q_give (g_move (evv rfl)) rfl rfl ?_
                refine q_give (g_idxFN (evv rfl) (evv rfl) (by rfl) (by rfl) (by first | omega | (have := of_decide_eq_true hg; omega) | (simp at hg; omega) | (simp only [List.length_set, List.length_append, List.length_cons, List.length_nil, List.length_map, List.length_take, List.length_drop, List.length_replicate]; omega))) rfl rfl ?_
                refine q_give (g_fldE (evv rfl) (by first | (simp only [frow, mrow]; omega) | (simp only [frow, mrow, List.length_set, List.length_append, List.length_cons]; omega) | fail) (by first | exact Nat.succ_pos _ | decide)) rfl rfl ?_
                refine q_give (g_loadFld (evv rfl) (by rfl) (by intro; rfl) (by first | omega | (have := of_decide_eq_true hg; omega) | (simp at hg; omega) | (simp only [List.length_set, List.length_append, List.length_cons, List.length_nil, List.length_map, List.length_take, List.length_drop, List.length_replicate]; omega)) (by rfl)) rfl rfl ?_
                refine q_give (g_move (evv rfl)) rfl rfl ?_
                refine q_lazy rfl (fun hg => g_move (by first | exact evv rfl | exact evg rfl (by rw [hp]; rfl) | exact evg rfl hp | exact evg rfl hg | exact evg rfl (by first | (simp_all; done) | (simp [*]; done) | fail) | fail)) rfl rfl ?_
                refine q_lazy rfl (fun hg => g_bin (by first | exact evv rfl | exact evg rfl (by rw [hp]; rfl) | exact evg rfl hp | exact evg rfl hg | exact evg rfl (by first | (simp_all; done) | (simp [*]; done) | fail) | fail) (by first | exact evv rfl | exact evg rfl (by rw [hp]; rfl) | exact evg rfl hp | exact evg rfl hg | exact evg rfl (by first | (simp_all; done) | (simp [*]; done) | fail) | fail) (by rfl)) rfl rfl ?_
                refine q_lazy rfl (fun hg => g_move (by first | exact evv rfl | exact evg rfl (by rw [hp]; rfl) | exact evg rfl hp | exact evg rfl hg | exact evg rfl (by first | (simp_all; done) | (simp [*]; done) | fail) | fail)) rfl rfl ?_
                refine q_lazy rfl (fun hg => g_move (by first | exact evv rfl | exact evg rfl (by rw [hp]; rfl) | exact evg rfl hp | exact evg rfl hg | exact evg rfl (by first | (simp_all; done) | (simp [*]; done) | fail) | fail)) rfl rfl ?_
                refine q_lazy rfl (fun hg => g_nil (by first | exact evv rfl | exact evg rfl (by rw [hp]; rfl) | exact evg rfl hp | exact evg rfl hg | exact evg rfl (by first | (simp_all; done) | (simp [*]; done) | fail) | fail)) rfl rfl ?_
                refine q_lazy rfl (fun hg => g_fld (evg rfl hg)) rfl rfl ?_
                refine q_lazy rfl (fun hg => g_load (evg rfl hg) (by rfl) (by rfl)) rfl rfl ?_
                refine q_lazy rfl (fun hg => g_move (by first | exact evv rfl | exact evg rfl (by rw [hp]; rfl) | exact evg rfl hp | exact evg rfl hg | exact evg rfl (by first | (simp_all; done) | (simp [*]; done) | fail) | fail)) rfl rfl ?_
                refine q_lazy rfl (fun hg => g_idxFN (evg rfl hg) (evg rfl hg) (by rfl) (by rfl) (by first | omega | (have := of_decide_eq_true hg; omega) | (simp at hg; omega) | (simp only [List.length_set, List.length_append, List.length_cons, List.length_nil, List.length_map, List.length_take, List.length_drop, List.length_replicate]; omega))) rfl rfl ?_
                refine q_lazy rfl (fun hg => g_fldE (evg rfl hg) (by first | (simp only [frow, mrow]; omega) | (simp only [frow, mrow, List.length_set, List.length_append, List.length_cons]; omega) | fail) (by first | exact Nat.succ_pos _ | decide)) rfl rfl ?_
                refine q_lazy rfl (fun hg => g_loadFld (evg rfl hg) (by rfl) (by intro; rfl) (by first | omega | (have := of_decide_eq_true hg; omega) | (simp at hg; omega) | (simp only [List.length_set, List.length_append, List.length_cons, List.length_nil, List.length_map, List.length_take, List.length_drop, List.length_replicate]; omega)) (by rfl)) rfl rfl ?_
                refine q_lazy rfl (fun hg => g_move (by first | exact evv rfl | exact evg rfl (by rw [hp]; rfl) | exact evg rfl hp | exact evg rfl hg | exact evg rfl (by first | (simp_all; done) | (simp [*]; done) | fail) | fail)) rfl rfl ?_
                refine q_lazy rfl (fun hg => g_nil (by first | exact evv rfl | exact evg rfl (by rw [hp]; rfl) | exact evg rfl hp | exact evg rfl hg | exact evg rfl (by first | (simp_all; done) | (simp [*]; done) | fail) | fail)) rfl rfl ?_
                refine q_lazy rfl (fun hg => g_fld (evg rfl hg)) rfl rfl ?_
                refine q_lazy rfl (fun hg => g_load (evg rfl hg) (by rfl) (by rfl)) rfl rfl ?_
                refine q_lazy rfl (fun hg => g_move (by first | exact evv rfl | exact evg rfl (by rw [hp]; rfl) | exact evg rfl hp | exact evg rfl hg | exact evg rfl (by first | (simp_all; done) | (simp [*]; done) | fail) | fail)) rfl rfl ?_
                refine q_lazy rfl (fun hg => g_idxFN (evg rfl hg) (evg rfl hg) (by rfl) (by rfl) (by first | omega | (have := of_decide_eq_true hg; omega) | (simp at hg; omega) | (simp only [List.length_set, List.length_append, List.length_cons, List.length_nil, List.length_map, List.length_take, List.length_drop, List.length_replicate]; omega))) rfl rfl ?_
                refine q_lazy rfl (fun hg => g_fldE (evg rfl hg) (by first | (simp only [frow, mrow]; omega) | (simp only [frow, mrow, List.length_set, List.length_append, List.length_cons]; omega) | fail) (by first | exact Nat.succ_pos _ | decide)) rfl rfl ?_
                refine q_lazy rfl (fun hg => g_loadFld (evg rfl hg) (by rfl) (by intro; rfl) (by first | omega | (have := of_decide_eq_true hg; omega) | (simp at hg; omega) | (simp only [List.length_set, List.length_append, List.length_cons, List.length_nil, List.length_map, List.length_take, List.length_drop, List.length_replicate]; omega)) (by rfl)) rfl rfl ?_
                refine q_lazy rfl (fun hg => g_bin (by first | exact evv rfl | exact evg rfl (by rw [hp]; rfl) | exact evg rfl hp | exact evg rfl hg | exact evg rfl (by first | (simp_all; done) | (simp [*]; done) | fail) | fail) (by first | exact evv rfl | exact evg rfl (by rw [hp]; rfl) | exact evg rfl hp | exact evg rfl hg | exact evg rfl (by first | (simp_all; done) | (simp [*]; done) | fail) | fail) (by rfl)) rfl rfl ?_
                refine q_lazy rfl (fun hg => g_pick (b := false) (by first | exact evv rfl | exact evg rfl (by rw [hp]; rfl) | exact evg rfl hp | exact evg rfl hg | exact evg rfl (by first | (simp_all; done) | (simp [*]; done) | fail) | fail) (fun h => by cases h) (fun _ => (by first | exact evv rfl | exact evg rfl (by rw [hp]; rfl) | exact evg rfl hp | exact evg rfl hg | exact evg rfl (by first | (simp_all; done) | (simp [*]; done) | fail) | fail))) rfl rfl ?_
                refine q_give (g_pick_and (evv rfl) (evv rfl) (fun hp => (by first | exact evv rfl | exact evg rfl (by rw [hp]; rfl) | exact evg rfl hp | exact evg rfl hg | exact evg rfl (by first | (simp_all; done) | (simp [*]; done) | fail) | fail))) rfl rfl ?_
                refine q_nil ?_
                refine c_code ?_
                rw [hs, hsj]
                refine r_cond rfl (fun h8 => ?_) (fun h8 => ?_) <;> (try simp only [decide_eq_true_eq, decide_eq_false_iff_not, Bool.and_eq_true, Bool.or_eq_true, Bool.not_eq_true', Bool.and_eq_false_iff, Bool.or_eq_false_iff, Bool.not_eq_false', Bool.not_eq_true, Bool.not_eq_false, Bool.true_eq_false, Bool.false_eq_true, Int.not_lt, Int.not_le, not_and, not_or, ne_eq] at h8)
                · rw [if_pos (by simpa using h8)] at hb1
                  refine r_region (id := 28) ?_
                  refine o_give (g_move (evv rfl)) rfl rfl ?_
                  refine o_give (g_assign (evv rfl)) rfl rfl ?_
                  refine o_nil ?_
                  refine c_blk ?_
                  refine c_code ?_
                  refine r_region (id := 26) ?_
                  refine o_give (g_move (evv rfl)) rfl rfl ?_
                  refine o_giveN (g_bin (evv rfl) (evv rfl) (by rfl)) (by simp only [inR]; omega) rfl ?_
                  refine o_give (g_assign (evv rfl)) rfl rfl ?_
                  refine o_nil ?_
                  refine c_loop (m + 1) ?_ ?_ (by simp only [bestV, hb1]; repeat (first | exact trivial | refine ⟨rfl, ?_⟩ | refine envsub_v rfl (by first | rfl | (refine int_eq ?_; first | omega | (simp; omega) | (simp; done)) | (refine bool_eq ?_; first | (simp [*]; done) | (simp; done)) | (refine str_eq ?_; simp; done) | (refine ptr_eq ?_; omega) | fail) ?_)) ?_ <;> (try dsimp only)
                  · omega
                  · omega
                  · exact Lay.ent
                · rw [if_neg (fun hh => by rcases h8 with h8 | h8; exact absurd hh.1 (by simp [h8]); omega)] at hb1
                  refine r_skip ?_
                  refine c_blk ?_
                  refine c_code ?_
                  refine r_region (id := 26) ?_
                  refine o_give (g_move (evv rfl)) rfl rfl ?_
                  refine o_giveN (g_bin (evv rfl) (evv rfl) (by rfl)) (by simp only [inR]; omega) rfl ?_
                  refine o_give (g_assign (evv rfl)) rfl rfl ?_
                  refine o_nil ?_
                  refine c_loop (m + 1) ?_ ?_ (by simp only [bestV, hb1]; repeat (first | exact trivial | refine ⟨rfl, ?_⟩ | refine envsub_v rfl (by first | rfl | (refine int_eq ?_; first | omega | (simp; omega) | (simp; done)) | (refine bool_eq ?_; first | (simp [*]; done) | (simp; done)) | (refine str_eq ?_; simp; done) | (refine ptr_eq ?_; omega) | fail) ?_)) ?_ <;> (try dsimp only)
                  · omega
                  · omega
                  · exact Lay.ent
            · have : m = l'.length := by omega
              subst this
              cases hj : bestTo l' l'.length with
              | none => exact absurd hj k6
              | some j =>
                obtain ⟨hj1, hj2⟩ := bestTo_some hj
                simp only [bestV]
                have he : evictT l' = (l'.set j { l'.getD j default with kept := false }).set j { (l'.set j { l'.getD j default with kept := false }).getD j default with reply := [] } := by
                  simp only [evictT, hj]
                  rw [getD_set_self hj1, List.set_set]
                refine r_exit rfl ?_
                refine c_code ?_
                refine r_seq ?_
                refine r_region (id := 29) ?_
                refine o_give (g_move (evv rfl)) rfl rfl ?_
                refine o_give (g_nil (evv rfl)) rfl rfl ?_
                refine o_give (g_fld (evv rfl)) rfl rfl ?_
                refine o_give (g_load (evv rfl) (by rfl) (by rfl)) rfl rfl ?_
                refine o_give (g_move (evv rfl)) rfl rfl ?_
                refine o_give (g_idxFN (evv rfl) (evv rfl) (by rfl) (by rfl) (by first | omega | (have := of_decide_eq_true hg; omega) | (simp at hg; omega) | (simp only [List.length_set, List.length_append, List.length_cons, List.length_nil, List.length_map, List.length_take, List.length_drop, List.length_replicate]; omega))) rfl rfl ?_
                refine o_give (g_fldE (evv rfl) (by first | (simp only [frow, mrow]; omega) | (simp only [frow, mrow, List.length_set, List.length_append, List.length_cons]; omega) | fail) (by first | exact Nat.succ_pos _ | decide)) rfl rfl ?_
                refine o_storeFld (evv rfl) (evv rfl) (by rfl) (by intro; rfl) (by first | omega | (have := of_decide_eq_true hg; omega) | (simp at hg; omega) | (simp only [List.length_set, List.length_append, List.length_cons, List.length_nil, List.length_map, List.length_take, List.length_drop, List.length_replicate]; omega)) (by rfl) ?_
                refine o_nil ?_
                refine c_code ?_
                refine r_region (id := 30) ?_
                refine o_give (g_move (evv rfl)) rfl rfl ?_
                refine o_give (g_nil (evv rfl)) rfl rfl ?_
                refine o_give (g_fld (evv rfl)) rfl rfl ?_
                refine o_give (g_load (evv rfl) (by rfl) (by rfl)) rfl rfl ?_
                refine o_give (g_move (evv rfl)) rfl rfl ?_
                refine o_give (g_idxFN (evv rfl) (evv rfl) (by rfl) (by rfl) (by first | omega | (have := of_decide_eq_true hg; omega) | (simp at hg; omega) | (simp only [List.length_set, List.length_append, List.length_cons, List.length_nil, List.length_map, List.length_take, List.length_drop, List.length_replicate]; omega))) rfl rfl ?_
                refine o_give (g_fldE (evv rfl) (by first | (simp only [frow, mrow]; omega) | (simp only [frow, mrow, List.length_set, List.length_append, List.length_cons]; omega) | fail) (by first | exact Nat.succ_pos _ | decide)) rfl rfl ?_
                refine o_storeFld (evv rfl) (evv rfl) (by rfl) (by intro; rfl) (by first | omega | (have := of_decide_eq_true hg; omega) | (simp at hg; omega) | (simp only [List.length_set, List.length_append, List.length_cons, List.length_nil, List.length_map, List.length_take, List.length_drop, List.length_replicate]; omega)) (by rfl) ?_
                refine o_nil ?_
                refine c_blk ?_
                refine c_loop (evictT l') ?_ ?_ (by repeat (first | exact trivial | refine ⟨rfl, ?_⟩ | refine envsub_v rfl (by first | rfl | (refine int_eq ?_; first | omega | (simp; omega) | (simp; done)) | (refine bool_eq ?_; first | (simp [*]; done) | (simp; done)) | (refine str_eq ?_; simp; done) | (refine ptr_eq ?_; omega) | fail) ?_)) ?_ <;> (try dsimp only)
                · exact ⟨by rw [evict_len, k1], evict_wf k2, Nat.le_trans (evict_rep l') k3, by rw [← k4]; exact (evicted_step h0 k2 h7).symm⟩
                · have := kc_evict k6; omega
                · rw [he]; exact Lay.ent
          · have k6 := evicted_stop (room := room) (l := l') (by omega)
            rw [← k4, k6]
            refine r_exit rfl ?_
            refine c_code ?_
            refine r_seq ?_
            refine r_region (id := 31) ?_
            refine o_give (g_assign (evv rfl)) rfl rfl ?_
            refine o_nil ?_
            refine c_code ?_
            first | refine r_ret (rs := [.tmp 10]) rfl rfl _ ((Lay.ent (L' := blk r (rtB room w2) :: sl w2 (frow seatC 5 34 l') :: F)).trans (Ent.shut (X := fun u : Value => [blk r (rtB room u), sl u (frow seatC 5 34 l')]) w2)) ?_ | refine c_end (rs := [.tmp 10]) rfl rfl _ ((Lay.ent (L' := blk r (rtB room w2) :: sl w2 (frow seatC 5 34 l') :: F)).trans (Ent.shut (X := fun u : Value => [blk r (rtB room u), sl u (frow seatC 5 34 l')]) w2)) ?_
            (refine ⟨?_, ?_⟩ <;> first | rfl | trivial | omega)
theorem rRecord_l {L : List Atom} {r : Nat} {x : Int × List Seat} {g : Atom → List Atom} [pk : Pick (rtA r) L x g] (client number at_ : Int) (reply : List UInt8) (hl : x.2.length ≤ 100) (h0 : 0 ≤ x.1) (hw : wfS x.2) (hb : repB x.2 ≤ 1000000) :
    Fn Try.prog 25 [.pointer (some ⟨r, 0, none⟩), .int .i64 client, .int .i64 number, .int .i64 at_, str reply] L fun v L' => v = .int .i64 (recR x.1 x.2 client number at_ reply).1 ∧ L' = g (rtA r (x.1, (recR x.1 x.2 client number at_ reply).2)) :=
  Fn.lift1 (fun F => rRecord_c F r x.1 x.2 client number at_ reply hl h0 hw hb) pk
end VK
