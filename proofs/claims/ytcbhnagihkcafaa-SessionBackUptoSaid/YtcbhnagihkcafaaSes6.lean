/- What a script does to both tables. Conditions: the script's replies have few bytes; there is room for no more than 8192. -/
import Derived.Test.YtcbhnagihkcafaaSes5
namespace VK
open Go Go.Proofs
set_option linter.unusedSimpArgs false
set_option linter.unusedVariables false
set_option maxRecDepth 100000
set_option maxHeartbeats 40000000
def actB (l : List Act) : Nat := (l.map fun a => a.reply.length).sum
theorem actB_take (l : List Act) (k : Nat) (h : k < l.length) : actB (l.take (k + 1)) = actB (l.take k) + (l.getD k default).reply.length := by
  rw [actB, List.take_succ_eq_append_getElem h, List.map_append, List.sum_append]; simp [actB, h]
theorem actB_take_le (l : List Act) (k : Nat) : actB (l.take k) ≤ actB l := by
  conv => rhs; rw [← List.take_append_drop k l]
  simp only [actB, List.map_append, List.sum_append]; omega
theorem fits_c (L : List Atom) (v : Value) (l : List Act) [rd : Rd L v (frow actC 5 30 l)] (hb : actB l ≤ 4611686018427387904) :
    Fn Try.prog 9 [v] L fun w L' => w = .bool (decide (actB l < 300000)) ∧ L' = L := by
  refine fn_lenF rd fun hlen => ?_
  have hlen : l.length ≤ 2 ^ 63 - 1 := hlen
  refine fn_intro Try.func9 rfl Try.ntmps9 rfl (fun W0 => ?_)
  simp only [argE]
  refine r_seq ?_
  refine r_region (id := 0) ?_
  refine o_give (g_assign (evv rfl)) rfl rfl ?_
  refine o_nil ?_
  refine c_code ?_
  refine r_seq ?_
  refine r_region (id := 1) ?_
  refine o_give (g_assign (evv rfl)) rfl rfl ?_
  refine o_nil ?_
  refine c_code ?_
  refine r_seq ?_
  refine r_seq ?_
  refine r_region (id := 2) ?_
  refine o_give (g_assign (evv rfl)) rfl rfl ?_
  refine o_nil ?_
  refine c_code ?_
  refine r_block ?_
  refine r_loopE (σ := Nat) (fun k => k ≤ l.length) (fun k => l.length - k) (fun k => [(3, .v (.int .i64 (actB (l.take k)))), (4, .v (.int .i64 k))]) [0] (fun k => L) 0 (by dsimp only [pickE, pick1, lk2, Nat.reduceBEq, Nat.reduceAdd, Nat.zero_add, cond_true, cond_false] <;> exact rfl) ?_ (by repeat (first | exact trivial | refine ⟨rfl, ?_⟩ | refine envsub_v rfl (by first | rfl | (refine int_eq ?_; first | omega | (simp; omega) | (simp; done)) | (refine bool_eq ?_; first | (simp [*]; done) | (simp; done)) | (refine str_eq ?_; simp; done) | (refine ptr_eq ?_; omega) | fail) ?_)) ?_ ?_
  · exact Nat.zero_le _
  · exact Ent.refl _
  rintro k hk; (try dsimp only at hk); dsimp only [List.cons_append, List.nil_append]
  have h1 := actB_take_le l (k + 1)
  refine r_seq ?_
  refine r_seq ?_
  refine r_region (id := 3) ?_
  refine o_give (g_move (evv rfl)) rfl rfl ?_
  refine o_give (g_move (evv rfl)) rfl rfl ?_
  refine o_give (g_lenF (evv rfl)) rfl rfl ?_
  refine o_give (g_bin (evv rfl) (evv rfl) (by rfl)) rfl rfl ?_
  refine o_nil ?_
  refine c_code ?_
  refine r_cond rfl (fun hc => ?_) (fun hc => ?_) <;> (try simp only [decide_eq_true_eq, decide_eq_false_iff_not, Bool.and_eq_true, Bool.or_eq_true, Bool.not_eq_true', Bool.and_eq_false_iff, Bool.or_eq_false_iff, Bool.not_eq_false', Bool.not_eq_true, Bool.not_eq_false, Bool.true_eq_false, Bool.false_eq_true, Int.not_lt, Int.not_le, not_and, not_or, ne_eq] at hc)
  · have hk8 : k < l.length := by omega
    rw [actB_take l k hk8] at h1
    refine r_skip ?_
    refine c_code ?_
    refine r_seq ?_
    refine r_block ?_
    refine r_region (id := 5) ?_
    refine o_give (g_move (evv rfl)) rfl rfl ?_
    refine o_give (g_move (evv rfl)) rfl rfl ?_
    refine o_give (g_move (evv rfl)) rfl rfl ?_
    refine o_give (g_idxFN (evv rfl) (evv rfl) (by rfl) (by rfl) (by first | omega | (have := of_decide_eq_true hg; omega) | (simp at hg; omega) | (simp only [List.length_set, List.length_append, List.length_cons, List.length_nil, List.length_map, List.length_take, List.length_drop, List.length_replicate]; omega))) rfl rfl ?_
    refine o_give (g_fldE (evv rfl) (by first | (simp only [frow, mrow]; omega) | (simp only [frow, mrow, List.length_set, List.length_append, List.length_cons]; omega) | fail) (by first | exact Nat.succ_pos _ | decide)) rfl rfl ?_
    refine o_give (g_loadFld (evv rfl) (by rfl) (by intro; rfl) (by first | omega | (have := of_decide_eq_true hg; omega) | (simp at hg; omega) | (simp only [List.length_set, List.length_append, List.length_cons, List.length_nil, List.length_map, List.length_take, List.length_drop, List.length_replicate]; omega)) (by rfl)) rfl rfl ?_
    refine o_give (g_lenS TyU.h (evv rfl)) rfl rfl ?_
    refine o_giveN (g_bin (evv rfl) (evv rfl) (by rfl)) (by simp only [inR]; omega) rfl ?_
    refine o_give (g_assign (evv rfl)) rfl rfl ?_
    refine o_nil ?_
    refine c_blk ?_
    refine c_code ?_
    refine r_region (id := 4) ?_
    refine o_give (g_move (evv rfl)) rfl rfl ?_
    refine o_giveN (g_bin (evv rfl) (evv rfl) (by rfl)) (by simp only [inR]; omega) rfl ?_
    refine o_give (g_assign (evv rfl)) rfl rfl ?_
    refine o_nil ?_
    refine c_loop (k + 1) ?_ ?_ (by simp only [actB_take l k hk8]; repeat (first | exact trivial | refine ⟨rfl, ?_⟩ | refine envsub_v rfl (by first | rfl | (refine int_eq ?_; first | omega | (simp; omega) | (simp; done)) | (refine bool_eq ?_; first | (simp [*]; done) | (simp; done)) | (refine str_eq ?_; simp; done) | (refine ptr_eq ?_; omega) | fail) ?_)) ?_ <;> (try dsimp only)
    · omega
    · omega
    · exact Ent.refl _
  · have : k = l.length := by omega
    subst this
    rw [List.take_length]
    refine r_exit rfl ?_
    refine c_code ?_
    refine r_seq ?_
    refine r_region (id := 6) ?_
    refine o_give (g_move (evv rfl)) rfl rfl ?_
    refine o_give (g_bin (evv rfl) (evv rfl) (by rfl)) rfl rfl ?_
    refine o_give (g_assign (evv rfl)) rfl rfl ?_
    refine o_nil ?_
    refine c_code ?_
    first | refine r_ret (rs := [.tmp 2]) rfl rfl _ (Ent.refl _) ?_ | refine c_end (rs := [.tmp 2]) rfl rfl _ (Ent.refl _) ?_
    refine ⟨?_, rfl⟩
    exact bool_eq (by simp; omega)
def actT (room : Int) (l : List Seat) (a : Act) : List Seat := if a.forget = true then (forgT l a.client).2 else (recT room l a.client a.number a.at_ a.reply).2
def playT (room : Int) (l : List Seat) (acts : List Act) : List Seat := (acts.take 200).foldl (actT room) l
theorem rec_room {l : List Seat} (h : WFT l) {room : Int} (h0 : 0 ≤ room) (hr : (repB l : Int) ≤ room) (c n a : Int) (r : List UInt8) : (repB (recT room l c n a r).2 : Int) ≤ room := by
  unfold recT
  split
  · exact hr
  · split
    · exact hr
    · split
      · exact hr
      · rename_i h1 h2 h3
        have hb : ¬ badRq c n := fun hb => h1 (by simp only [lookT, if_pos hb])
        simp only [badRq] at hb
        have hw : WFT (l.set (c - 1).toNat (newSeat c n a r)) := h.set (i := (c - 1).toNat) (by omega) (show 0 < n by omega) (show c = ((c - 1).toNat : Int) + 1 by omega) (fun hk => by cases hk)
        exact evicted_rep hw (Nat.le_refl _) h0
theorem forg_room {l : List Seat} {room : Int} (hr : (repB l : Int) ≤ room) (c : Int) : (repB (forgT l c).2 : Int) ≤ room := by
  unfold forgT
  split
  · have := repB_set_le (l := l) (i := (c - 1).toNat) (a := { seatAt l c with kept := false, reply := [] }) (by simp)
    have e : ({ seatAt l c with kept := false, reply := [] } : Seat) = gone (seatAt l c) := rfl
    rw [e] at this ⊢
    show (repB (l.set (c - 1).toNat (gone (seatAt l c))) : Int) ≤ room
    omega
  · exact hr
theorem act_ok {l : List Seat} (h : WFT l) {room : Int} (h0 : 0 ≤ room) (hr : (repB l : Int) ≤ room) (a : Act) : WFT (actT room l a) ∧ (repB (actT room l a) : Int) ≤ room := by
  unfold actT
  split
  · exact ⟨(forg_list h a.client).2, forg_room hr _⟩
  · exact ⟨(rec_list h h0 _ _ _ _).2, rec_room h h0 hr _ _ _ _⟩
theorem list_len {l : List Seat} (h : WFT l) : (listT l).length ≤ 8 := by
  have := h.len
  have h2 := List.length_filter_le (fun s : Seat => decide (0 < s.number)) l
  unfold listT; omega
theorem list_wf {l : List Seat} (h : WFT l) : wfS (listT l) := fun s hs => h.wf s (mem_list.1 hs).1
theorem foldl_take_succ {α β : Type} (f : β → α → β) (b : β) (l : List α) (k : Nat) (d : α) (h : k < l.length) : (l.take (k + 1)).foldl f b = f ((l.take k).foldl f b) (l.getD k d) := by
  rw [List.take_succ_eq_append_getElem h, List.foldl_append]; simp [h]
theorem play_c (F : List Atom) (b r : Nat) (v : Value) (acts : List Act) [rd : Rd F v (frow actC 5 30 acts)] (room : Int) (l : List Seat) (h0 : 0 ≤ room) (h1 : room ≤ 8192) (hw : WFT l) (hr : (repB l : Int) ≤ room) (hok : ∀ a ∈ acts, a.ok) :
    Fn Try.prog 14 [.pointer (some ⟨b, 0, none⟩), .pointer (some ⟨r, 0, none⟩), v] (blk b (tblB room l) :: rtA r (room, listT l) :: F) fun w L' => w = .bool true ∧ L' = blk b (tblB room (playT room l acts)) :: rtA r (room, listT (playT room l acts)) :: F := by
  refine fn_lenF (rd.ent (Ent.drop.trans Ent.drop)) fun hlen => ?_
  have hlen : acts.length ≤ 2 ^ 63 - 1 := hlen
  refine fn_intro Try.func14 rfl Try.ntmps14 rfl (fun W0 => ?_)
  simp only [argE]
  refine r_seq ?_
  refine r_region (id := 0) ?_
  refine o_give (g_assign (evv rfl)) rfl rfl ?_
  refine o_nil ?_
  refine c_code ?_
  refine r_seq ?_
  refine r_seq ?_
  refine r_region (id := 1) ?_
  refine o_give (g_assign (evv rfl)) rfl rfl ?_
  refine o_nil ?_
  refine c_code ?_
  refine r_block ?_
  refine r_loopE (σ := Nat × List Seat) (fun ⟨k, l'⟩ => k ≤ acts.length ∧ k ≤ 200 ∧ l' = (acts.take k).foldl (actT room) l ∧ WFT l' ∧ (repB l' : Int) ≤ room) (fun ⟨k, l'⟩ => acts.length - k) (fun ⟨k, l'⟩ => [(7, .v (.int .i64 k))]) [0, 1, 2] (fun ⟨k, l'⟩ => blk b (tblB room l') :: rtA r (room, listT l') :: F) (0, l) (by dsimp only [pickE, pick1, lk2, Nat.reduceBEq, Nat.reduceAdd, Nat.zero_add, cond_true, cond_false] <;> exact rfl) ?_ (by repeat (first | exact trivial | refine ⟨rfl, ?_⟩ | refine envsub_v rfl (by first | rfl | (refine int_eq ?_; first | omega | (simp; omega) | (simp; done)) | (refine bool_eq ?_; first | (simp [*]; done) | (simp; done)) | (refine str_eq ?_; simp; done) | (refine ptr_eq ?_; omega) | fail) ?_)) ?_ ?_
  · exact ⟨Nat.zero_le _, Nat.zero_le _, rfl, hw, hr⟩
  · exact Ent.refl _
  rintro ⟨k, l'⟩ ⟨hk, hk2, he, hw', hr'⟩; dsimp only [List.cons_append, List.nil_append]
  have hl8 : l'.length = 8 := hw'.len
  have hll := list_len hw'
  have hll2 : (room, listT l').2.length ≤ 1000 := by dsimp only; omega
  have hll3 : (room, listT l').2.length ≤ 100 := by dsimp only; omega
  have hwf := hw'.wf
  have hwf2 : wfS (room, listT l').2 := list_wf hw'
  have hrb : repB l' ≤ 1000000 := by omega
  have hrb2 : repB (room, listT l').2 ≤ 1000000 := by dsimp only; rw [repB_list hw']; exact hrb
  have h02 : 0 ≤ (room, listT l').1 := h0
  refine r_seq ?_
  refine r_seq ?_
  refine r_region (id := 2) ?_
  refine o_give (g_move (evv rfl)) rfl rfl ?_
  refine o_give (g_move (evv rfl)) rfl rfl ?_
  refine o_give (g_lenF (evv rfl)) rfl rfl ?_
  refine o_give (g_bin (evv rfl) (evv rfl) (by rfl)) rfl rfl ?_
  refine o_give (g_move (evv rfl)) rfl rfl ?_
  refine o_lazy rfl (fun hg => g_move (by first | exact evv rfl | exact evg rfl (by rw [hp]; rfl) | exact evg rfl hp | exact evg rfl hg | exact evg rfl (by first | (simp_all; done) | (simp [*]; done) | fail) | fail)) rfl rfl ?_
  refine o_lazy rfl (fun hg => g_bin (by first | exact evv rfl | exact evg rfl (by rw [hp]; rfl) | exact evg rfl hp | exact evg rfl hg | exact evg rfl (by first | (simp_all; done) | (simp [*]; done) | fail) | fail) (by first | exact evv rfl | exact evg rfl (by rw [hp]; rfl) | exact evg rfl hp | exact evg rfl hg | exact evg rfl (by first | (simp_all; done) | (simp [*]; done) | fail) | fail) (by rfl)) rfl rfl ?_
  refine o_give (g_pick_and (evv rfl) (evv rfl) (fun hp => (by first | exact evv rfl | exact evg rfl (by rw [hp]; rfl) | exact evg rfl hp | exact evg rfl hg | exact evg rfl (by first | (simp_all; done) | (simp [*]; done) | fail) | fail))) rfl rfl ?_
  refine o_nil ?_
  refine c_code ?_
  refine r_cond rfl (fun hc => ?_) (fun hc => ?_) <;> (try simp only [decide_eq_true_eq, decide_eq_false_iff_not, Bool.and_eq_true, Bool.or_eq_true, Bool.not_eq_true', Bool.and_eq_false_iff, Bool.or_eq_false_iff, Bool.not_eq_false', Bool.not_eq_true, Bool.not_eq_false, Bool.true_eq_false, Bool.false_eq_true, Int.not_lt, Int.not_le, not_and, not_or, ne_eq] at hc)
  · have hk8 : k < acts.length := by omega
    have hx2 : acts.getD k default ∈ acts := by simp [hk8]
    have hfold := foldl_take_succ (actT room) l acts k default hk8
    rw [← he] at hfold
    have hao := hok _ hx2
    generalize hx : acts.getD k default = a at *
    have hac : inR .i64 a.client := hao.2.1
    have hnx := act_ok hw' h0 hr' a
    refine r_skip ?_
    refine c_code ?_
    refine r_seq ?_
    refine r_block ?_
    refine r_seq ?_
    refine r_region (id := 4) ?_
    refine o_give (g_move (evv rfl)) rfl rfl ?_
    refine o_give (g_move (evv rfl)) rfl rfl ?_
    refine o_give (g_idxFN (evv rfl) (evv rfl) (by rfl) (by rfl) (by first | omega | (have := of_decide_eq_true hg; omega) | (simp at hg; omega) | (simp only [List.length_set, List.length_append, List.length_cons, List.length_nil, List.length_map, List.length_take, List.length_drop, List.length_replicate]; omega))) rfl rfl ?_
    refine o_give (g_loadFr (evv rfl) (by rfl) (by intro; rfl) (by rfl) (by rfl) (by first | omega | (have := of_decide_eq_true hg; omega) | (simp at hg; omega) | (simp only [List.length_set, List.length_append, List.length_cons, List.length_nil, List.length_map, List.length_take, List.length_drop, List.length_replicate]; omega))) rfl rfl ?_
    refine o_alloc rfl rfl (fun _ => ?_)
    refine o_storeW (evv rfl) (evv rfl) (by first | rfl | assumption | (simp [bys, *]; done) | fail) (by first | (intro _ _ _; exact bys_one _) | exact AllOne.h | (intro _ _ _ u hu; simp at hu; rcases hu with rfl | rfl | rfl | rfl | rfl | rfl | rfl | rfl <;> rfl) | fail) (by first | rfl | (simp [bys, *]; done) | (simp only [bys, List.length_map, *]; rfl) | fail) ?_
    refine o_nil ?_
    refine c_code ?_
    refine r_seq ?_
    rw [hx]
    rename_i p
    refine r_region (id := 5) ?_
    refine o_give (g_fld (evv rfl)) rfl rfl ?_
    refine o_give (g_load (evv rfl) (by rfl) (by rfl)) rfl rfl ?_
    refine o_nil ?_
    refine c_code ?_
    refine r_cond rfl (fun hf => ?_) (fun hf => ?_) <;> (try simp only [decide_eq_true_eq, decide_eq_false_iff_not, Bool.and_eq_true, Bool.or_eq_true, Bool.not_eq_true', Bool.and_eq_false_iff, Bool.or_eq_false_iff, Bool.not_eq_false', Bool.not_eq_true, Bool.not_eq_false, Bool.true_eq_false, Bool.false_eq_true, Int.not_lt, Int.not_le, not_and, not_or, ne_eq] at hf)
    · repeat (first | refine r_seq ?_ | refine c_code ?_ | refine c_blk ?_ | refine r_block ?_ | refine r_skip ?_)
      refine r_held (id := 6) [blk p ⟨actC a, 30⟩] Mixed.h ?_
      refine h_give (i := 0) (by kernel_rfl) rfl (g_move (evv rfl)) rfl rfl ?_
      refine h_give (i := 1) (by kernel_rfl) rfl (g_fld (evv rfl)) rfl rfl ?_
      refine h_give (i := 2) (by kernel_rfl) rfl (g_load (evv rfl) (by rfl) (by rfl)) rfl rfl ?_
      refine h_give (i := 4) (by kernel_rfl) rfl (g_move (evv rfl)) rfl rfl ?_
      refine h_give (i := 5) (by kernel_rfl) rfl (g_fld (evv rfl)) rfl rfl ?_
      refine h_give (i := 6) (by kernel_rfl) rfl (g_load (evv rfl) (by rfl) (by rfl)) rfl rfl ?_
      refine h_one (i := 3) (by kernel_rfl) rfl (Lay.ent) ?_
      (refine o_call rfl _ (Ent.refl _) (Fn.atPick (Forget_g _ _ _ (by first | assumption | (simp only [inR]; omega)) (by assumption))) rfl ?_; rintro _ _ ⟨rfl, rfl⟩)
      refine o_nil ?_
      refine h_one (i := 7) (by kernel_rfl) rfl (Lay.ent) ?_
      (refine o_call rfl _ (Ent.refl _) (rForget_l _ (by assumption)) rfl ?_; rintro _ _ ⟨rfl, rfl⟩)
      refine o_nil ?_
      refine h_give (i := 8) (by kernel_rfl) rfl (g_binB TyU.h (evv rfl) (evv rfl) (by rfl)) rfl rfl ?_
      refine h_done (by kernel_rfl) (Lay.ent) ?_
      rw [(forg_list hw' a.client).1]
      have hat : actT room l' a = (forgT l' a.client).2 := by simp [actT, hf]
      rw [hat] at hnx hfold
      generalize hF : forgT l' a.client = fr at *
      refine c_code ?_
      refine r_cond rfl (fun hb => ?_) (fun hb => ?_) <;> (try simp only [decide_eq_true_eq, decide_eq_false_iff_not, Bool.and_eq_true, Bool.or_eq_true, Bool.not_eq_true', Bool.and_eq_false_iff, Bool.or_eq_false_iff, Bool.not_eq_false', Bool.not_eq_true, Bool.not_eq_false, Bool.true_eq_false, Bool.false_eq_true, Int.not_lt, Int.not_le, not_and, not_or, ne_eq] at hb)
      · exfalso; simp at hb
      · clear hb
        refine r_skip ?_
        refine c_blk ?_
        refine c_code ?_
        refine r_region (id := 3) ?_
        refine o_give (g_move (evv rfl)) rfl rfl ?_
        refine o_giveN (g_bin (evv rfl) (evv rfl) (by rfl)) (by simp only [inR]; omega) rfl ?_
        refine o_give (g_assign (evv rfl)) rfl rfl ?_
        refine o_nil ?_
        refine c_loop (k + 1, fr.2) ?_ ?_ (by repeat (first | exact trivial | refine ⟨rfl, ?_⟩ | refine envsub_v rfl (by first | rfl | (refine int_eq ?_; first | omega | (simp; omega) | (simp; done)) | (refine bool_eq ?_; first | (simp [*]; done) | (simp; done)) | (refine str_eq ?_; simp; done) | (refine ptr_eq ?_; omega) | fail) ?_)) ?_ <;> (try dsimp only)
        · exact ⟨by omega, by omega, hfold.symm, hnx.1, hnx.2⟩
        · omega
        · exact Lay.ent
    · repeat (first | refine r_seq ?_ | refine c_code ?_ | refine c_blk ?_ | refine r_block ?_ | refine r_skip ?_)
      refine r_held (id := 8) [blk p ⟨actC a, 30⟩] Mixed.h ?_
      refine h_give (i := 0) (by kernel_rfl) rfl (g_move (evv rfl)) rfl rfl ?_
      refine h_give (i := 1) (by kernel_rfl) rfl (g_fld (evv rfl)) rfl rfl ?_
      refine h_give (i := 2) (by kernel_rfl) rfl (g_load (evv rfl) (by rfl) (by rfl)) rfl rfl ?_
      refine h_give (i := 3) (by kernel_rfl) rfl (g_fld (evv rfl)) rfl rfl ?_
      refine h_give (i := 4) (by kernel_rfl) rfl (g_load (evv rfl) (by rfl) (by rfl)) rfl rfl ?_
      refine h_give (i := 5) (by kernel_rfl) rfl (g_fld (evv rfl)) rfl rfl ?_
      refine h_give (i := 6) (by kernel_rfl) rfl (g_load (evv rfl) (by rfl) (by rfl)) rfl rfl ?_
      refine h_give (i := 7) (by kernel_rfl) rfl (g_fld (evv rfl)) rfl rfl ?_
      refine h_give (i := 8) (by kernel_rfl) rfl (g_load (evv rfl) (by rfl) (by rfl)) rfl rfl ?_
      refine h_give (i := 10) (by kernel_rfl) rfl (g_move (evv rfl)) rfl rfl ?_
      refine h_give (i := 11) (by kernel_rfl) rfl (g_fld (evv rfl)) rfl rfl ?_
      refine h_give (i := 12) (by kernel_rfl) rfl (g_load (evv rfl) (by rfl) (by rfl)) rfl rfl ?_
      refine h_give (i := 13) (by kernel_rfl) rfl (g_fld (evv rfl)) rfl rfl ?_
      refine h_give (i := 14) (by kernel_rfl) rfl (g_load (evv rfl) (by rfl) (by rfl)) rfl rfl ?_
      refine h_give (i := 15) (by kernel_rfl) rfl (g_fld (evv rfl)) rfl rfl ?_
      refine h_give (i := 16) (by kernel_rfl) rfl (g_load (evv rfl) (by rfl) (by rfl)) rfl rfl ?_
      refine h_give (i := 17) (by kernel_rfl) rfl (g_fld (evv rfl)) rfl rfl ?_
      refine h_give (i := 18) (by kernel_rfl) rfl (g_load (evv rfl) (by rfl) (by rfl)) rfl rfl ?_
      refine h_one (i := 9) (by kernel_rfl) rfl (Lay.ent) ?_
      (refine o_call rfl _ (Ent.refl _) (Fn.atPick (Record_g _ _ _ _ _ _ (by first | assumption | (simp only [inR]; omega)) (by assumption) (by first | assumption | omega) (by assumption) (by assumption))) rfl ?_; rintro _ _ ⟨rfl, rfl⟩)
      refine o_nil ?_
      refine h_one (i := 19) (by kernel_rfl) rfl (Lay.ent) ?_
      (refine o_call rfl _ (Ent.refl _) (rRecord_l _ _ _ _ (by assumption) (by assumption) (by assumption) (by assumption)) rfl ?_; rintro _ _ ⟨rfl, rfl⟩)
      refine o_nil ?_
      refine h_give (i := 20) (by kernel_rfl) rfl (g_bin (evv rfl) (evv rfl) (by rfl)) rfl rfl ?_
      refine h_done (by kernel_rfl) (Lay.ent) ?_
      rw [(rec_list hw' h0 a.client a.number a.at_ a.reply).1]
      have hat : actT room l' a = (recT room l' a.client a.number a.at_ a.reply).2 := by simp [actT, hf]
      rw [hat] at hnx hfold
      generalize hF : recT room l' a.client a.number a.at_ a.reply = fr at *
      refine c_code ?_
      refine r_cond rfl (fun hb => ?_) (fun hb => ?_) <;> (try simp only [decide_eq_true_eq, decide_eq_false_iff_not, Bool.and_eq_true, Bool.or_eq_true, Bool.not_eq_true', Bool.and_eq_false_iff, Bool.or_eq_false_iff, Bool.not_eq_false', Bool.not_eq_true, Bool.not_eq_false, Bool.true_eq_false, Bool.false_eq_true, Int.not_lt, Int.not_le, not_and, not_or, ne_eq] at hb)
      · exfalso; simp at hb
      · clear hb
        refine r_skip ?_
        refine c_blk ?_
        refine c_code ?_
        refine r_region (id := 3) ?_
        refine o_give (g_move (evv rfl)) rfl rfl ?_
        refine o_giveN (g_bin (evv rfl) (evv rfl) (by rfl)) (by simp only [inR]; omega) rfl ?_
        refine o_give (g_assign (evv rfl)) rfl rfl ?_
        refine o_nil ?_
        refine c_loop (k + 1, fr.2) ?_ ?_ (by repeat (first | exact trivial | refine ⟨rfl, ?_⟩ | refine envsub_v rfl (by first | rfl | (refine int_eq ?_; first | omega | (simp; omega) | (simp; done)) | (refine bool_eq ?_; first | (simp [*]; done) | (simp; done)) | (refine str_eq ?_; simp; done) | (refine ptr_eq ?_; omega) | fail) ?_)) ?_ <;> (try dsimp only)
        · exact ⟨by omega, by omega, hfold.symm, hnx.1, hnx.2⟩
        · omega
        · exact Lay.ent
  · have hp : l' = playT room l acts := by
      rw [he, playT]
      congr 1
      by_cases h200 : acts.length ≤ 200
      · rw [List.take_of_length_le (by omega), List.take_of_length_le h200]
      · congr 1; omega
    rw [hp]
    refine r_exit rfl ?_
    refine c_code ?_
    refine r_seq ?_
    refine r_region (id := 10) ?_
    refine o_give (g_assign (evv rfl)) rfl rfl ?_
    refine o_nil ?_
    refine c_code ?_
    first | refine r_ret (rs := [.tmp 6]) rfl rfl _ (Ent.refl _) ?_ | refine c_end (rs := [.tmp 6]) rfl rfl _ (Ent.refl _) ?_
    (refine ⟨?_, ?_⟩ <;> first | rfl | trivial | omega)
theorem Fn.opened {P : Program} {f : FuncId} {args : List Value} {L : List Atom} {R R' : Value → List Atom → Prop} (h : Fn P f args L R) (hR : ∀ v L', R v L' → ∀ x, star L' x → ∃ L'', star L'' x ∧ R' v L'') : Fn P f args L R' := by
  unfold Fn at *
  intro W0 w hs
  refine (h W0 w hs).mono fun e w' ⟨v, L', he, hr, hS⟩ => ?_
  obtain ⟨L'', h1, h2⟩ := hR v L' hr _ hS.heap
  exact ⟨v, L'', he, h2, hS.os, hS.tape, hS.output, h1⟩
theorem play_o (F : List Atom) (b r : Nat) (v u : Value) (acts : List Act) [rd : Rd F v (frow actC 5 30 acts)] (room : Int) (l : List Seat) (h0 : 0 ≤ room) (h1 : room ≤ 8192) (hw : WFT l) (hr : (repB l : Int) ≤ room) (hok : ∀ a ∈ acts, a.ok) :
    Fn Try.prog 14 [.pointer (some ⟨b, 0, none⟩), .pointer (some ⟨r, 0, none⟩), v] (blk b (tblB room l) :: blk r (rtB room u) :: sl u (frow seatC 5 34 (listT l)) :: F) fun w L' => w = .bool true ∧ ∃ u', L' = blk b (tblB room (playT room l acts)) :: blk r (rtB room u') :: sl u' (frow seatC 5 34 (listT (playT room l acts))) :: F := by
  refine Fn.opened ((play_c F b r v acts room l h0 h1 hw hr hok).pre (Ent.cons (Ent.shut (X := fun u : Value => [blk r (rtB room u), sl u (frow seatC 5 34 (listT l))]) u))) ?_
  rintro _ _ ⟨rfl, rfl⟩ x hx
  obtain ⟨h1, h2, s, ha, hb⟩ := hx
  obtain ⟨u', hu⟩ := star_exA.1 hb
  exact ⟨blk b (tblB room (playT room l acts)) :: ([blk r (rtB room u'), sl u' (frow seatC 5 34 (listT (playT room l acts)))] ++ F), ⟨h1, h2, s, ha, hu⟩, rfl, u', rfl⟩
theorem play_ok {l : List Seat} (h : WFT l) {room : Int} (h0 : 0 ≤ room) (hr : (repB l : Int) ≤ room) (acts : List Act) : WFT (playT room l acts) ∧ (repB (playT room l acts) : Int) ≤ room := by
  have key : ∀ (acts : List Act) (l : List Seat), WFT l → (repB l : Int) ≤ room → WFT (acts.foldl (actT room) l) ∧ (repB (acts.foldl (actT room) l) : Int) ≤ room := by
    intro acts
    induction acts with
    | nil => exact fun l h1 h2 => ⟨h1, h2⟩
    | cons a acts ih => exact fun l h1 h2 => ih _ (act_ok h1 h0 h2 a).1 (act_ok h1 h0 h2 a).2
  exact key _ l h hr
end VK
