/- Lists of texts: whether they are alike, a path's, within one another, which comes first; the code's and the reference's answers. Conditions: texts and lists of a machine's size. -/
import Derived.Test.YtfcdlmcdidfjlaaVp
namespace VK
open Go Go.Proofs
set_option linter.unusedSimpArgs false
set_option linter.unusedVariables false
set_option maxRecDepth 100000
set_option maxHeartbeats 40000000
instance : Inhabited (List UInt8) := ⟨[]⟩
theorem Texts_c (L : List Atom) (va vb : Value) (la lb : List (List UInt8)) [ra : Rd L va (mrow str 9 la)] [rb : Rd L vb (mrow str 9 lb)] :
    Fn Try.prog 13 [va, vb] L fun w L' => w = .bool (decide (la = lb)) ∧ L' = L := by
  refine fn_lenM ra fun hlen => ?_
  have hlen : la.length ≤ 2 ^ 63 - 1 := hlen
  refine fn_intro Try.func13 rfl Try.ntmps13 rfl (fun W0 => ?_)
  simp only [argE]
  refine r_seq ?_
  refine r_region (id := 0) ?_
  refine o_give (g_assign (evv rfl)) rfl rfl ?_
  refine o_nil ?_
  refine c_code ?_
  refine r_seq ?_
  refine r_seq ?_
  refine r_region (id := 1) ?_
  refine o_give (g_move (evv rfl)) rfl rfl ?_
  refine o_give (g_lenM (evv rfl)) rfl rfl ?_
  refine o_give (g_move (evv rfl)) rfl rfl ?_
  refine o_give (g_lenM (evv rfl)) rfl rfl ?_
  refine o_give (g_bin (evv rfl) (evv rfl) (by rfl)) rfl rfl ?_
  refine o_nil ?_
  refine c_code ?_
  refine r_cond rfl (fun hn => ?_) (fun hn => ?_) <;> (try simp only [decide_eq_true_eq, decide_eq_false_iff_not, Bool.and_eq_true, Bool.or_eq_true, Bool.not_eq_true', Bool.and_eq_false_iff, Bool.or_eq_false_iff, Bool.not_eq_false', Bool.not_eq_true, Bool.not_eq_false, Bool.true_eq_false, Bool.false_eq_true, Int.not_lt, Int.not_le, not_and, not_or, ne_eq] at hn)
  · have hne : ¬ la = lb := fun e => hn (by rw [e])
    refine r_seq ?_
    refine r_region (id := 2) ?_
    refine o_give (g_assign (evv rfl)) rfl rfl ?_
    refine o_nil ?_
    refine c_code ?_
    rw [decide_eq_false hne]
    first | refine r_ret (rs := [.tmp 4]) rfl rfl _ (Ent.refl _) ?_ | refine c_end (rs := [.tmp 4]) rfl rfl _ (Ent.refl _) ?_
    (refine ⟨?_, ?_⟩ <;> first | rfl | trivial | omega)
  · have hll : la.length = lb.length := by omega
    refine r_skip ?_
    refine c_code ?_
    refine r_seq ?_
    refine r_seq ?_
    refine r_region (id := 3) ?_
    refine o_give (g_assign (evv rfl)) rfl rfl ?_
    refine o_nil ?_
    refine c_code ?_
    refine r_block ?_
    refine r_loopE (σ := Nat) (fun i => i ≤ la.length ∧ la.take i = lb.take i) (fun i => la.length - i) (fun i => [(5, .v (.int .i64 i))]) [0, 1] (fun i => L) 0 (by dsimp only [pickE, pick1, lk2, Nat.reduceBEq, Nat.reduceAdd, Nat.zero_add, cond_true, cond_false] <;> exact rfl) ?_ (by repeat (first | exact trivial | refine ⟨rfl, ?_⟩ | refine envsub_v rfl (by first | rfl | (refine int_eq ?_; first | omega | (simp; omega) | (simp; done)) | (refine bool_eq ?_; first | (simp [*]; done) | (simp; done)) | (refine str_eq ?_; simp; done) | (refine ptr_eq ?_; omega) | fail) ?_)) ?_ ?_
    · exact ⟨Nat.zero_le _, rfl⟩
    · exact Ent.refl _
    rintro i ⟨hi, he⟩; dsimp only [List.cons_append, List.nil_append]
    refine r_seq ?_
    refine r_seq ?_
    refine r_region (id := 4) ?_
    refine o_give (g_move (evv rfl)) rfl rfl ?_
    refine o_give (g_move (evv rfl)) rfl rfl ?_
    refine o_give (g_lenM (evv rfl)) rfl rfl ?_
    refine o_give (g_bin (evv rfl) (evv rfl) (by rfl)) rfl rfl ?_
    refine o_nil ?_
    refine c_code ?_
    refine r_cond rfl (fun hc => ?_) (fun hc => ?_) <;> (try simp only [decide_eq_true_eq, decide_eq_false_iff_not, Bool.and_eq_true, Bool.or_eq_true, Bool.not_eq_true', Bool.and_eq_false_iff, Bool.or_eq_false_iff, Bool.not_eq_false', Bool.not_eq_true, Bool.not_eq_false, Bool.true_eq_false, Bool.false_eq_true, Int.not_lt, Int.not_le, not_and, not_or, ne_eq] at hc)
    · have h1 : i < la.length := by omega
      have h2 : i < lb.length := by omega
      refine r_skip ?_
      refine c_code ?_
      refine r_seq ?_
      refine r_block ?_
      refine r_seq ?_
      refine r_quiet (id := 6) Mixed.h (by kernel_rfl) ?_
      refine q_give (g_move (evv rfl)) rfl rfl ?_
      refine q_give (g_move (evv rfl)) rfl rfl ?_
      refine q_give (g_idxMN (evv rfl) (evv rfl) (by rfl) (by first | omega | (have := of_decide_eq_true hg; omega) | (simp at hg; omega) | (simp only [List.length_set, List.length_append, List.length_cons, List.length_nil, List.length_map, List.length_take, List.length_drop, List.length_replicate]; omega))) rfl rfl ?_
      refine q_give (g_loadM (evv rfl) (by rfl) (by first | omega | (have := of_decide_eq_true hg; omega) | (simp at hg; omega) | (simp only [List.length_set, List.length_append, List.length_cons, List.length_nil, List.length_map, List.length_take, List.length_drop, List.length_replicate]; omega))) rfl rfl ?_
      refine q_give (g_move (evv rfl)) rfl rfl ?_
      refine q_give (g_move (evv rfl)) rfl rfl ?_
      refine q_give (g_idxMN (evv rfl) (evv rfl) (by rfl) (by first | omega | (have := of_decide_eq_true hg; omega) | (simp at hg; omega) | (simp only [List.length_set, List.length_append, List.length_cons, List.length_nil, List.length_map, List.length_take, List.length_drop, List.length_replicate]; omega))) rfl rfl ?_
      refine q_give (g_loadM (evv rfl) (by rfl) (by first | omega | (have := of_decide_eq_true hg; omega) | (simp at hg; omega) | (simp only [List.length_set, List.length_append, List.length_cons, List.length_nil, List.length_map, List.length_take, List.length_drop, List.length_replicate]; omega))) rfl rfl ?_
      refine q_give (g_binS (evv rfl) (evv rfl) (by rfl)) rfl rfl ?_
      refine q_nil ?_
      refine c_code ?_
      refine r_cond rfl (fun hne => ?_) (fun hne => ?_) <;> (try simp only [decide_eq_true_eq, decide_eq_false_iff_not, Bool.and_eq_true, Bool.or_eq_true, Bool.not_eq_true', Bool.and_eq_false_iff, Bool.or_eq_false_iff, Bool.not_eq_false', Bool.not_eq_true, Bool.not_eq_false, Bool.true_eq_false, Bool.false_eq_true, Int.not_lt, Int.not_le, not_and, not_or, ne_eq] at hne)
      · have hx : ¬ la = lb := fun e => hne (by rw [e])
        refine r_seq ?_
        refine r_region (id := 7) ?_
        refine o_give (g_assign (evv rfl)) rfl rfl ?_
        refine o_nil ?_
        refine c_code ?_
        rw [decide_eq_false hx]
        first | refine r_ret (rs := [.tmp 4]) rfl rfl _ (Ent.refl _) ?_ | refine c_end (rs := [.tmp 4]) rfl rfl _ (Ent.refl _) ?_
        (refine ⟨?_, ?_⟩ <;> first | rfl | trivial | omega)
      · have he2 : la.take (i + 1) = lb.take (i + 1) := by
          have hne : la[i] = lb[i] := by simpa [List.getD_eq_getElem?_getD, h1, h2] using hne
          rw [List.take_succ_eq_append_getElem h1, List.take_succ_eq_append_getElem h2, he, hne]
        refine r_skip ?_
        refine c_blk ?_
        refine c_code ?_
        refine r_region (id := 5) ?_
        refine o_give (g_move (evv rfl)) rfl rfl ?_
        refine o_giveN (g_bin (evv rfl) (evv rfl) (by rfl)) (by simp only [inR]; omega) rfl ?_
        refine o_give (g_assign (evv rfl)) rfl rfl ?_
        refine o_nil ?_
        refine c_loop (i + 1) ?_ ?_ (by repeat (first | exact trivial | refine ⟨rfl, ?_⟩ | refine envsub_v rfl (by first | rfl | (refine int_eq ?_; first | omega | (simp; omega) | (simp; done)) | (refine bool_eq ?_; first | (simp [*]; done) | (simp; done)) | (refine str_eq ?_; simp; done) | (refine ptr_eq ?_; omega) | fail) ?_)) ?_ <;> (try dsimp only)
        · exact ⟨by omega, he2⟩
        · omega
        · exact Ent.refl _
    · rw [List.take_of_length_le (by omega), List.take_of_length_le (by omega)] at he
      refine r_exit rfl ?_
      refine c_code ?_
      refine r_seq ?_
      refine r_region (id := 8) ?_
      refine o_give (g_assign (evv rfl)) rfl rfl ?_
      refine o_nil ?_
      refine c_code ?_
      rw [decide_eq_true he]
      first | refine r_ret (rs := [.tmp 4]) rfl rfl _ (Ent.refl _) ?_ | refine c_end (rs := [.tmp 4]) rfl rfl _ (Ent.refl _) ?_
      (refine ⟨?_, ?_⟩ <;> first | rfl | trivial | omega)
theorem SEqual_c (L : List Atom) (va vb : Value) (la lb : List (List UInt8)) [ra : Rd L va (mrow str 9 la)] [rb : Rd L vb (mrow str 9 lb)] :
    Fn Try.prog 32 [va, vb] L fun w L' => w = .bool (decide (la = lb)) ∧ L' = L := by
  refine fn_lenM ra fun hlen => ?_
  have hlen : la.length ≤ 2 ^ 63 - 1 := hlen
  refine fn_intro Try.func32 rfl Try.ntmps32 rfl (fun W0 => ?_)
  simp only [argE]
  refine r_seq ?_
  refine r_region (id := 0) ?_
  refine o_give (g_assign (evv rfl)) rfl rfl ?_
  refine o_nil ?_
  refine c_code ?_
  refine r_seq ?_
  refine r_seq ?_
  refine r_region (id := 1) ?_
  refine o_give (g_move (evv rfl)) rfl rfl ?_
  refine o_give (g_lenM (evv rfl)) rfl rfl ?_
  refine o_give (g_move (evv rfl)) rfl rfl ?_
  refine o_give (g_lenM (evv rfl)) rfl rfl ?_
  refine o_give (g_bin (evv rfl) (evv rfl) (by rfl)) rfl rfl ?_
  refine o_nil ?_
  refine c_code ?_
  refine r_cond rfl (fun hn => ?_) (fun hn => ?_) <;> (try simp only [decide_eq_true_eq, decide_eq_false_iff_not, Bool.and_eq_true, Bool.or_eq_true, Bool.not_eq_true', Bool.and_eq_false_iff, Bool.or_eq_false_iff, Bool.not_eq_false', Bool.not_eq_true, Bool.not_eq_false, Bool.true_eq_false, Bool.false_eq_true, Int.not_lt, Int.not_le, not_and, not_or, ne_eq] at hn)
  · have hne : ¬ la = lb := fun e => hn (by rw [e])
    refine r_seq ?_
    refine r_region (id := 2) ?_
    refine o_give (g_assign (evv rfl)) rfl rfl ?_
    refine o_nil ?_
    refine c_code ?_
    rw [decide_eq_false hne]
    first | refine r_ret (rs := [.tmp 4]) rfl rfl _ (Ent.refl _) ?_ | refine c_end (rs := [.tmp 4]) rfl rfl _ (Ent.refl _) ?_
    (refine ⟨?_, ?_⟩ <;> first | rfl | trivial | omega)
  · have hll : la.length = lb.length := by omega
    refine r_skip ?_
    refine c_code ?_
    refine r_seq ?_
    refine r_seq ?_
    refine r_region (id := 3) ?_
    refine o_give (g_move (evv rfl)) rfl rfl ?_
    refine o_give (g_lenM (evv rfl)) rfl rfl ?_
    refine o_give (g_move (evv rfl)) rfl rfl ?_
    refine o_nil ?_
    refine c_code ?_
    refine r_block ?_
    refine r_loopE (σ := Nat) (fun i => i ≤ la.length ∧ la.take i = lb.take i) (fun i => la.length - i) (fun i => [(13, .v (.int .i64 i))]) [0, 1, 12] (fun i => L) 0 (by dsimp only [pickE, pick1, lk2, Nat.reduceBEq, Nat.reduceAdd, Nat.zero_add, cond_true, cond_false] <;> exact rfl) ?_ (by repeat (first | exact trivial | refine ⟨rfl, ?_⟩ | refine envsub_v rfl (by first | rfl | (refine int_eq ?_; first | omega | (simp; omega) | (simp; done)) | (refine bool_eq ?_; first | (simp [*]; done) | (simp; done)) | (refine str_eq ?_; simp; done) | (refine ptr_eq ?_; omega) | fail) ?_)) ?_ ?_
    · exact ⟨Nat.zero_le _, rfl⟩
    · exact Ent.refl _
    rintro i ⟨hi, he⟩; dsimp only [List.cons_append, List.nil_append]
    refine r_seq ?_
    refine r_region (id := 4) ?_
    refine o_give (g_bin (evv rfl) (evv rfl) (by rfl)) rfl rfl ?_
    refine o_nil ?_
    refine c_code ?_
    refine r_seq ?_
    refine r_cond rfl (fun hc => ?_) (fun hc => ?_) <;> (try simp only [decide_eq_true_eq, decide_eq_false_iff_not, Bool.and_eq_true, Bool.or_eq_true, Bool.not_eq_true', Bool.and_eq_false_iff, Bool.or_eq_false_iff, Bool.not_eq_false', Bool.not_eq_true, Bool.not_eq_false, Bool.true_eq_false, Bool.false_eq_true, Int.not_lt, Int.not_le, not_and, not_or, ne_eq] at hc)
    · have h1 : i < la.length := by omega
      have h2 : i < lb.length := by omega
      refine r_skip ?_
      refine c_code ?_
      refine r_seq ?_
      refine r_block ?_
      refine r_seq ?_
      refine r_region (id := 5) ?_
      refine o_give (g_move (evv rfl)) rfl rfl ?_
      refine o_give (g_assign (evv rfl)) rfl rfl ?_
      refine o_nil ?_
      refine c_code ?_
      refine r_seq ?_
      refine r_quiet (id := 6) Mixed.h (by kernel_rfl) ?_
      refine q_give (g_move (evv rfl)) rfl rfl ?_
      refine q_give (g_move (evv rfl)) rfl rfl ?_
      refine q_give (g_idxMN (evv rfl) (evv rfl) (by rfl) (by first | omega | (have := of_decide_eq_true hg; omega) | (simp at hg; omega) | (simp only [List.length_set, List.length_append, List.length_cons, List.length_nil, List.length_map, List.length_take, List.length_drop, List.length_replicate]; omega))) rfl rfl ?_
      refine q_give (g_loadM (evv rfl) (by rfl) (by first | omega | (have := of_decide_eq_true hg; omega) | (simp at hg; omega) | (simp only [List.length_set, List.length_append, List.length_cons, List.length_nil, List.length_map, List.length_take, List.length_drop, List.length_replicate]; omega))) rfl rfl ?_
      refine q_give (g_move (evv rfl)) rfl rfl ?_
      refine q_give (g_move (evv rfl)) rfl rfl ?_
      refine q_give (g_idxMN (evv rfl) (evv rfl) (by rfl) (by first | omega | (have := of_decide_eq_true hg; omega) | (simp at hg; omega) | (simp only [List.length_set, List.length_append, List.length_cons, List.length_nil, List.length_map, List.length_take, List.length_drop, List.length_replicate]; omega))) rfl rfl ?_
      refine q_give (g_loadM (evv rfl) (by rfl) (by first | omega | (have := of_decide_eq_true hg; omega) | (simp at hg; omega) | (simp only [List.length_set, List.length_append, List.length_cons, List.length_nil, List.length_map, List.length_take, List.length_drop, List.length_replicate]; omega))) rfl rfl ?_
      refine q_give (g_binS (evv rfl) (evv rfl) (by rfl)) rfl rfl ?_
      refine q_nil ?_
      refine c_code ?_
      refine r_cond rfl (fun hne => ?_) (fun hne => ?_) <;> (try simp only [decide_eq_true_eq, decide_eq_false_iff_not, Bool.and_eq_true, Bool.or_eq_true, Bool.not_eq_true', Bool.and_eq_false_iff, Bool.or_eq_false_iff, Bool.not_eq_false', Bool.not_eq_true, Bool.not_eq_false, Bool.true_eq_false, Bool.false_eq_true, Int.not_lt, Int.not_le, not_and, not_or, ne_eq] at hne)
      · have hx : ¬ la = lb := fun e => hne (by rw [e])
        refine r_seq ?_
        refine r_region (id := 7) ?_
        refine o_give (g_assign (evv rfl)) rfl rfl ?_
        refine o_nil ?_
        refine c_code ?_
        rw [decide_eq_false hx]
        first | refine r_ret (rs := [.tmp 4]) rfl rfl _ (Ent.refl _) ?_ | refine c_end (rs := [.tmp 4]) rfl rfl _ (Ent.refl _) ?_
        (refine ⟨?_, ?_⟩ <;> first | rfl | trivial | omega)
      · have he2 : la.take (i + 1) = lb.take (i + 1) := by
          have hne : la[i] = lb[i] := by simpa [List.getD_eq_getElem?_getD, h1, h2] using hne
          rw [List.take_succ_eq_append_getElem h1, List.take_succ_eq_append_getElem h2, he, hne]
        refine r_skip ?_
        refine c_blk ?_
        refine c_code ?_
        refine r_region (id := 8) ?_
        refine o_giveN (g_bin (evv rfl) (evv rfl) (by rfl)) (by simp only [inR]; omega) rfl ?_
        refine o_give (g_move (evv rfl)) rfl rfl ?_
        refine o_nil ?_
        refine c_loop (i + 1) ?_ ?_ (by repeat (first | exact trivial | refine ⟨rfl, ?_⟩ | refine envsub_v rfl (by first | rfl | (refine int_eq ?_; first | omega | (simp; omega) | (simp; done)) | (refine bool_eq ?_; first | (simp [*]; done) | (simp; done)) | (refine str_eq ?_; simp; done) | (refine ptr_eq ?_; omega) | fail) ?_)) ?_ <;> (try dsimp only)
        · exact ⟨by omega, he2⟩
        · omega
        · exact Ent.refl _
    · rw [List.take_of_length_le (by omega), List.take_of_length_le (by omega)] at he
      refine r_exit rfl ?_
      refine c_code ?_
      refine r_seq ?_
      refine r_region (id := 9) ?_
      refine o_give (g_assign (evv rfl)) rfl rfl ?_
      refine o_nil ?_
      refine c_code ?_
      rw [decide_eq_true he]
      first | refine r_ret (rs := [.tmp 4]) rfl rfl _ (Ent.refl _) ?_ | refine c_end (rs := [.tmp 4]) rfl rfl _ (Ent.refl _) ?_
      (refine ⟨?_, ?_⟩ <;> first | rfl | trivial | omega)
theorem take_all {P : List UInt8 → Prop} {l : List (List UInt8)} {i : Nat} (h : i < l.length) (h1 : ∀ c ∈ l.take i, P c) (h2 : P (l.getD i default)) : ∀ c ∈ l.take (i + 1), P c := fun c hc => by
  rw [List.take_succ_eq_append_getElem h] at hc
  rcases List.mem_append.1 hc with hc | hc
  · exact h1 c hc
  · rw [List.mem_singleton.1 hc]
    simpa [List.getD_eq_getElem?_getD, h] using h2
theorem RCheck_c (L : List Atom) (va : Value) (la : List (List UInt8)) [ra : Rd L va (mrow str 9 la)] (hs : ∀ s ∈ la, s.length ≤ 9223372036854775807) :
    Fn Try.prog 17 [va] L fun w L' => w = .int .i64 (checkN la) ∧ L' = L := by
  refine fn_lenM ra fun hlen => ?_
  have hlen : la.length ≤ 2 ^ 63 - 1 := hlen
  refine fn_intro Try.func17 rfl Try.ntmps17 rfl (fun W0 => ?_)
  simp only [argE]
  refine r_seq ?_
  refine r_region (id := 0) ?_
  refine o_give (g_assign (evv rfl)) rfl rfl ?_
  refine o_nil ?_
  refine c_code ?_
  refine r_seq ?_
  refine r_seq ?_
  refine r_region (id := 1) ?_
  refine o_give (g_assign (evv rfl)) rfl rfl ?_
  refine o_nil ?_
  refine c_code ?_
  refine r_block ?_
  refine r_loopE (σ := Nat) (fun i => i ≤ la.length ∧ ∀ s ∈ la.take i, nameP s) (fun i => la.length - i) (fun i => [(3, .v (.int .i64 i))]) [0] (fun i => L) 0 (by dsimp only [pickE, pick1, lk2, Nat.reduceBEq, Nat.reduceAdd, Nat.zero_add, cond_true, cond_false] <;> exact rfl) ?_ (by repeat (first | exact trivial | refine ⟨rfl, ?_⟩ | refine envsub_v rfl (by first | rfl | (refine int_eq ?_; first | omega | (simp; omega) | (simp; done)) | (refine bool_eq ?_; first | (simp [*]; done) | (simp; done)) | (refine str_eq ?_; simp; done) | (refine ptr_eq ?_; omega) | fail) ?_)) ?_ ?_
  · exact ⟨Nat.zero_le _, by simp⟩
  · exact Ent.refl _
  rintro i ⟨hi, he⟩; dsimp only [List.cons_append, List.nil_append]
  refine r_seq ?_
  refine r_seq ?_
  refine r_region (id := 2) ?_
  refine o_give (g_move (evv rfl)) rfl rfl ?_
  refine o_give (g_move (evv rfl)) rfl rfl ?_
  refine o_give (g_lenM (evv rfl)) rfl rfl ?_
  refine o_give (g_bin (evv rfl) (evv rfl) (by rfl)) rfl rfl ?_
  refine o_nil ?_
  refine c_code ?_
  refine r_cond rfl (fun hc => ?_) (fun hc => ?_) <;> (try simp only [decide_eq_true_eq, decide_eq_false_iff_not, Bool.and_eq_true, Bool.or_eq_true, Bool.not_eq_true', Bool.and_eq_false_iff, Bool.or_eq_false_iff, Bool.not_eq_false', Bool.not_eq_true, Bool.not_eq_false, Bool.true_eq_false, Bool.false_eq_true, Int.not_lt, Int.not_le, not_and, not_or, ne_eq] at hc)
  · have h1 : i < la.length := by omega
    have hsl := hs (la.getD i default) (by simp [h1])
    refine r_skip ?_
    refine c_code ?_
    refine r_seq ?_
    refine r_block ?_
    refine r_seq ?_
    refine r_region (id := 4) ?_
    refine o_give (g_move (evv rfl)) rfl rfl ?_
    refine o_give (g_move (evv rfl)) rfl rfl ?_
    refine o_give (g_idxMN (evv rfl) (evv rfl) (by rfl) (by first | omega | (have := of_decide_eq_true hg; omega) | (simp at hg; omega) | (simp only [List.length_set, List.length_append, List.length_cons, List.length_nil, List.length_map, List.length_take, List.length_drop, List.length_replicate]; omega))) rfl rfl ?_
    refine o_give (g_loadM (evv rfl) (by rfl) (by first | omega | (have := of_decide_eq_true hg; omega) | (simp at hg; omega) | (simp only [List.length_set, List.length_append, List.length_cons, List.length_nil, List.length_map, List.length_take, List.length_drop, List.length_replicate]; omega))) rfl rfl ?_
    (refine o_call rfl _ (Ent.refl _) (Name_c _ _ (by first | assumption | omega)) rfl ?_; rintro _ _ ⟨rfl, hLz⟩; obtain rfl := hLz.symm; clear hLz)
    refine o_give (g_not (evv rfl)) rfl rfl ?_
    refine o_nil ?_
    refine c_code ?_
    refine r_cond rfl (fun hne => ?_) (fun hne => ?_) <;> (try simp only [decide_eq_true_eq, decide_eq_false_iff_not, Bool.and_eq_true, Bool.or_eq_true, Bool.not_eq_true', Bool.and_eq_false_iff, Bool.or_eq_false_iff, Bool.not_eq_false', Bool.not_eq_true, Bool.not_eq_false, Bool.true_eq_false, Bool.false_eq_true, Int.not_lt, Int.not_le, not_and, not_or, ne_eq] at hne)
    · have hx : ¬ ∀ s ∈ la, nameP s := fun e => hne (e _ (by simp [h1]))
      refine r_seq ?_
      refine r_region (id := 5) ?_
      refine o_give (g_assign (evv rfl)) rfl rfl ?_
      refine o_nil ?_
      refine c_code ?_
      rw [show checkN la = 41 from if_neg hx]
      first | refine r_ret (rs := [.tmp 2]) rfl rfl _ (Ent.refl _) ?_ | refine c_end (rs := [.tmp 2]) rfl rfl _ (Ent.refl _) ?_
      (refine ⟨?_, ?_⟩ <;> first | rfl | trivial | omega)
    · have he2 := take_all h1 he (by first | exact hne | exact Decidable.of_not_not hne)
      refine r_skip ?_
      refine c_blk ?_
      refine c_code ?_
      refine r_region (id := 3) ?_
      refine o_give (g_move (evv rfl)) rfl rfl ?_
      refine o_giveN (g_bin (evv rfl) (evv rfl) (by rfl)) (by simp only [inR]; omega) rfl ?_
      refine o_give (g_assign (evv rfl)) rfl rfl ?_
      refine o_nil ?_
      refine c_loop (i + 1) ?_ ?_ (by repeat (first | exact trivial | refine ⟨rfl, ?_⟩ | refine envsub_v rfl (by first | rfl | (refine int_eq ?_; first | omega | (simp; omega) | (simp; done)) | (refine bool_eq ?_; first | (simp [*]; done) | (simp; done)) | (refine str_eq ?_; simp; done) | (refine ptr_eq ?_; omega) | fail) ?_)) ?_ <;> (try dsimp only)
      · exact ⟨by omega, he2⟩
      · omega
      · exact Ent.refl _
  · rw [List.take_of_length_le (by omega)] at he
    refine r_exit rfl ?_
    refine c_code ?_
    refine r_seq ?_
    refine r_seq ?_
    refine r_region (id := 6) ?_
    refine o_give (g_move (evv rfl)) rfl rfl ?_
    refine o_give (g_lenM (evv rfl)) rfl rfl ?_
    refine o_give (g_bin (evv rfl) (evv rfl) (by rfl)) rfl rfl ?_
    refine o_nil ?_
    refine c_code ?_
    refine r_cond rfl (fun h8 => ?_) (fun h8 => ?_) <;> (try simp only [decide_eq_true_eq, decide_eq_false_iff_not, Bool.and_eq_true, Bool.or_eq_true, Bool.not_eq_true', Bool.and_eq_false_iff, Bool.or_eq_false_iff, Bool.not_eq_false', Bool.not_eq_true, Bool.not_eq_false, Bool.true_eq_false, Bool.false_eq_true, Int.not_lt, Int.not_le, not_and, not_or, ne_eq] at h8)
    · rw [show checkN la = 42 from (if_pos he).trans (if_pos (by omega))]
      refine r_seq ?_
      refine r_region (id := 7) ?_
      refine o_give (g_assign (evv rfl)) rfl rfl ?_
      refine o_nil ?_
      refine c_code ?_
      first | refine r_ret (rs := [.tmp 2]) rfl rfl _ (Ent.refl _) ?_ | refine c_end (rs := [.tmp 2]) rfl rfl _ (Ent.refl _) ?_
      (refine ⟨?_, ?_⟩ <;> first | rfl | trivial | omega)
    · rw [show checkN la = 0 from (if_pos he).trans (if_neg (by omega))]
      refine r_skip ?_
      refine c_code ?_
      refine r_seq ?_
      refine r_region (id := 8) ?_
      refine o_give (g_assign (evv rfl)) rfl rfl ?_
      refine o_nil ?_
      refine c_code ?_
      first | refine r_ret (rs := [.tmp 2]) rfl rfl _ (Ent.refl _) ?_ | refine c_end (rs := [.tmp 2]) rfl rfl _ (Ent.refl _) ?_
      (refine ⟨?_, ?_⟩ <;> first | rfl | trivial | omega)
/-- a slice's copy -/
theorem SClone_c (L : List Atom) (va : Value) (la : List (List UInt8)) [ra : Rd L va (mrow str 9 la)] (hl : la.length ≤ 1048576) :
    Fn Try.prog 29 [va] L fun w L' => L' = sl w (mrow str 9 la) :: L := by
  refine fn_intro Try.func29 rfl Try.ntmps29 rfl (fun W0 => ?_)
  simp only [argE]
  refine r_seq ?_
  refine r_region (id := 0) ?_
  refine o_give (g_assign (evv rfl)) rfl rfl ?_
  refine o_nil ?_
  refine c_code ?_
  refine r_seq ?_
  refine r_seq ?_
  refine r_region (id := 1) ?_
  refine o_give (g_move (evv rfl)) rfl rfl ?_
  refine o_give (g_snil (evv rfl) (evv rfl) (by rfl)) rfl rfl ?_
  refine o_nil ?_
  refine c_code ?_
  refine r_cond rfl (fun h0 => ?_) (fun h0 => ?_) <;> (try simp only [decide_eq_true_eq, decide_eq_false_iff_not, Bool.and_eq_true, Bool.or_eq_true, Bool.not_eq_true', Bool.and_eq_false_iff, Bool.or_eq_false_iff, Bool.not_eq_false', Bool.not_eq_true, Bool.not_eq_false, Bool.true_eq_false, Bool.false_eq_true, Int.not_lt, Int.not_le, not_and, not_or, ne_eq] at h0)
  · refine r_isnil ra h0 fun e => ?_
    subst e
    refine r_seq ?_
    refine r_region (id := 2) ?_
    refine o_give (g_assign (evv rfl)) rfl rfl ?_
    refine o_nil ?_
    refine c_code ?_
    first | refine r_ret (rs := [.tmp 2]) rfl rfl _ ((Ent.nilM str 9)) ?_ | refine c_end (rs := [.tmp 2]) rfl rfl _ ((Ent.nilM str 9)) ?_
    rfl
  · refine r_skip ?_
    refine c_code ?_
    refine r_seq ?_
    refine r_region (id := 3) ?_
    refine o_lit0 str (by rfl) rfl (fun _ => ?_)
    refine o_give (g_move (evv rfl)) rfl rfl ?_
    refine o_appM (evv rfl) (evv rfl) (by rfl) (by rfl) (by rfl) (by (try simp only [bsOf, List.length_append, List.length_cons, List.length_nil, List.length_take, List.length_drop]); omega) rfl (fun _ => ?_)
    refine o_give (g_assign (evv rfl)) rfl rfl ?_
    refine o_nil ?_
    refine c_code ?_
    first | refine r_ret (rs := [.tmp 2]) rfl rfl _ (Ent.refl _) ?_ | refine c_end (rs := [.tmp 2]) rfl rfl _ (Ent.refl _) ?_
    rfl
theorem Split_c (L : List Atom) (va : Value) (la : List (List UInt8)) [ra : Rd L va (mrow str 9 la)] (hs : ∀ s ∈ la, s.length ≤ 9223372036854775807) :
    Fn Try.prog 16 [va] L fun w L' => ∃ v, w = .tuple #[v, str (if checkN la = 0 then la.getLastD [] else []), .int .i64 (if checkN la ≠ 0 then checkN la else if la = [] then 132 else 0)] ∧ L' = sl v (mrow str 9 (if checkN la = 0 then la.dropLast else [])) :: L := by
  refine fn_intro Try.func16 rfl Try.ntmps16 rfl (fun W0 => ?_)
  simp only [argE]
  refine r_seq ?_
  refine r_region (id := 0) ?_
  refine o_give (g_assign (evv rfl)) rfl rfl ?_
  refine o_give (g_assign (evv rfl)) rfl rfl ?_
  refine o_give (g_assign (evv rfl)) rfl rfl ?_
  refine o_nil ?_
  refine c_code ?_
  refine r_seq ?_
  refine r_seq ?_
  refine r_region (id := 1) ?_
  refine o_give (g_move (evv rfl)) rfl rfl ?_
  (refine o_call rfl _ (Ent.refl _) (Check_n _ _ _ (by first | assumption | (simp only [List.mem_singleton, forall_eq]; first | assumption | omega))) rfl ?_; rintro _ _ ⟨rfl, hLz⟩; obtain rfl := hLz.symm; clear hLz)
  refine o_give (g_assign (evv rfl)) rfl rfl ?_
  refine o_nil ?_
  refine c_code ?_
  refine r_seq ?_
  refine r_region (id := 2) ?_
  refine o_give (g_move (evv rfl)) rfl rfl ?_
  refine o_give (g_bin (evv rfl) (evv rfl) (by rfl)) rfl rfl ?_
  refine o_nil ?_
  refine c_code ?_
  refine r_cond rfl (fun h0 => ?_) (fun h0 => ?_) <;> (try simp only [decide_eq_true_eq, decide_eq_false_iff_not, Bool.and_eq_true, Bool.or_eq_true, Bool.not_eq_true', Bool.and_eq_false_iff, Bool.or_eq_false_iff, Bool.not_eq_false', Bool.not_eq_true, Bool.not_eq_false, Bool.true_eq_false, Bool.false_eq_true, Int.not_lt, Int.not_le, not_and, not_or, ne_eq] at h0)
  · rw [if_neg h0, if_pos h0, if_neg h0]
    refine r_seq ?_
    refine r_region (id := 3) ?_
    refine o_give (g_move (evv rfl)) rfl rfl ?_
    refine o_give (g_assign (evv rfl)) rfl rfl ?_
    refine o_give (g_assign (evv rfl)) rfl rfl ?_
    refine o_give (g_assign (evv rfl)) rfl rfl ?_
    refine o_nil ?_
    refine c_code ?_
    first | refine r_ret (rs := [.tmp 2, .tmp 3, .tmp 4]) rfl rfl _ ((Ent.nilM str 9)) ?_ | refine c_end (rs := [.tmp 2, .tmp 3, .tmp 4]) rfl rfl _ ((Ent.nilM str 9)) ?_
    exact ⟨_, rfl, rfl⟩
  · rw [if_pos h0, if_neg (fun h => h h0), if_pos h0]
    have hl8 : la.length ≤ 8 := by
      unfold checkN at h0
      split at h0
      · split at h0
        · cases h0
        · omega
      · cases h0
    refine r_skip ?_
    refine c_code ?_
    refine r_seq ?_
    refine r_region (id := 4) ?_
    refine o_give (g_move (evv rfl)) rfl rfl ?_
    refine o_give (g_lenM (evv rfl)) rfl rfl ?_
    refine o_giveN (g_bin (evv rfl) (evv rfl) (by rfl)) (by simp only [inR]; omega) rfl ?_
    refine o_give (g_assign (evv rfl)) rfl rfl ?_
    refine o_nil ?_
    refine c_code ?_
    refine r_seq ?_
    refine r_seq ?_
    refine r_region (id := 5) ?_
    refine o_give (g_move (evv rfl)) rfl rfl ?_
    refine o_give (g_bin (evv rfl) (evv rfl) (by rfl)) rfl rfl ?_
    refine o_nil ?_
    refine c_code ?_
    refine r_cond rfl (fun h1 => ?_) (fun h1 => ?_) <;> (try simp only [decide_eq_true_eq, decide_eq_false_iff_not, Bool.and_eq_true, Bool.or_eq_true, Bool.not_eq_true', Bool.and_eq_false_iff, Bool.or_eq_false_iff, Bool.not_eq_false', Bool.not_eq_true, Bool.not_eq_false, Bool.true_eq_false, Bool.false_eq_true, Int.not_lt, Int.not_le, not_and, not_or, ne_eq] at h1)
    · have : la = [] := List.eq_nil_of_length_eq_zero (by omega)
      subst this
      refine r_seq ?_
      refine r_region (id := 6) ?_
      refine o_give (g_assign (evv rfl)) rfl rfl ?_
      refine o_give (g_assign (evv rfl)) rfl rfl ?_
      refine o_give (g_assign (evv rfl)) rfl rfl ?_
      refine o_nil ?_
      refine c_code ?_
      first | refine r_ret (rs := [.tmp 2, .tmp 3, .tmp 4]) rfl rfl _ ((Ent.nilM str 9)) ?_ | refine c_end (rs := [.tmp 2, .tmp 3, .tmp 4]) rfl rfl _ ((Ent.nilM str 9)) ?_
      exact ⟨_, rfl, rfl⟩
    · have hne : la ≠ [] := fun h => by rw [h] at h1; simp at h1
      rw [if_neg hne]
      repeat (first | refine r_seq ?_ | refine c_code ?_ | refine c_blk ?_ | refine r_block ?_ | refine r_skip ?_)
      refine r_held (id := 7) (L) Mixed.h ?_
      refine h_give (i := 0) (by kernel_rfl) rfl (g_move (evv rfl)) rfl rfl ?_
      refine h_give (i := 1) (by kernel_rfl) rfl (g_move (evv rfl)) rfl rfl ?_
      refine h_give (i := 2) (by kernel_rfl) rfl (g_subM (evv rfl) _ _ bnd_none (bnd_to (evv rfl) (by omega)) (by rfl) (by omega) (by omega)) rfl rfl ?_
      refine h_give (i := 4) (by kernel_rfl) rfl (g_move (evv rfl)) rfl rfl ?_
      refine h_give (i := 5) (by kernel_rfl) rfl (g_move (evv rfl)) rfl rfl ?_
      refine h_give (i := 6) (by kernel_rfl) rfl (g_idxM (evv rfl) (evv rfl) (by rfl) (by omega) (by first | omega | (have := of_decide_eq_true hg; omega) | (simp at hg; omega) | (simp only [List.length_set, List.length_append, List.length_cons, List.length_nil, List.length_map, List.length_take, List.length_drop, List.length_replicate]; omega))) rfl rfl ?_
      refine h_give (i := 7) (by kernel_rfl) rfl (g_loadM (evv rfl) (by rfl) (by first | omega | (have := of_decide_eq_true hg; omega) | (simp at hg; omega) | (simp only [List.length_set, List.length_append, List.length_cons, List.length_nil, List.length_map, List.length_take, List.length_drop, List.length_replicate]; omega))) rfl rfl ?_
      refine h_one (i := 3) (by kernel_rfl) rfl (Lay.ent) ?_
      (refine o_call rfl _ (Ent.refl _) (SClone_c _ _ _ (by first | assumption | (simp only [List.length_take]; omega))) rfl ?_; rintro _ _ rfl)
      refine o_nil ?_
      refine h_give (i := 8) (by kernel_rfl) rfl (g_assign (evv rfl)) rfl rfl ?_
      refine h_give (i := 9) (by kernel_rfl) rfl (g_assign (evv rfl)) rfl rfl ?_
      refine h_give (i := 10) (by kernel_rfl) rfl (g_assign (evv rfl)) rfl rfl ?_
      refine h_done (by kernel_rfl) (Lay.ent) ?_
      refine c_code ?_
      have e1 : List.take (((la.length : Int) - 1).toNat - 0) (List.drop 0 la) = la.dropLast := by
        rw [List.drop_zero, List.dropLast_eq_take, show ((la.length : Int) - 1).toNat - 0 = la.length - 1 by omega]
      have e2 : la.getD ((la.length : Int) - 1).toNat default = la.getLastD [] := by
        rw [show ((la.length : Int) - 1).toNat = la.length - 1 by omega, List.getLastD_eq_getLast?, List.getLast?_eq_getElem?, List.getD_eq_getElem?_getD]
        rfl
      rw [e1, e2]
      first | refine r_ret (rs := [.tmp 2, .tmp 3, .tmp 4]) rfl rfl _ (Ent.refl _) ?_ | refine c_end (rs := [.tmp 2, .tmp 3, .tmp 4]) rfl rfl _ (Ent.refl _) ?_
      exact ⟨_, rfl, rfl⟩
/-- is a path within another one? -/
theorem RWithin_c (L : List Atom) (va vb : Value) (la lb : List (List UInt8)) [ra : Rd L va (mrow str 9 la)] [rb : Rd L vb (mrow str 9 lb)] :
    Fn Try.prog 21 [va, vb] L fun w L' => w = .bool (decide (lb <+: la)) ∧ L' = L := by
  refine fn_lenM rb fun hlen => ?_
  have hlen : lb.length ≤ 2 ^ 63 - 1 := hlen
  refine fn_intro Try.func21 rfl Try.ntmps21 rfl (fun W0 => ?_)
  simp only [argE]
  refine r_seq ?_
  refine r_region (id := 0) ?_
  refine o_give (g_assign (evv rfl)) rfl rfl ?_
  refine o_nil ?_
  refine c_code ?_
  refine r_seq ?_
  refine r_seq ?_
  refine r_region (id := 1) ?_
  refine o_give (g_move (evv rfl)) rfl rfl ?_
  refine o_give (g_lenM (evv rfl)) rfl rfl ?_
  refine o_give (g_move (evv rfl)) rfl rfl ?_
  refine o_give (g_lenM (evv rfl)) rfl rfl ?_
  refine o_give (g_bin (evv rfl) (evv rfl) (by rfl)) rfl rfl ?_
  refine o_nil ?_
  refine c_code ?_
  refine r_cond rfl (fun hn => ?_) (fun hn => ?_) <;> (try simp only [decide_eq_true_eq, decide_eq_false_iff_not, Bool.and_eq_true, Bool.or_eq_true, Bool.not_eq_true', Bool.and_eq_false_iff, Bool.or_eq_false_iff, Bool.not_eq_false', Bool.not_eq_true, Bool.not_eq_false, Bool.true_eq_false, Bool.false_eq_true, Int.not_lt, Int.not_le, not_and, not_or, ne_eq] at hn)
  · have hne : ¬ lb <+: la := fun e => by have := e.length_le; omega
    refine r_seq ?_
    refine r_region (id := 2) ?_
    refine o_give (g_assign (evv rfl)) rfl rfl ?_
    refine o_nil ?_
    refine c_code ?_
    rw [decide_eq_false hne]
    first | refine r_ret (rs := [.tmp 4]) rfl rfl _ (Ent.refl _) ?_ | refine c_end (rs := [.tmp 4]) rfl rfl _ (Ent.refl _) ?_
    (refine ⟨?_, ?_⟩ <;> first | rfl | trivial | omega)
  · refine r_skip ?_
    refine c_code ?_
    refine r_seq ?_
    refine r_seq ?_
    refine r_region (id := 3) ?_
    refine o_give (g_assign (evv rfl)) rfl rfl ?_
    refine o_nil ?_
    refine c_code ?_
    refine r_block ?_
    refine r_loopE (σ := Nat) (fun i => i ≤ lb.length ∧ la.take i = lb.take i) (fun i => lb.length - i) (fun i => [(5, .v (.int .i64 i))]) [0, 1] (fun i => L) 0 (by dsimp only [pickE, pick1, lk2, Nat.reduceBEq, Nat.reduceAdd, Nat.zero_add, cond_true, cond_false] <;> exact rfl) ?_ (by repeat (first | exact trivial | refine ⟨rfl, ?_⟩ | refine envsub_v rfl (by first | rfl | (refine int_eq ?_; first | omega | (simp; omega) | (simp; done)) | (refine bool_eq ?_; first | (simp [*]; done) | (simp; done)) | (refine str_eq ?_; simp; done) | (refine ptr_eq ?_; omega) | fail) ?_)) ?_ ?_
    · exact ⟨Nat.zero_le _, rfl⟩
    · exact Ent.refl _
    rintro i ⟨hi, he⟩; dsimp only [List.cons_append, List.nil_append]
    refine r_seq ?_
    refine r_seq ?_
    refine r_region (id := 4) ?_
    refine o_give (g_move (evv rfl)) rfl rfl ?_
    refine o_give (g_move (evv rfl)) rfl rfl ?_
    refine o_give (g_lenM (evv rfl)) rfl rfl ?_
    refine o_give (g_bin (evv rfl) (evv rfl) (by rfl)) rfl rfl ?_
    refine o_nil ?_
    refine c_code ?_
    refine r_cond rfl (fun hc => ?_) (fun hc => ?_) <;> (try simp only [decide_eq_true_eq, decide_eq_false_iff_not, Bool.and_eq_true, Bool.or_eq_true, Bool.not_eq_true', Bool.and_eq_false_iff, Bool.or_eq_false_iff, Bool.not_eq_false', Bool.not_eq_true, Bool.not_eq_false, Bool.true_eq_false, Bool.false_eq_true, Int.not_lt, Int.not_le, not_and, not_or, ne_eq] at hc)
    · have h1 : i < lb.length := by omega
      have h2 : i < la.length := by omega
      refine r_skip ?_
      refine c_code ?_
      refine r_seq ?_
      refine r_block ?_
      refine r_seq ?_
      refine r_quiet (id := 6) Mixed.h (by kernel_rfl) ?_
      refine q_give (g_move (evv rfl)) rfl rfl ?_
      refine q_give (g_move (evv rfl)) rfl rfl ?_
      refine q_give (g_idxMN (evv rfl) (evv rfl) (by rfl) (by first | omega | (have := of_decide_eq_true hg; omega) | (simp at hg; omega) | (simp only [List.length_set, List.length_append, List.length_cons, List.length_nil, List.length_map, List.length_take, List.length_drop, List.length_replicate]; omega))) rfl rfl ?_
      refine q_give (g_loadM (evv rfl) (by rfl) (by first | omega | (have := of_decide_eq_true hg; omega) | (simp at hg; omega) | (simp only [List.length_set, List.length_append, List.length_cons, List.length_nil, List.length_map, List.length_take, List.length_drop, List.length_replicate]; omega))) rfl rfl ?_
      refine q_give (g_move (evv rfl)) rfl rfl ?_
      refine q_give (g_move (evv rfl)) rfl rfl ?_
      refine q_give (g_idxMN (evv rfl) (evv rfl) (by rfl) (by first | omega | (have := of_decide_eq_true hg; omega) | (simp at hg; omega) | (simp only [List.length_set, List.length_append, List.length_cons, List.length_nil, List.length_map, List.length_take, List.length_drop, List.length_replicate]; omega))) rfl rfl ?_
      refine q_give (g_loadM (evv rfl) (by rfl) (by first | omega | (have := of_decide_eq_true hg; omega) | (simp at hg; omega) | (simp only [List.length_set, List.length_append, List.length_cons, List.length_nil, List.length_map, List.length_take, List.length_drop, List.length_replicate]; omega))) rfl rfl ?_
      refine q_give (g_binS (evv rfl) (evv rfl) (by rfl)) rfl rfl ?_
      refine q_nil ?_
      refine c_code ?_
      refine r_cond rfl (fun hne => ?_) (fun hne => ?_) <;> (try simp only [decide_eq_true_eq, decide_eq_false_iff_not, Bool.and_eq_true, Bool.or_eq_true, Bool.not_eq_true', Bool.and_eq_false_iff, Bool.or_eq_false_iff, Bool.not_eq_false', Bool.not_eq_true, Bool.not_eq_false, Bool.true_eq_false, Bool.false_eq_true, Int.not_lt, Int.not_le, not_and, not_or, ne_eq] at hne)
      · have hx : ¬ lb <+: la := fun e => hne (by
          obtain ⟨t, rfl⟩ := e
          simp [List.getD_eq_getElem?_getD, List.getElem?_append_left h1])
        refine r_seq ?_
        refine r_region (id := 7) ?_
        refine o_give (g_assign (evv rfl)) rfl rfl ?_
        refine o_nil ?_
        refine c_code ?_
        rw [decide_eq_false hx]
        first | refine r_ret (rs := [.tmp 4]) rfl rfl _ (Ent.refl _) ?_ | refine c_end (rs := [.tmp 4]) rfl rfl _ (Ent.refl _) ?_
        (refine ⟨?_, ?_⟩ <;> first | rfl | trivial | omega)
      · have he2 : la.take (i + 1) = lb.take (i + 1) := by
          have hne : la[i] = lb[i] := by simpa [List.getD_eq_getElem?_getD, h1, h2] using hne
          rw [List.take_succ_eq_append_getElem h1, List.take_succ_eq_append_getElem h2, he, hne]
        refine r_skip ?_
        refine c_blk ?_
        refine c_code ?_
        refine r_region (id := 5) ?_
        refine o_give (g_move (evv rfl)) rfl rfl ?_
        refine o_giveN (g_bin (evv rfl) (evv rfl) (by rfl)) (by simp only [inR]; omega) rfl ?_
        refine o_give (g_assign (evv rfl)) rfl rfl ?_
        refine o_nil ?_
        refine c_loop (i + 1) ?_ ?_ (by repeat (first | exact trivial | refine ⟨rfl, ?_⟩ | refine envsub_v rfl (by first | rfl | (refine int_eq ?_; first | omega | (simp; omega) | (simp; done)) | (refine bool_eq ?_; first | (simp [*]; done) | (simp; done)) | (refine str_eq ?_; simp; done) | (refine ptr_eq ?_; omega) | fail) ?_)) ?_ <;> (try dsimp only)
        · exact ⟨by omega, he2⟩
        · omega
        · exact Ent.refl _
    · rw [List.take_of_length_le (l := lb) (by omega)] at he
      refine r_exit rfl ?_
      refine c_code ?_
      refine r_seq ?_
      refine r_region (id := 8) ?_
      refine o_give (g_assign (evv rfl)) rfl rfl ?_
      refine o_nil ?_
      refine c_code ?_
      rw [decide_eq_true (show lb <+: la from he ▸ List.take_prefix _ _)]
      first | refine r_ret (rs := [.tmp 4]) rfl rfl _ (Ent.refl _) ?_ | refine c_end (rs := [.tmp 4]) rfl rfl _ (Ent.refl _) ?_
      (refine ⟨?_, ?_⟩ <;> first | rfl | trivial | omega)
theorem Within_c (L : List Atom) (va vb : Value) (la lb : List (List UInt8)) [ra : Rd L va (mrow str 9 la)] [rb : Rd L vb (mrow str 9 lb)] :
    Fn Try.prog 20 [va, vb] L fun w L' => w = .bool (decide (lb <+: la)) ∧ L' = L := by
  refine fn_lenM ra fun hlen => ?_
  have hlen : la.length ≤ 2 ^ 63 - 1 := hlen
  refine fn_intro Try.func20 rfl Try.ntmps20 rfl (fun W0 => ?_)
  simp only [argE]
  refine r_seq ?_
  refine r_region (id := 0) ?_
  refine o_give (g_assign (evv rfl)) rfl rfl ?_
  refine o_nil ?_
  refine c_code ?_
  refine r_seq ?_
  refine r_region (id := 1) ?_
  refine o_give (g_move (evv rfl)) rfl rfl ?_
  refine o_give (g_lenM (evv rfl)) rfl rfl ?_
  refine o_give (g_move (evv rfl)) rfl rfl ?_
  refine o_give (g_lenM (evv rfl)) rfl rfl ?_
  refine o_give (g_bin (evv rfl) (evv rfl) (by rfl)) rfl rfl ?_
  refine o_give (g_move (evv rfl)) rfl rfl ?_
  refine o_lazy rfl (fun hg => g_move (by first | exact evv rfl | exact evg rfl (by rw [hp]; rfl) | exact evg rfl hp | exact evg rfl hg | exact evg rfl (by first | (simp_all; done) | (simp [*]; done) | fail) | fail)) rfl rfl ?_
  refine o_lazy rfl (fun hg => g_move (by first | exact evv rfl | exact evg rfl (by rw [hp]; rfl) | exact evg rfl hp | exact evg rfl hg | exact evg rfl (by first | (simp_all; done) | (simp [*]; done) | fail) | fail)) rfl rfl ?_
  refine o_lazy rfl (fun hg => g_lenM (by first | exact evv rfl | exact evg rfl (by rw [hp]; rfl) | exact evg rfl hp | exact evg rfl hg | exact evg rfl (by first | (simp_all; done) | (simp [*]; done) | fail) | fail)) rfl rfl ?_
  refine o_split (t := 10) rfl (fun hs => ?_) (fun hs => ?_)
  · have hll : lb.length ≤ la.length := by
      have := of_decide_eq_true hs
      omega
    refine o_sure (t := 11) rfl hs ?_
    refine o_sure (t := 13) rfl hs ?_
    refine o_gyes rfl ?_
    refine o_give (g_subM (evv rfl) _ _ bnd_none (bnd_some (evv rfl) rfl) (by rfl) (by omega) (by omega)) rfl rfl ?_
    refine o_gyes rfl ?_
    refine o_give (g_move (evv rfl)) rfl rfl ?_
    refine o_gyes rfl ?_
    (refine o_call rfl _ (Ent.refl _) (SEqual_c _ _ _ _ _) rfl ?_; rintro _ _ ⟨rfl, hLz⟩; obtain rfl := hLz.symm; clear hLz)
    refine o_give (g_pick (b := true) (evv rfl) (fun _ => (evv rfl)) (fun h => by cases h)) rfl rfl ?_
    refine o_give (g_assign (evv rfl)) rfl rfl ?_
    refine o_nil ?_
    refine c_code ?_
    have e1 : decide (List.take (lb.length - 0) (List.drop 0 la) = lb) = decide (lb <+: la) := by
      rw [Nat.sub_zero, List.drop_zero]
      exact decide_eq_decide.2 ⟨fun h => h ▸ List.take_prefix _ _, fun h => (List.prefix_iff_eq_take.1 h).symm⟩
    rw [e1]
    skip
    first | refine r_ret (rs := [.tmp 4]) rfl rfl _ (Ent.refl _) ?_ | refine c_end (rs := [.tmp 4]) rfl rfl _ (Ent.refl _) ?_
    (refine ⟨?_, ?_⟩ <;> first | rfl | trivial | omega)
  · have hne : ¬ lb <+: la := fun e => by
      have := e.length_le
      have := of_decide_eq_false hs
      omega
    refine o_lazy (v0 := undef) rfl (fun hg => absurd hg (by first | (simp; done) | fail)) rfl rfl ?_
    refine o_lazy rfl (fun hg => g_move (by first | exact evv rfl | exact evg rfl (by rw [hp]; rfl) | exact evg rfl hp | exact evg rfl hg | exact evg rfl (by first | (simp_all; done) | (simp [*]; done) | fail) | fail)) rfl rfl ?_
    refine o_lazy (v0 := undef) rfl (fun hg => absurd hg (by first | (simp; done) | fail)) rfl rfl ?_
    refine o_give (g_pick (b := false) (evv rfl) (fun h => by cases h) (fun _ => (evv rfl))) rfl rfl ?_
    refine o_give (g_assign (evv rfl)) rfl rfl ?_
    refine o_nil ?_
    refine c_code ?_
    skip
    rw [decide_eq_false hne]
    first | refine r_ret (rs := [.tmp 4]) rfl rfl _ (Ent.refl _) ?_ | refine c_end (rs := [.tmp 4]) rfl rfl _ (Ent.refl _) ?_
    (refine ⟨?_, ?_⟩ <;> first | rfl | trivial | omega)
/-- which text comes first -/
def cmpS (x y : List UInt8) : Int := if x < y then -1 else if x = y then 0 else 1
def cmpL : List (List UInt8) → List (List UInt8) → Int
  | [], [] => 0
  | [], _ :: _ => -1
  | _ :: _, [] => 1
  | a :: l, b :: m => if a < b then -1 else if a = b then cmpL l m else 1
theorem NaN_c (L : List Atom) (x : List UInt8) : Fn Try.prog 39 [str x] L fun w L' => w = .bool false ∧ L' = L := by
  refine fn_intro Try.func39 rfl Try.ntmps39 rfl (fun W0 => ?_)
  simp only [argE]
  refine r_seq ?_
  refine r_region (id := 0) ?_
  refine o_give (g_assign (evv rfl)) rfl rfl ?_
  refine o_nil ?_
  refine c_code ?_
  refine r_seq ?_
  refine r_region (id := 1) ?_
  refine o_give (g_move (evv rfl)) rfl rfl ?_
  refine o_give (g_move (evv rfl)) rfl rfl ?_
  refine o_give (g_binS (evv rfl) (evv rfl) (by rfl)) rfl rfl ?_
  refine o_give (g_assign (evv rfl)) rfl rfl ?_
  refine o_nil ?_
  refine c_code ?_
  first | refine r_ret (rs := [.tmp 2]) rfl rfl _ (Ent.refl _) ?_ | refine c_end (rs := [.tmp 2]) rfl rfl _ (Ent.refl _) ?_
  refine ⟨bool_eq ?_, rfl⟩
  simp
theorem less_lt (x y : List UInt8) : Op.bytesLess x y = decide (x < y) := by
  induction x generalizing y with
  | nil => cases y <;> simp [Op.bytesLess]
  | cons a x ih =>
    cases y with
    | nil => simp [Op.bytesLess]
    | cons b y =>
      unfold Op.bytesLess
      rw [ih, Bool.eq_iff_iff]
      simp [List.cons_lt_cons_iff]
theorem gt_ge {x y : List UInt8} (h : ¬ x < y) : (!(Op.bytesLess x y || decide (x = y))) = !decide (x = y) := by rw [less_lt, decide_eq_false h]; rfl
theorem SCmp_c (L : List Atom) (x y : List UInt8) : Fn Try.prog 31 [str x, str y] L fun w L' => w = .int .i64 (cmpS x y) ∧ L' = L := by
  refine fn_intro Try.func31 rfl Try.ntmps31 rfl (fun W0 => ?_)
  simp only [argE]
  refine r_seq ?_
  refine r_region (id := 0) ?_
  refine o_give (g_assign (evv rfl)) rfl rfl ?_
  refine o_nil ?_
  refine c_code ?_
  refine r_seq ?_
  refine r_region (id := 1) ?_
  refine o_give (g_move (evv rfl)) rfl rfl ?_
  (refine o_call rfl _ (Ent.refl _) (NaN_c _ _) rfl ?_; rintro _ _ ⟨rfl, hLz⟩; obtain rfl := hLz.symm; clear hLz)
  refine o_give (g_assign (evv rfl)) rfl rfl ?_
  refine o_nil ?_
  refine c_code ?_
  refine r_seq ?_
  refine r_region (id := 2) ?_
  refine o_give (g_move (evv rfl)) rfl rfl ?_
  (refine o_call rfl _ (Ent.refl _) (NaN_c _ _) rfl ?_; rintro _ _ ⟨rfl, hLz⟩; obtain rfl := hLz.symm; clear hLz)
  refine o_give (g_assign (evv rfl)) rfl rfl ?_
  refine o_nil ?_
  refine c_code ?_
  refine r_seq ?_
  refine r_seq ?_
  refine r_region (id := 3) ?_
  refine o_give (g_move (evv rfl)) rfl rfl ?_
  refine o_nil ?_
  refine c_code ?_
  refine r_cond_false rfl ?_
  refine r_skip ?_
  refine c_code ?_
  refine r_seq ?_
  refine r_seq ?_
  refine r_region (id := 7) ?_
  refine o_give (g_move (evv rfl)) rfl rfl ?_
  refine o_nil ?_
  refine c_code ?_
  refine r_cond_false rfl ?_
  refine r_skip ?_
  refine c_code ?_
  refine r_seq ?_
  refine r_seq ?_
  refine r_region (id := 9) ?_
  refine o_give (g_move (evv rfl)) rfl rfl ?_
  refine o_give (g_move (evv rfl)) rfl rfl ?_
  refine o_give (g_binS (evv rfl) (evv rfl) (by rfl)) rfl rfl ?_
  refine o_nil ?_
  refine c_code ?_
  refine r_cond rfl (fun h1 => ?_) (fun h1 => ?_) <;> (try simp only [decide_eq_true_eq, decide_eq_false_iff_not, Bool.and_eq_true, Bool.or_eq_true, Bool.not_eq_true', Bool.and_eq_false_iff, Bool.or_eq_false_iff, Bool.not_eq_false', Bool.not_eq_true, Bool.not_eq_false, Bool.true_eq_false, Bool.false_eq_true, Int.not_lt, Int.not_le, not_and, not_or, ne_eq] at h1)
  · rw [less_lt, decide_eq_true_eq] at h1
    rw [show cmpS x y = -1 from if_pos h1]
    refine r_seq ?_
    refine r_region (id := 10) ?_
    refine o_give (g_assign (evv rfl)) rfl rfl ?_
    refine o_nil ?_
    refine c_code ?_
    first | refine r_ret (rs := [.tmp 4]) rfl rfl _ (Ent.refl _) ?_ | refine c_end (rs := [.tmp 4]) rfl rfl _ (Ent.refl _) ?_
    (refine ⟨?_, ?_⟩ <;> first | rfl | trivial | omega)
  · rw [less_lt, decide_eq_false_iff_not] at h1
    refine r_skip ?_
    refine c_code ?_
    refine r_seq ?_
    refine r_seq ?_
    refine r_region (id := 11) ?_
    refine o_give (g_move (evv rfl)) rfl rfl ?_
    refine o_give (g_move (evv rfl)) rfl rfl ?_
    refine o_give (g_binS (evv rfl) (evv rfl) (by rfl)) rfl rfl ?_
    refine o_nil ?_
    refine c_code ?_
    rw [gt_ge h1]
    refine r_cond rfl (fun h2 => ?_) (fun h2 => ?_) <;> (try simp only [decide_eq_true_eq, decide_eq_false_iff_not, Bool.and_eq_true, Bool.or_eq_true, Bool.not_eq_true', Bool.and_eq_false_iff, Bool.or_eq_false_iff, Bool.not_eq_false', Bool.not_eq_true, Bool.not_eq_false, Bool.true_eq_false, Bool.false_eq_true, Int.not_lt, Int.not_le, not_and, not_or, ne_eq] at h2)
    · rw [show cmpS x y = 1 from (if_neg h1).trans (if_neg h2)]
      refine r_seq ?_
      refine r_region (id := 12) ?_
      refine o_give (g_assign (evv rfl)) rfl rfl ?_
      refine o_nil ?_
      refine c_code ?_
      first | refine r_ret (rs := [.tmp 4]) rfl rfl _ (Ent.refl _) ?_ | refine c_end (rs := [.tmp 4]) rfl rfl _ (Ent.refl _) ?_
      (refine ⟨?_, ?_⟩ <;> first | rfl | trivial | omega)
    · rw [show cmpS x y = 0 from (if_neg h1).trans (if_pos h2)]
      refine r_skip ?_
      refine c_code ?_
      refine r_seq ?_
      refine r_region (id := 13) ?_
      refine o_give (g_assign (evv rfl)) rfl rfl ?_
      refine o_nil ?_
      refine c_code ?_
      first | refine r_ret (rs := [.tmp 4]) rfl rfl _ (Ent.refl _) ?_ | refine c_end (rs := [.tmp 4]) rfl rfl _ (Ent.refl _) ?_
      (refine ⟨?_, ?_⟩ <;> first | rfl | trivial | omega)
theorem cmpL_drop {la lb : List (List UInt8)} : ∀ {i : Nat} (h1 : i < la.length) (h2 : i < lb.length), cmpL (la.drop i) (lb.drop i) = if la[i] < lb[i] then -1 else if la[i] = lb[i] then cmpL (la.drop (i + 1)) (lb.drop (i + 1)) else 1 := fun h1 h2 => by
  rw [List.drop_eq_getElem_cons h1, List.drop_eq_getElem_cons h2, cmpL]
theorem cmp_step (x y : List UInt8) (r : Int) : (if x < y then -1 else if x = y then r else 1) = if cmpS x y = 0 then r else cmpS x y := by
  unfold cmpS
  by_cases h : x < y
  · simp [h]
  · by_cases h2 : x = y
    · simp [h2, List.lt_irrefl]
    · simp [h, h2]
theorem CmpF_c (L : List Atom) (va vb : Value) (la lb : List (List UInt8)) [ra : Rd L va (mrow str 9 la)] [rb : Rd L vb (mrow str 9 lb)] :
    Fn Try.prog 30 [va, vb, .func (.func 31) #[] #[]] L fun w L' => w = .int .i64 (cmpL la lb) ∧ L' = L := by
  refine fn_lenM ra fun hlen => ?_
  have hlen : la.length ≤ 2 ^ 63 - 1 := hlen
  refine fn_lenM rb fun hlb => ?_
  refine fn_intro Try.func30 rfl Try.ntmps30 rfl (fun W0 => ?_)
  simp only [argE]
  refine r_seq ?_
  refine r_region (id := 0) ?_
  refine o_give (g_assign (evv rfl)) rfl rfl ?_
  refine o_nil ?_
  refine c_code ?_
  refine r_seq ?_
  refine r_seq ?_
  refine r_region (id := 1) ?_
  refine o_give (g_move (evv rfl)) rfl rfl ?_
  refine o_give (g_lenM (evv rfl)) rfl rfl ?_
  refine o_give (g_move (evv rfl)) rfl rfl ?_
  refine o_nil ?_
  refine c_code ?_
  refine r_block ?_
  refine r_loopE (σ := Nat) (fun i => i ≤ la.length ∧ i ≤ lb.length ∧ cmpL la lb = cmpL (la.drop i) (lb.drop i)) (fun i => la.length - i) (fun i => [(13, .v (.int .i64 i))]) [0, 1, 2, 11, 12] (fun i => L) 0 (by dsimp only [pickE, pick1, lk2, Nat.reduceBEq, Nat.reduceAdd, Nat.zero_add, cond_true, cond_false] <;> exact rfl) ?_ (by repeat (first | exact trivial | refine ⟨rfl, ?_⟩ | refine envsub_v rfl (by first | rfl | (refine int_eq ?_; first | omega | (simp; omega) | (simp; done)) | (refine bool_eq ?_; first | (simp [*]; done) | (simp; done)) | (refine str_eq ?_; simp; done) | (refine ptr_eq ?_; omega) | fail) ?_)) ?_ ?_
  · exact ⟨Nat.zero_le _, Nat.zero_le _, rfl⟩
  · exact Ent.refl _
  rintro i ⟨hi, hj, he⟩; dsimp only [List.cons_append, List.nil_append]
  have hlb : lb.length ≤ 2 ^ 63 - 1 := hlb
  refine r_seq ?_
  refine r_region (id := 2) ?_
  refine o_give (g_bin (evv rfl) (evv rfl) (by rfl)) rfl rfl ?_
  refine o_nil ?_
  refine c_code ?_
  refine r_seq ?_
  refine r_cond rfl (fun hc => ?_) (fun hc => ?_) <;> (try simp only [decide_eq_true_eq, decide_eq_false_iff_not, Bool.and_eq_true, Bool.or_eq_true, Bool.not_eq_true', Bool.and_eq_false_iff, Bool.or_eq_false_iff, Bool.not_eq_false', Bool.not_eq_true, Bool.not_eq_false, Bool.true_eq_false, Bool.false_eq_true, Int.not_lt, Int.not_le, not_and, not_or, ne_eq] at hc)
  · have h1 : i < la.length := by omega
    have e1 : la.getD i default = la[i] := by simp [List.getD_eq_getElem?_getD, h1]
    refine r_skip ?_
    refine c_code ?_
    refine r_seq ?_
    refine r_block ?_
    refine r_seq ?_
    refine r_region (id := 3) ?_
    refine o_give (g_move (evv rfl)) rfl rfl ?_
    refine o_give (g_idxMN (evv rfl) (evv rfl) (by rfl) (by first | omega | (have := of_decide_eq_true hg; omega) | (simp at hg; omega) | (simp only [List.length_set, List.length_append, List.length_cons, List.length_nil, List.length_map, List.length_take, List.length_drop, List.length_replicate]; omega))) rfl rfl ?_
    refine o_give (g_loadM (evv rfl) (by rfl) (by first | omega | (have := of_decide_eq_true hg; omega) | (simp at hg; omega) | (simp only [List.length_set, List.length_append, List.length_cons, List.length_nil, List.length_map, List.length_take, List.length_drop, List.length_replicate]; omega))) rfl rfl ?_
    refine o_give (g_assign (evv rfl)) rfl rfl ?_
    refine o_give (g_assign (evv rfl)) rfl rfl ?_
    refine o_nil ?_
    refine c_code ?_
    refine r_seq ?_
    refine r_seq ?_
    refine r_region (id := 4) ?_
    refine o_give (g_move (evv rfl)) rfl rfl ?_
    refine o_give (g_move (evv rfl)) rfl rfl ?_
    refine o_give (g_lenM (evv rfl)) rfl rfl ?_
    refine o_give (g_bin (evv rfl) (evv rfl) (by rfl)) rfl rfl ?_
    refine o_nil ?_
    refine c_code ?_
    refine r_cond rfl (fun h2 => ?_) (fun h2 => ?_) <;> (try simp only [decide_eq_true_eq, decide_eq_false_iff_not, Bool.and_eq_true, Bool.or_eq_true, Bool.not_eq_true', Bool.and_eq_false_iff, Bool.or_eq_false_iff, Bool.not_eq_false', Bool.not_eq_true, Bool.not_eq_false, Bool.true_eq_false, Bool.false_eq_true, Int.not_lt, Int.not_le, not_and, not_or, ne_eq] at h2)
    · have e3 : cmpL la lb = 1 := by
        rw [he, List.drop_eq_getElem_cons h1, show lb.drop i = [] from List.drop_of_length_le (by omega)]
        rfl
      rw [e3]
      refine r_seq ?_
      refine r_region (id := 5) ?_
      refine o_give (g_assign (evv rfl)) rfl rfl ?_
      refine o_nil ?_
      refine c_code ?_
      first | refine r_ret (rs := [.tmp 6]) rfl rfl _ (Ent.refl _) ?_ | refine c_end (rs := [.tmp 6]) rfl rfl _ (Ent.refl _) ?_
      (refine ⟨?_, ?_⟩ <;> first | rfl | trivial | omega)
    · have h2 : i < lb.length := by omega
      have e2 : lb.getD i default = lb[i] := by simp [List.getD_eq_getElem?_getD, h2]
      rw [cmpL_drop h1 h2, ← e1, ← e2, cmp_step] at he
      clear e1 e2
      refine r_skip ?_
      refine c_code ?_
      refine r_seq ?_
      refine r_region (id := 6) ?_
      refine o_give (g_move (evv rfl)) rfl rfl ?_
      refine o_give (g_move (evv rfl)) rfl rfl ?_
      refine o_give (g_idxMN (evv rfl) (evv rfl) (by rfl) (by first | omega | (have := of_decide_eq_true hg; omega) | (simp at hg; omega) | (simp only [List.length_set, List.length_append, List.length_cons, List.length_nil, List.length_map, List.length_take, List.length_drop, List.length_replicate]; omega))) rfl rfl ?_
      refine o_give (g_loadM (evv rfl) (by rfl) (by first | omega | (have := of_decide_eq_true hg; omega) | (simp at hg; omega) | (simp only [List.length_set, List.length_append, List.length_cons, List.length_nil, List.length_map, List.length_take, List.length_drop, List.length_replicate]; omega))) rfl rfl ?_
      refine o_give (g_assign (evv rfl)) rfl rfl ?_
      refine o_nil ?_
      refine c_code ?_
      refine r_seq ?_
      refine r_region (id := 7) ?_
      refine o_give (g_move (evv rfl)) rfl rfl ?_
      refine o_give (g_move (evv rfl)) rfl rfl ?_
      refine o_give (g_move (evv rfl)) rfl rfl ?_
      (refine o_callV rfl rfl _ (Ent.refl _) (SCmp_c _ _ _) rfl ?_; rintro _ _ ⟨rfl, hLz⟩; obtain rfl := hLz.symm; clear hLz)
      refine o_give (g_assign (evv rfl)) rfl rfl ?_
      refine o_nil ?_
      refine c_code ?_
      refine r_seq ?_
      refine r_region (id := 8) ?_
      refine o_give (g_move (evv rfl)) rfl rfl ?_
      refine o_give (g_bin (evv rfl) (evv rfl) (by rfl)) rfl rfl ?_
      refine o_nil ?_
      refine c_code ?_
      refine r_cond rfl (fun h3 => ?_) (fun h3 => ?_) <;> (try simp only [decide_eq_true_eq, decide_eq_false_iff_not, Bool.and_eq_true, Bool.or_eq_true, Bool.not_eq_true', Bool.and_eq_false_iff, Bool.or_eq_false_iff, Bool.not_eq_false', Bool.not_eq_true, Bool.not_eq_false, Bool.true_eq_false, Bool.false_eq_true, Int.not_lt, Int.not_le, not_and, not_or, ne_eq] at h3)
      · rw [if_neg h3] at he
        rw [he]
        refine r_seq ?_
        refine r_region (id := 9) ?_
        refine o_give (g_move (evv rfl)) rfl rfl ?_
        refine o_give (g_assign (evv rfl)) rfl rfl ?_
        refine o_nil ?_
        refine c_code ?_
        first | refine r_ret (rs := [.tmp 6]) rfl rfl _ (Ent.refl _) ?_ | refine c_end (rs := [.tmp 6]) rfl rfl _ (Ent.refl _) ?_
        (refine ⟨?_, ?_⟩ <;> first | rfl | trivial | omega)
      · rw [if_pos (by first | exact h3 | exact Decidable.of_not_not h3)] at he
        refine r_skip ?_
        refine c_blk ?_
        refine c_code ?_
        refine r_region (id := 10) ?_
        refine o_giveN (g_bin (evv rfl) (evv rfl) (by rfl)) (by simp only [inR]; omega) rfl ?_
        refine o_give (g_move (evv rfl)) rfl rfl ?_
        refine o_nil ?_
        refine c_loop (i + 1) ?_ ?_ (by repeat (first | exact trivial | refine ⟨rfl, ?_⟩ | refine envsub_v rfl (by first | rfl | (refine int_eq ?_; first | omega | (simp; omega) | (simp; done)) | (refine bool_eq ?_; first | (simp [*]; done) | (simp; done)) | (refine str_eq ?_; simp; done) | (refine ptr_eq ?_; omega) | fail) ?_)) ?_ <;> (try dsimp only)
        · exact ⟨by omega, by omega, he⟩
        · omega
        · exact Ent.refl _
  · have hia : i = la.length := by omega
    subst hia
    rw [List.drop_length] at he
    refine r_exit rfl ?_
    refine c_code ?_
    refine r_seq ?_
    refine r_seq ?_
    refine r_region (id := 11) ?_
    refine o_give (g_move (evv rfl)) rfl rfl ?_
    refine o_give (g_lenM (evv rfl)) rfl rfl ?_
    refine o_give (g_move (evv rfl)) rfl rfl ?_
    refine o_give (g_lenM (evv rfl)) rfl rfl ?_
    refine o_give (g_bin (evv rfl) (evv rfl) (by rfl)) rfl rfl ?_
    refine o_nil ?_
    refine c_code ?_
    refine r_cond rfl (fun h2 => ?_) (fun h2 => ?_) <;> (try simp only [decide_eq_true_eq, decide_eq_false_iff_not, Bool.and_eq_true, Bool.or_eq_true, Bool.not_eq_true', Bool.and_eq_false_iff, Bool.or_eq_false_iff, Bool.not_eq_false', Bool.not_eq_true, Bool.not_eq_false, Bool.true_eq_false, Bool.false_eq_true, Int.not_lt, Int.not_le, not_and, not_or, ne_eq] at h2)
    · have e3 : cmpL la lb = -1 := by
        rw [he, List.drop_eq_getElem_cons (by omega)]; rfl
      rw [e3]
      refine r_seq ?_
      refine r_region (id := 12) ?_
      refine o_give (g_assign (evv rfl)) rfl rfl ?_
      refine o_nil ?_
      refine c_code ?_
      first | refine r_ret (rs := [.tmp 6]) rfl rfl _ (Ent.refl _) ?_ | refine c_end (rs := [.tmp 6]) rfl rfl _ (Ent.refl _) ?_
      (refine ⟨?_, ?_⟩ <;> first | rfl | trivial | omega)
    · have e3 : cmpL la lb = 0 := by
        rw [he, List.drop_of_length_le (by omega)]; rfl
      rw [e3]
      refine r_skip ?_
      refine c_code ?_
      refine r_seq ?_
      refine r_region (id := 13) ?_
      refine o_give (g_assign (evv rfl)) rfl rfl ?_
      refine o_nil ?_
      refine c_code ?_
      first | refine r_ret (rs := [.tmp 6]) rfl rfl _ (Ent.refl _) ?_ | refine c_end (rs := [.tmp 6]) rfl rfl _ (Ent.refl _) ?_
      (refine ⟨?_, ?_⟩ <;> first | rfl | trivial | omega)
theorem Compare_c (L : List Atom) (va vb : Value) (la lb : List (List UInt8)) [ra : Rd L va (mrow str 9 la)] [rb : Rd L vb (mrow str 9 lb)] :
    Fn Try.prog 18 [va, vb] L fun w L' => w = .int .i64 (cmpL la lb) ∧ L' = L := by
  refine fn_intro Try.func18 rfl Try.ntmps18 rfl (fun W0 => ?_)
  simp only [argE]
  refine r_seq ?_
  refine r_region (id := 0) ?_
  refine o_give (g_assign (evv rfl)) rfl rfl ?_
  refine o_nil ?_
  refine c_code ?_
  refine r_seq ?_
  refine r_region (id := 1) ?_
  refine o_give (g_move (evv rfl)) rfl rfl ?_
  refine o_give (g_move (evv rfl)) rfl rfl ?_
  (refine o_call rfl _ (Ent.refl _) (CmpF_c _ _ _ _ _) rfl ?_; rintro _ _ ⟨rfl, hLz⟩; obtain rfl := hLz.symm; clear hLz)
  refine o_give (g_assign (evv rfl)) rfl rfl ?_
  refine o_nil ?_
  refine c_code ?_
  first | refine r_ret (rs := [.tmp 4]) rfl rfl _ (Ent.refl _) ?_ | refine c_end (rs := [.tmp 4]) rfl rfl _ (Ent.refl _) ?_
  (refine ⟨?_, ?_⟩ <;> first | rfl | trivial | omega)
theorem RCompare_c (L : List Atom) (va vb : Value) (la lb : List (List UInt8)) [ra : Rd L va (mrow str 9 la)] [rb : Rd L vb (mrow str 9 lb)] :
    Fn Try.prog 19 [va, vb] L fun w L' => w = .int .i64 (cmpL la lb) ∧ L' = L := by
  refine fn_lenM ra fun hlen => ?_
  have hlen : la.length ≤ 2 ^ 63 - 1 := hlen
  refine fn_lenM rb fun hlb => ?_
  have hlb : lb.length ≤ 2 ^ 63 - 1 := hlb
  refine fn_intro Try.func19 rfl Try.ntmps19 rfl (fun W0 => ?_)
  simp only [argE]
  refine r_seq ?_
  refine r_region (id := 0) ?_
  refine o_give (g_assign (evv rfl)) rfl rfl ?_
  refine o_nil ?_
  refine c_code ?_
  refine r_seq ?_
  refine r_seq ?_
  refine r_region (id := 1) ?_
  refine o_give (g_assign (evv rfl)) rfl rfl ?_
  refine o_nil ?_
  refine c_code ?_
  refine r_block ?_
  refine r_loopE (σ := Nat) (fun i => i ≤ la.length ∧ i ≤ lb.length ∧ cmpL la lb = cmpL (la.drop i) (lb.drop i)) (fun i => la.length - i) (fun i => [(5, .v (.int .i64 i))]) [0, 1] (fun i => L) 0 (by dsimp only [pickE, pick1, lk2, Nat.reduceBEq, Nat.reduceAdd, Nat.zero_add, cond_true, cond_false] <;> exact rfl) ?_ (by repeat (first | exact trivial | refine ⟨rfl, ?_⟩ | refine envsub_v rfl (by first | rfl | (refine int_eq ?_; first | omega | (simp; omega) | (simp; done)) | (refine bool_eq ?_; first | (simp [*]; done) | (simp; done)) | (refine str_eq ?_; simp; done) | (refine ptr_eq ?_; omega) | fail) ?_)) ?_ ?_
  · exact ⟨Nat.zero_le _, Nat.zero_le _, rfl⟩
  · exact Ent.refl _
  rintro i ⟨hi, hj, he⟩; dsimp only [List.cons_append, List.nil_append]
  refine r_seq ?_
  refine r_seq ?_
  refine r_region (id := 2) ?_
  refine o_give (g_move (evv rfl)) rfl rfl ?_
  refine o_give (g_move (evv rfl)) rfl rfl ?_
  refine o_give (g_lenM (evv rfl)) rfl rfl ?_
  refine o_give (g_bin (evv rfl) (evv rfl) (by rfl)) rfl rfl ?_
  refine o_give (g_move (evv rfl)) rfl rfl ?_
  refine o_lazy rfl (fun hg => g_move (by first | exact evv rfl | exact evg rfl (by rw [hp]; rfl) | exact evg rfl hp | exact evg rfl hg | exact evg rfl (by first | (simp_all; done) | (simp [*]; done) | fail) | fail)) rfl rfl ?_
  refine o_lazy rfl (fun hg => g_move (by first | exact evv rfl | exact evg rfl (by rw [hp]; rfl) | exact evg rfl hp | exact evg rfl hg | exact evg rfl (by first | (simp_all; done) | (simp [*]; done) | fail) | fail)) rfl rfl ?_
  refine o_lazy rfl (fun hg => g_lenM (by first | exact evv rfl | exact evg rfl (by rw [hp]; rfl) | exact evg rfl hp | exact evg rfl hg | exact evg rfl (by first | (simp_all; done) | (simp [*]; done) | fail) | fail)) rfl rfl ?_
  refine o_lazy rfl (fun hg => g_bin (by first | exact evv rfl | exact evg rfl (by rw [hp]; rfl) | exact evg rfl hp | exact evg rfl hg | exact evg rfl (by first | (simp_all; done) | (simp [*]; done) | fail) | fail) (by first | exact evv rfl | exact evg rfl (by rw [hp]; rfl) | exact evg rfl hp | exact evg rfl hg | exact evg rfl (by first | (simp_all; done) | (simp [*]; done) | fail) | fail) (by rfl)) rfl rfl ?_
  refine o_give (g_pick_and (evv rfl) (evv rfl) (fun hp => (by first | exact evv rfl | exact evg rfl (by rw [hp]; rfl) | exact evg rfl hp | exact evg rfl hg | exact evg rfl (by first | (simp_all; done) | (simp [*]; done) | fail) | fail))) rfl rfl ?_
  refine o_nil ?_
  refine c_code ?_
  refine r_cond rfl (fun hc => ?_) (fun hc => ?_) <;> (try simp only [decide_eq_true_eq, decide_eq_false_iff_not, Bool.and_eq_true, Bool.or_eq_true, Bool.not_eq_true', Bool.and_eq_false_iff, Bool.or_eq_false_iff, Bool.not_eq_false', Bool.not_eq_true, Bool.not_eq_false, Bool.true_eq_false, Bool.false_eq_true, Int.not_lt, Int.not_le, not_and, not_or, ne_eq] at hc)
  · obtain ⟨hc1, hc2⟩ := hc
    have h1 : i < la.length := by omega
    have h2 : i < lb.length := by omega
    have e1 : la.getD i default = la[i] := by simp [List.getD_eq_getElem?_getD, h1]
    have e2 : lb.getD i default = lb[i] := by simp [List.getD_eq_getElem?_getD, h2]
    rw [cmpL_drop h1 h2, ← e1, ← e2] at he
    clear e1 e2
    refine r_skip ?_
    refine c_code ?_
    refine r_seq ?_
    refine r_block ?_
    refine r_seq ?_
    refine r_seq ?_
    refine r_quiet (id := 4) Mixed.h (by kernel_rfl) ?_
    refine q_give (g_move (evv rfl)) rfl rfl ?_
    refine q_give (g_move (evv rfl)) rfl rfl ?_
    refine q_give (g_idxMN (evv rfl) (evv rfl) (by rfl) (by first | omega | (have := of_decide_eq_true hg; omega) | (simp at hg; omega) | (simp only [List.length_set, List.length_append, List.length_cons, List.length_nil, List.length_map, List.length_take, List.length_drop, List.length_replicate]; omega))) rfl rfl ?_
    refine q_give (g_loadM (evv rfl) (by rfl) (by first | omega | (have := of_decide_eq_true hg; omega) | (simp at hg; omega) | (simp only [List.length_set, List.length_append, List.length_cons, List.length_nil, List.length_map, List.length_take, List.length_drop, List.length_replicate]; omega))) rfl rfl ?_
    refine q_give (g_move (evv rfl)) rfl rfl ?_
    refine q_give (g_move (evv rfl)) rfl rfl ?_
    refine q_give (g_idxMN (evv rfl) (evv rfl) (by rfl) (by first | omega | (have := of_decide_eq_true hg; omega) | (simp at hg; omega) | (simp only [List.length_set, List.length_append, List.length_cons, List.length_nil, List.length_map, List.length_take, List.length_drop, List.length_replicate]; omega))) rfl rfl ?_
    refine q_give (g_loadM (evv rfl) (by rfl) (by first | omega | (have := of_decide_eq_true hg; omega) | (simp at hg; omega) | (simp only [List.length_set, List.length_append, List.length_cons, List.length_nil, List.length_map, List.length_take, List.length_drop, List.length_replicate]; omega))) rfl rfl ?_
    refine q_give (g_binS (evv rfl) (evv rfl) (by rfl)) rfl rfl ?_
    refine q_nil ?_
    refine c_code ?_
    refine r_cond rfl (fun h3 => ?_) (fun h3 => ?_) <;> (try simp only [decide_eq_true_eq, decide_eq_false_iff_not, Bool.and_eq_true, Bool.or_eq_true, Bool.not_eq_true', Bool.and_eq_false_iff, Bool.or_eq_false_iff, Bool.not_eq_false', Bool.not_eq_true, Bool.not_eq_false, Bool.true_eq_false, Bool.false_eq_true, Int.not_lt, Int.not_le, not_and, not_or, ne_eq] at h3)
    · rw [less_lt, decide_eq_true_eq] at h3
      rw [if_pos h3] at he
      rw [he]
      refine r_seq ?_
      refine r_region (id := 5) ?_
      refine o_give (g_assign (evv rfl)) rfl rfl ?_
      refine o_nil ?_
      refine c_code ?_
      first | refine r_ret (rs := [.tmp 4]) rfl rfl _ (Ent.refl _) ?_ | refine c_end (rs := [.tmp 4]) rfl rfl _ (Ent.refl _) ?_
      (refine ⟨?_, ?_⟩ <;> first | rfl | trivial | omega)
    · rw [less_lt, decide_eq_false_iff_not] at h3
      rw [if_neg h3] at he
      refine r_skip ?_
      refine c_code ?_
      refine r_seq ?_
      refine r_quiet (id := 6) Mixed.h (by kernel_rfl) ?_
      refine q_give (g_move (evv rfl)) rfl rfl ?_
      refine q_give (g_move (evv rfl)) rfl rfl ?_
      refine q_give (g_idxMN (evv rfl) (evv rfl) (by rfl) (by first | omega | (have := of_decide_eq_true hg; omega) | (simp at hg; omega) | (simp only [List.length_set, List.length_append, List.length_cons, List.length_nil, List.length_map, List.length_take, List.length_drop, List.length_replicate]; omega))) rfl rfl ?_
      refine q_give (g_loadM (evv rfl) (by rfl) (by first | omega | (have := of_decide_eq_true hg; omega) | (simp at hg; omega) | (simp only [List.length_set, List.length_append, List.length_cons, List.length_nil, List.length_map, List.length_take, List.length_drop, List.length_replicate]; omega))) rfl rfl ?_
      refine q_give (g_move (evv rfl)) rfl rfl ?_
      refine q_give (g_move (evv rfl)) rfl rfl ?_
      refine q_give (g_idxMN (evv rfl) (evv rfl) (by rfl) (by first | omega | (have := of_decide_eq_true hg; omega) | (simp at hg; omega) | (simp only [List.length_set, List.length_append, List.length_cons, List.length_nil, List.length_map, List.length_take, List.length_drop, List.length_replicate]; omega))) rfl rfl ?_
      refine q_give (g_loadM (evv rfl) (by rfl) (by first | omega | (have := of_decide_eq_true hg; omega) | (simp at hg; omega) | (simp only [List.length_set, List.length_append, List.length_cons, List.length_nil, List.length_map, List.length_take, List.length_drop, List.length_replicate]; omega))) rfl rfl ?_
      refine q_give (g_binS (evv rfl) (evv rfl) (by rfl)) rfl rfl ?_
      refine q_nil ?_
      refine c_code ?_
      rw [gt_ge h3]
      refine r_cond rfl (fun h4 => ?_) (fun h4 => ?_) <;> (try simp only [decide_eq_true_eq, decide_eq_false_iff_not, Bool.and_eq_true, Bool.or_eq_true, Bool.not_eq_true', Bool.and_eq_false_iff, Bool.or_eq_false_iff, Bool.not_eq_false', Bool.not_eq_true, Bool.not_eq_false, Bool.true_eq_false, Bool.false_eq_true, Int.not_lt, Int.not_le, not_and, not_or, ne_eq] at h4)
      · rw [if_neg h4] at he
        rw [he]
        refine r_seq ?_
        refine r_region (id := 7) ?_
        refine o_give (g_assign (evv rfl)) rfl rfl ?_
        refine o_nil ?_
        refine c_code ?_
        first | refine r_ret (rs := [.tmp 4]) rfl rfl _ (Ent.refl _) ?_ | refine c_end (rs := [.tmp 4]) rfl rfl _ (Ent.refl _) ?_
        (refine ⟨?_, ?_⟩ <;> first | rfl | trivial | omega)
      · rw [if_pos h4] at he
        refine r_skip ?_
        refine c_blk ?_
        refine c_code ?_
        refine r_region (id := 3) ?_
        refine o_give (g_move (evv rfl)) rfl rfl ?_
        refine o_giveN (g_bin (evv rfl) (evv rfl) (by rfl)) (by simp only [inR]; omega) rfl ?_
        refine o_give (g_assign (evv rfl)) rfl rfl ?_
        refine o_nil ?_
        refine c_loop (i + 1) ?_ ?_ (by repeat (first | exact trivial | refine ⟨rfl, ?_⟩ | refine envsub_v rfl (by first | rfl | (refine int_eq ?_; first | omega | (simp; omega) | (simp; done)) | (refine bool_eq ?_; first | (simp [*]; done) | (simp; done)) | (refine str_eq ?_; simp; done) | (refine ptr_eq ?_; omega) | fail) ?_)) ?_ <;> (try dsimp only)
        · exact ⟨by omega, by omega, he⟩
        · omega
        · exact Ent.refl _
  · refine r_exit rfl ?_
    refine c_code ?_
    refine r_seq ?_
    refine r_seq ?_
    refine r_region (id := 8) ?_
    refine o_give (g_move (evv rfl)) rfl rfl ?_
    refine o_give (g_lenM (evv rfl)) rfl rfl ?_
    refine o_give (g_move (evv rfl)) rfl rfl ?_
    refine o_give (g_lenM (evv rfl)) rfl rfl ?_
    refine o_give (g_bin (evv rfl) (evv rfl) (by rfl)) rfl rfl ?_
    refine o_nil ?_
    refine c_code ?_
    refine r_cond rfl (fun h5 => ?_) (fun h5 => ?_) <;> (try simp only [decide_eq_true_eq, decide_eq_false_iff_not, Bool.and_eq_true, Bool.or_eq_true, Bool.not_eq_true', Bool.and_eq_false_iff, Bool.or_eq_false_iff, Bool.not_eq_false', Bool.not_eq_true, Bool.not_eq_false, Bool.true_eq_false, Bool.false_eq_true, Int.not_lt, Int.not_le, not_and, not_or, ne_eq] at h5)
    · rw [show la.drop i = [] from List.drop_of_length_le (by omega), List.drop_eq_getElem_cons (by omega)] at he
      rw [show cmpL la lb = -1 from he]
      refine r_seq ?_
      refine r_region (id := 9) ?_
      refine o_give (g_assign (evv rfl)) rfl rfl ?_
      refine o_nil ?_
      refine c_code ?_
      first | refine r_ret (rs := [.tmp 4]) rfl rfl _ (Ent.refl _) ?_ | refine c_end (rs := [.tmp 4]) rfl rfl _ (Ent.refl _) ?_
      (refine ⟨?_, ?_⟩ <;> first | rfl | trivial | omega)
    · refine r_skip ?_
      refine c_code ?_
      refine r_seq ?_
      refine r_seq ?_
      refine r_region (id := 10) ?_
      refine o_give (g_move (evv rfl)) rfl rfl ?_
      refine o_give (g_lenM (evv rfl)) rfl rfl ?_
      refine o_give (g_move (evv rfl)) rfl rfl ?_
      refine o_give (g_lenM (evv rfl)) rfl rfl ?_
      refine o_give (g_bin (evv rfl) (evv rfl) (by rfl)) rfl rfl ?_
      refine o_nil ?_
      refine c_code ?_
      refine r_cond rfl (fun h6 => ?_) (fun h6 => ?_) <;> (try simp only [decide_eq_true_eq, decide_eq_false_iff_not, Bool.and_eq_true, Bool.or_eq_true, Bool.not_eq_true', Bool.and_eq_false_iff, Bool.or_eq_false_iff, Bool.not_eq_false', Bool.not_eq_true, Bool.not_eq_false, Bool.true_eq_false, Bool.false_eq_true, Int.not_lt, Int.not_le, not_and, not_or, ne_eq] at h6)
      · rw [show lb.drop i = [] from List.drop_of_length_le (by omega), List.drop_eq_getElem_cons (by omega)] at he
        rw [show cmpL la lb = 1 from he]
        refine r_seq ?_
        refine r_region (id := 11) ?_
        refine o_give (g_assign (evv rfl)) rfl rfl ?_
        refine o_nil ?_
        refine c_code ?_
        first | refine r_ret (rs := [.tmp 4]) rfl rfl _ (Ent.refl _) ?_ | refine c_end (rs := [.tmp 4]) rfl rfl _ (Ent.refl _) ?_
        (refine ⟨?_, ?_⟩ <;> first | rfl | trivial | omega)
      · rw [show la.drop i = [] from List.drop_of_length_le (by omega), show lb.drop i = [] from List.drop_of_length_le (by omega)] at he
        rw [show cmpL la lb = 0 from he]
        refine r_skip ?_
        refine c_code ?_
        refine r_seq ?_
        refine r_region (id := 12) ?_
        refine o_give (g_assign (evv rfl)) rfl rfl ?_
        refine o_nil ?_
        refine c_code ?_
        first | refine r_ret (rs := [.tmp 4]) rfl rfl _ (Ent.refl _) ?_ | refine c_end (rs := [.tmp 4]) rfl rfl _ (Ent.refl _) ?_
        (refine ⟨?_, ?_⟩ <;> first | rfl | trivial | omega)
/-- a path's text -/
def showR (l : List (List UInt8)) : List UInt8 := if l = [] then [47] else (l.map (47 :: ·)).flatten
theorem flat_step {l : List (List UInt8)} {i : Nat} (h : i < l.length) : ((l.take (i + 1)).map (47 :: ·)).flatten = ((l.take i).map (47 :: ·)).flatten ++ [47] ++ l.getD i default := by
  have e : l.getD i default = l[i] := by simp [List.getD_eq_getElem?_getD, h]
  rw [List.take_succ_eq_append_getElem h, e]
  simp only [List.map_append, List.flatten_append, List.map_cons, List.map_nil, List.flatten_cons, List.flatten_nil, List.append_nil, List.append_assoc, List.cons_append, List.nil_append]
def bulkR (l : List (List UInt8)) : Nat := ((l.map (47 :: ·)).flatten).length
theorem flat_le (l : List (List UInt8)) (i : Nat) : ((l.take i).map (47 :: ·)).flatten.length ≤ bulkR l := by
  unfold bulkR
  conv => rhs; rw [← List.take_append_drop i l]
  rw [List.map_append, List.flatten_append, List.length_append]
  omega
theorem RShow_c (L : List Atom) (va : Value) (la : List (List UInt8)) [ra : Rd L va (mrow str 9 la)] (hb : bulkR la ≤ 140737488355328) :
    Fn Try.prog 12 [va] L fun w L' => w = str (showR la) ∧ L' = L := by
  refine fn_lenM ra fun hlen => ?_
  have hlen : la.length ≤ 2 ^ 63 - 1 := hlen
  refine fn_intro Try.func12 rfl Try.ntmps12 rfl (fun W0 => ?_)
  simp only [argE]
  refine r_seq ?_
  refine r_region (id := 0) ?_
  refine o_give (g_assign (evv rfl)) rfl rfl ?_
  refine o_nil ?_
  refine c_code ?_
  refine r_seq ?_
  refine r_seq ?_
  refine r_region (id := 1) ?_
  refine o_give (g_move (evv rfl)) rfl rfl ?_
  refine o_give (g_lenM (evv rfl)) rfl rfl ?_
  refine o_give (g_bin (evv rfl) (evv rfl) (by rfl)) rfl rfl ?_
  refine o_nil ?_
  refine c_code ?_
  refine r_cond rfl (fun h0 => ?_) (fun h0 => ?_) <;> (try simp only [decide_eq_true_eq, decide_eq_false_iff_not, Bool.and_eq_true, Bool.or_eq_true, Bool.not_eq_true', Bool.and_eq_false_iff, Bool.or_eq_false_iff, Bool.not_eq_false', Bool.not_eq_true, Bool.not_eq_false, Bool.true_eq_false, Bool.false_eq_true, Int.not_lt, Int.not_le, not_and, not_or, ne_eq] at h0)
  · have : la = [] := List.eq_nil_of_length_eq_zero (by omega)
    subst this
    refine r_seq ?_
    refine r_region (id := 2) ?_
    refine o_give (g_assign (evv rfl)) rfl rfl ?_
    refine o_nil ?_
    refine c_code ?_
    first | refine r_ret (rs := [.tmp 2]) rfl rfl _ (Ent.refl _) ?_ | refine c_end (rs := [.tmp 2]) rfl rfl _ (Ent.refl _) ?_
    (refine ⟨?_, ?_⟩ <;> first | rfl | trivial | omega)
  · have hne : la ≠ [] := fun h => h0 (by rw [h]; rfl)
    refine r_skip ?_
    refine c_code ?_
    refine r_seq ?_
    refine r_region (id := 3) ?_
    refine o_give (g_assign (evv rfl)) rfl rfl ?_
    refine o_nil ?_
    refine c_code ?_
    refine r_seq ?_
    refine r_seq ?_
    refine r_region (id := 4) ?_
    refine o_give (g_assign (evv rfl)) rfl rfl ?_
    refine o_nil ?_
    refine c_code ?_
    refine r_block ?_
    refine r_loopE (σ := Nat) (fun i => i ≤ la.length) (fun i => la.length - i) (fun i => [(3, .v (str ((la.take i).map (47 :: ·)).flatten)), (4, .v (.int .i64 i))]) [0] (fun i => L) 0 (by dsimp only [pickE, pick1, lk2, Nat.reduceBEq, Nat.reduceAdd, Nat.zero_add, cond_true, cond_false] <;> exact rfl) ?_ (by repeat (first | exact trivial | refine ⟨rfl, ?_⟩ | refine envsub_v rfl (by first | rfl | (refine int_eq ?_; first | omega | (simp; omega) | (simp; done)) | (refine bool_eq ?_; first | (simp [*]; done) | (simp; done)) | (refine str_eq ?_; simp; done) | (refine ptr_eq ?_; omega) | fail) ?_)) ?_ ?_
    · exact Nat.zero_le _
    · exact Ent.refl _
    rintro i hi; (try dsimp only at hi); dsimp only [List.cons_append, List.nil_append]
    have hf := flat_le la i
    have hf1 := flat_le la (i + 1)
    refine r_seq ?_
    refine r_seq ?_
    refine r_region (id := 5) ?_
    refine o_give (g_move (evv rfl)) rfl rfl ?_
    refine o_give (g_move (evv rfl)) rfl rfl ?_
    refine o_give (g_lenM (evv rfl)) rfl rfl ?_
    refine o_give (g_bin (evv rfl) (evv rfl) (by rfl)) rfl rfl ?_
    refine o_nil ?_
    refine c_code ?_
    refine r_cond rfl (fun hc => ?_) (fun hc => ?_) <;> (try simp only [decide_eq_true_eq, decide_eq_false_iff_not, Bool.and_eq_true, Bool.or_eq_true, Bool.not_eq_true', Bool.and_eq_false_iff, Bool.or_eq_false_iff, Bool.not_eq_false', Bool.not_eq_true, Bool.not_eq_false, Bool.true_eq_false, Bool.false_eq_true, Int.not_lt, Int.not_le, not_and, not_or, ne_eq] at hc)
    · have h1 : i < la.length := by omega
      have e1 := flat_step h1
      rw [e1] at hf1
      simp only [List.length_append, List.length_cons, List.length_nil] at hf1
      refine r_skip ?_
      refine c_code ?_
      refine r_seq ?_
      refine r_block ?_
      refine r_region (id := 7) ?_
      refine o_give (g_move (evv rfl)) rfl rfl ?_
      refine o_give (g_cat (evv rfl) (evv rfl) (by (try simp only [bsOf, List.length_append, List.length_cons, List.length_nil, List.length_take, List.length_drop]); omega)) rfl rfl ?_
      refine o_give (g_move (evv rfl)) rfl rfl ?_
      refine o_give (g_move (evv rfl)) rfl rfl ?_
      refine o_give (g_idxMN (evv rfl) (evv rfl) (by rfl) (by first | omega | (have := of_decide_eq_true hg; omega) | (simp at hg; omega) | (simp only [List.length_set, List.length_append, List.length_cons, List.length_nil, List.length_map, List.length_take, List.length_drop, List.length_replicate]; omega))) rfl rfl ?_
      refine o_give (g_loadM (evv rfl) (by rfl) (by first | omega | (have := of_decide_eq_true hg; omega) | (simp at hg; omega) | (simp only [List.length_set, List.length_append, List.length_cons, List.length_nil, List.length_map, List.length_take, List.length_drop, List.length_replicate]; omega))) rfl rfl ?_
      refine o_give (g_cat (evv rfl) (evv rfl) (by (try simp only [bsOf, List.length_append, List.length_cons, List.length_nil, List.length_take, List.length_drop]); omega)) rfl rfl ?_
      refine o_give (g_assign (evv rfl)) rfl rfl ?_
      refine o_nil ?_
      refine c_blk ?_
      refine c_code ?_
      refine r_region (id := 6) ?_
      refine o_give (g_move (evv rfl)) rfl rfl ?_
      refine o_giveN (g_bin (evv rfl) (evv rfl) (by rfl)) (by simp only [inR]; omega) rfl ?_
      refine o_give (g_assign (evv rfl)) rfl rfl ?_
      refine o_nil ?_
      rw [← e1]
      refine c_loop (i + 1) ?_ ?_ (by repeat (first | exact trivial | refine ⟨rfl, ?_⟩ | refine envsub_v rfl (by first | rfl | (refine int_eq ?_; first | omega | (simp; omega) | (simp; done)) | (refine bool_eq ?_; first | (simp [*]; done) | (simp; done)) | (refine str_eq ?_; simp; done) | (refine ptr_eq ?_; omega) | fail) ?_)) ?_ <;> (try dsimp only)
      · omega
      · omega
      · exact Ent.refl _
    · refine r_exit rfl ?_
      refine c_code ?_
      refine r_seq ?_
      refine r_region (id := 8) ?_
      refine o_give (g_move (evv rfl)) rfl rfl ?_
      refine o_give (g_assign (evv rfl)) rfl rfl ?_
      refine o_nil ?_
      refine c_code ?_
      rw [List.take_of_length_le (by omega)]
      first | refine r_ret (rs := [.tmp 2]) rfl rfl _ (Ent.refl _) ?_ | refine c_end (rs := [.tmp 2]) rfl rfl _ (Ent.refl _) ?_
      refine ⟨?_, rfl⟩
      rw [show showR la = _ from if_neg hne]
      rfl
end VK
