/- A node's bytes: the code's. Conditions: texts of a machine's size. -/
import Derived.Test.YtpknikpkepcbcaaNode1
namespace VK
open Go Go.Proofs
set_option linter.unusedSimpArgs false
set_option linter.unusedVariables false
set_option maxRecDepth 100000
set_option maxHeartbeats 40000000
theorem newOutA {F : List Atom} (o : Nat) : Ent (blk o ⟨[.slice none 0 0], 72⟩ :: F) (outA o [] :: F) :=
  Ent.trans (Ent.cons (Ent.nilM by8 5)) (Ent.trans Ent.swap (Ent.trans (Ent.swap) (Ent.shut (X := fun v : Value => [blk o ⟨[v], 72⟩, sl v (mrow by8 5 [])]) _)))
def encT (n : NodeS) : List UInt8 := if nodeOk n then encN n else []
def encE (n : NodeS) : Int := if nodeOk n then 0 else 21
theorem flat_step {α : Type} [Inhabited α] {f : α → List UInt8} {l : List α} {i : Nat} (h : i < l.length) : (l.take (i + 1)).flatMap f = (l.take i).flatMap f ++ f (l.getD i default) := by
  rw [List.take_succ_eq_append_getElem h, List.flatMap_append]
  simp [List.getD_eq_getElem?_getD, h]
theorem nodEnc_c (L : List Atom) (n : NodeS) (pv iv : Value) (ho : n.ok) [r1 : Rd L pv (frow digC 32 52 n.parts)] [r2 : Rd L iv (frow itmC 34 54 n.items)] : Fn Try.prog 14 [agg (nodV n pv iv)] L fun w L' => ∃ v, w = .tuple #[v, .int .i64 (encE n)] ∧ L' = sl v (mrow by8 5 (encT n)) :: L := by
  by_cases hok : nodeOk n
  · rw [encE, if_pos hok, encT, if_pos hok]
    obtain ⟨kind, data, size, parts, items⟩ := n
    dsimp only at r1 r2
    rcases hok with ⟨h1, h2, h3, h4, h5, h6⟩ | ⟨h1, h2, h3, h4, h5, h6⟩ | ⟨h1, h2, h3, h4, h5, h6⟩ <;> dsimp only at h1 h2 h3 h4 h5 h6 <;> subst h1
    · have hok : nodeOk ⟨1, data, size, parts, items⟩ := .inl ⟨rfl, h2, h3, h4, h5, h6⟩
      have hde := decide_eq_true hok
      have c1 := num_le (Int.toNat 1) (by decide)
      refine fn_intro Try.func14 rfl Try.ntmps14 rfl (fun W0 => ?_)
      simp only [argE]
      refine r_seq ?_
      refine r_region (id := 0) ?_
      refine o_boxA (evv rfl) rfl (fun _ => ?_)
      refine o_give (g_assign (evv rfl)) rfl rfl ?_
      refine o_give (g_assign (evv rfl)) rfl rfl ?_
      refine o_nil ?_
      refine c_code ?_
      refine r_seq ?_
      refine r_seq ?_
      refine r_region (id := 1) ?_
      refine o_give (g_loadF (evv rfl) (by rfl) (by rfl)) rfl rfl ?_
      (refine o_call rfl _ (Ent.refl _) (rightN_c _ _ _ _ (by assumption)) rfl ?_; rintro _ _ ⟨rfl, hLz⟩; obtain rfl := hLz.symm; clear hLz)
      refine o_give (g_not (evv rfl)) rfl rfl ?_
      refine o_nil ?_
      refine c_code ?_
      rw [hde]
      refine r_cond_false rfl ?_
      refine r_skip ?_
      refine c_code ?_
      refine r_seq ?_
      refine r_region (id := 3) ?_
      refine o_alloc rfl rfl (fun _ => ?_)
      refine o_nil ?_
      refine c_code ?_
      refine r_seq ?_
      rename_i q o
      refine r_ent _ (newOutA o) ?_
      dsimp only [nodV]
      have ht : (textB data).length ≤ 100 := by have := num_le data.length (by omega); simp only [textB, List.length_append]; omega
      refine r_region (id := 4) ?_
      refine o_give (g_fld (evv rfl)) rfl rfl ?_
      refine o_give (g_load (evv rfl) (by rfl) (by rfl)) rfl rfl ?_
      refine o_giveN (g_conv TyU.h TyU.h (evv rfl)) (by simp only [inR]; omega) rfl ?_
      (refine o_call rfl _ (Ent.refl _) (Num_l _ (by omega) (by (try simp only [bsOf, List.length_append, List.length_cons, List.length_nil]); omega)) rfl ?_; rintro _ _ ⟨rfl, rfl⟩; (try simp only [Int.toNat_natCast]))
      refine o_nil ?_
      refine c_code ?_
      refine r_seq ?_
      refine r_seq ?_
      refine r_region (id := 5) ?_
      refine o_give (g_fld (evv rfl)) rfl rfl ?_
      refine o_give (g_load (evv rfl) (by rfl) (by rfl)) rfl rfl ?_
      refine o_nil ?_
      refine c_code ?_
      refine r_block ?_
      refine r_seq ?_
      refine r_region (id := 14) ?_
      refine o_give (g_bin (evv rfl) (evv rfl) (by rfl)) rfl rfl ?_
      refine o_give (g_assign (evv rfl)) rfl rfl ?_
      refine o_nil ?_
      refine c_code ?_
      refine r_cond_true rfl ?_
      refine r_region (id := 15) ?_
      refine o_give (g_fld (evv rfl)) rfl rfl ?_
      refine o_give (g_load (evv rfl) (by rfl) (by rfl)) rfl rfl ?_
      (refine o_call rfl _ (Ent.refl _) (Text_l (by (try simp only [bsOf, List.length_append, List.length_cons, List.length_nil]); omega)) rfl ?_; rintro _ _ ⟨rfl, rfl⟩)
      refine o_nil ?_
      refine c_blk ?_
      refine c_code ?_
      refine r_seq ?_
      refine r_region (id := 23) ?_
      (refine o_call rfl _ (Ent.refl _) (Bytes_l (by (try simp only [bsOf, List.length_append, List.length_cons, List.length_nil]); omega)) rfl ?_; rintro _ _ ⟨_, rfl⟩)
      refine o_give (g_assign (evv rfl)) rfl rfl ?_
      refine o_give (g_assign (evv rfl)) rfl rfl ?_
      refine o_nil ?_
      refine c_code ?_
      rename_i v
      have e : encN ⟨1, data, size, parts, items⟩ = [] ++ num (Int.toNat 1) ++ textB data := by simp [encN]
      rw [e]
      first | refine r_ret (rs := [.tmp 2, .tmp 3]) rfl rfl _ ((Ent.cons (Lay.ent (L' := L)))) ?_ | refine c_end (rs := [.tmp 2, .tmp 3]) rfl rfl _ ((Ent.cons (Lay.ent (L' := L)))) ?_
      exact ⟨_, rfl, rfl⟩
    · have hok : nodeOk ⟨2, data, size, parts, items⟩ := .inr (.inl ⟨rfl, h2, h3, h4, h5, h6⟩)
      have hde := decide_eq_true hok
      have c2 := num_le (Int.toNat 2) (by decide)
      have hpl : parts.length ≤ 16 := by rw [h5, cnt]; omega
      have b1 := num_le size.toNat (by omega)
      refine fn_intro Try.func14 rfl Try.ntmps14 rfl (fun W0 => ?_)
      simp only [argE]
      refine r_seq ?_
      refine r_region (id := 0) ?_
      refine o_boxA (evv rfl) rfl (fun _ => ?_)
      refine o_give (g_assign (evv rfl)) rfl rfl ?_
      refine o_give (g_assign (evv rfl)) rfl rfl ?_
      refine o_nil ?_
      refine c_code ?_
      refine r_seq ?_
      refine r_seq ?_
      refine r_region (id := 1) ?_
      refine o_give (g_loadF (evv rfl) (by rfl) (by rfl)) rfl rfl ?_
      (refine o_call rfl _ (Ent.refl _) (rightN_c _ _ _ _ (by assumption)) rfl ?_; rintro _ _ ⟨rfl, hLz⟩; obtain rfl := hLz.symm; clear hLz)
      refine o_give (g_not (evv rfl)) rfl rfl ?_
      refine o_nil ?_
      refine c_code ?_
      rw [hde]
      refine r_cond_false rfl ?_
      refine r_skip ?_
      refine c_code ?_
      refine r_seq ?_
      refine r_region (id := 3) ?_
      refine o_alloc rfl rfl (fun _ => ?_)
      refine o_nil ?_
      refine c_code ?_
      refine r_seq ?_
      rename_i q o
      refine r_ent _ (newOutA o) ?_
      dsimp only [nodV]
      refine r_region (id := 4) ?_
      refine o_give (g_fld (evv rfl)) rfl rfl ?_
      refine o_give (g_load (evv rfl) (by rfl) (by rfl)) rfl rfl ?_
      refine o_giveN (g_conv TyU.h TyU.h (evv rfl)) (by simp only [inR]; omega) rfl ?_
      (refine o_call rfl _ (Ent.refl _) (Num_l _ (by omega) (by (try simp only [bsOf, List.length_append, List.length_cons, List.length_nil]); omega)) rfl ?_; rintro _ _ ⟨rfl, rfl⟩; (try simp only [Int.toNat_natCast]))
      refine o_nil ?_
      refine c_code ?_
      refine r_seq ?_
      refine r_seq ?_
      refine r_region (id := 5) ?_
      refine o_give (g_fld (evv rfl)) rfl rfl ?_
      refine o_give (g_load (evv rfl) (by rfl) (by rfl)) rfl rfl ?_
      refine o_nil ?_
      refine c_code ?_
      refine r_block ?_
      refine r_seq ?_
      refine r_region (id := 14) ?_
      refine o_give (g_bin (evv rfl) (evv rfl) (by rfl)) rfl rfl ?_
      refine o_give (g_assign (evv rfl)) rfl rfl ?_
      refine o_nil ?_
      refine c_code ?_
      refine r_cond_false rfl ?_
      refine r_seq ?_
      refine r_region (id := 16) ?_
      refine o_give (g_bin (evv rfl) (evv rfl) (by rfl)) rfl rfl ?_
      refine o_give (g_assign (evv rfl)) rfl rfl ?_
      refine o_nil ?_
      refine c_code ?_
      refine r_cond_true rfl ?_
      refine r_seq ?_
      refine r_region (id := 17) ?_
      refine o_give (g_fld (evv rfl)) rfl rfl ?_
      refine o_give (g_load (evv rfl) (by rfl) (by rfl)) rfl rfl ?_
      refine o_giveN (g_conv TyU.h TyU.h (evv rfl)) (by simp only [inR]; omega) rfl ?_
      (refine o_call rfl _ (Ent.refl _) (Num_l _ (by omega) (by (try simp only [bsOf, List.length_append, List.length_cons, List.length_nil]); omega)) rfl ?_; rintro _ _ ⟨rfl, rfl⟩; (try simp only [Int.toNat_natCast]))
      refine o_nil ?_
      refine c_code ?_
      refine r_seq ?_
      refine r_region (id := 18) ?_
      refine o_give (g_fld (evv rfl)) rfl rfl ?_
      refine o_give (g_load (evv rfl) (by rfl) (by rfl)) rfl rfl ?_
      refine o_give (g_lenF (evv rfl)) rfl rfl ?_
      refine o_give (g_move (evv rfl)) rfl rfl ?_
      refine o_nil ?_
      refine c_code ?_
      refine r_block ?_
      rw [show [] ++ num (Int.toNat 2) ++ num size.toNat = num 2 ++ num size.toNat from rfl]
      refine r_loopE (σ := Nat) (fun i => i ≤ parts.length) (fun i => parts.length - i) (fun i => [(55, .v (.int .i64 i))]) [1, 4, 53, 54] (fun i => outA o (num 2 ++ num size.toNat ++ (parts.take i).flatMap (·.1)) :: blk q ⟨[.int .i64 2, str data, .int .i64 size, pv, iv], 27⟩ :: L) 0 (by dsimp only [pickE, pick1, lk2, Nat.reduceBEq, Nat.reduceAdd, Nat.zero_add, cond_true, cond_false] <;> exact rfl) ?_ (by repeat (first | exact trivial | refine ⟨rfl, ?_⟩ | refine envsub_v rfl (by first | rfl | (refine int_eq ?_; first | omega | (simp; omega) | (simp; done)) | (refine bool_eq ?_; first | (simp [*]; done) | (simp; done)) | (refine str_eq ?_; simp; done) | (refine ptr_eq ?_; omega) | fail) ?_)) ?_ ?_
      · exact Nat.zero_le _
      · simp only [List.take_zero, List.flatMap_nil, List.append_nil]
        exact Lay.ent
      rintro i hi; (try dsimp only at hi); dsimp only [List.cons_append, List.nil_append]
      refine r_seq ?_
      refine r_region (id := 19) ?_
      refine o_give (g_bin (evv rfl) (evv rfl) (by rfl)) rfl rfl ?_
      refine o_nil ?_
      refine c_code ?_
      refine r_seq ?_
      refine r_cond rfl (fun hc => ?_) (fun hc => ?_) <;> (try simp only [decide_eq_true_eq, decide_eq_false_iff_not, Bool.and_eq_true, Bool.or_eq_true, Bool.not_eq_true', Bool.and_eq_false_iff, Bool.or_eq_false_iff, Bool.not_eq_false', Bool.not_eq_true, Bool.not_eq_false, Bool.true_eq_false, Bool.false_eq_true, Int.not_lt, Int.not_le, not_and, not_or, ne_eq] at hc)
      · have hil : i < parts.length := by omega
        have hd := (parts.getD i default).2
        have hs := flat_step (f := fun d : Dig => d.1) hil
        have hfl := flat_len (f := fun d : Dig => d.1) (q := 32) (parts.take i) (fun a _ => by have := a.2; omega)
        have b2 := num_le 2 (by omega)
        rw [List.length_take] at hfl
        refine r_skip ?_
        refine c_code ?_
        refine r_seq ?_
        refine r_block ?_
        refine r_seq ?_
        refine r_region (id := 20) ?_
        refine o_give (g_idxFN (evv rfl) (evv rfl) (by rfl) (by rfl) (by first | omega | (have := of_decide_eq_true hg; omega) | (simp at hg; omega) | (simp only [List.length_set, List.length_append, List.length_cons, List.length_nil, List.length_map, List.length_take, List.length_drop, List.length_replicate]; omega))) rfl rfl ?_
        refine o_give (g_loadFr (evv rfl) (by rfl) (by first | (intro; rfl) | exact LenC.h) (by rfl) (by rfl) (by first | omega | (have := of_decide_eq_true hg; omega) | (simp at hg; omega) | (simp only [List.length_set, List.length_append, List.length_cons, List.length_nil, List.length_map, List.length_take, List.length_drop, List.length_replicate]; omega))) rfl rfl ?_
        refine o_alloc (cs := (bys (List.replicate 32 0))) rfl rfl (fun _ => ?_)
        refine o_storeW (evv rfl) (evv rfl) (by first | rfl | assumption | exact LenC.h _ | (simp [bys, *]; done) | fail) (by first | (intro _ _ _; exact bys_one _) | exact AllOne.h | (intro _ _ _ u hu; simp at hu; rcases hu with rfl | rfl | rfl | rfl | rfl | rfl | rfl | rfl <;> rfl) | fail) (by first | rfl | exact (LenC.h _).trans rfl | (simp [bys, *]; done) | (simp only [bys, List.length_map, *]; rfl) | fail) ?_
        refine o_nil ?_
        refine c_code ?_
        refine r_region (id := 21) ?_
        refine o_give (g_loadW (evv rfl) (by rfl) (LenC.h _)) rfl rfl ?_
        (refine o_call rfl _ (Ent.refl _) (Digest_l (by assumption) (by (try simp only [bsOf, List.length_append, List.length_cons, List.length_nil]); omega)) rfl ?_; rintro _ _ ⟨rfl, rfl⟩)
        refine o_nil ?_
        refine c_blk ?_
        refine c_code ?_
        refine r_region (id := 22) ?_
        refine o_giveN (g_bin (evv rfl) (evv rfl) (by rfl)) (by simp only [inR]; omega) rfl ?_
        refine o_give (g_move (evv rfl)) rfl rfl ?_
        refine o_nil ?_
        rw [List.append_assoc]
        refine c_loop (i + 1) ?_ ?_ (by repeat (first | exact trivial | refine ⟨rfl, ?_⟩ | refine envsub_v rfl (by first | rfl | (refine int_eq ?_; first | omega | (simp; omega) | (simp; done)) | (refine bool_eq ?_; first | (simp [*]; done) | (simp; done)) | (refine str_eq ?_; simp; done) | (refine ptr_eq ?_; omega) | fail) ?_)) ?_ <;> (try dsimp only)
        · omega
        · omega
        · rw [hs]
          exact Lay.ent
      · rw [List.take_of_length_le (by omega)]
        have hfl := flat_len (f := fun d : Dig => d.1) (q := 32) parts (fun a _ => by have := a.2; omega)
        have b2 := num_le 2 (by omega)
        refine r_exit rfl ?_
        refine c_blk ?_
        refine c_code ?_
        refine r_seq ?_
        refine r_region (id := 23) ?_
        (refine o_call rfl _ (Ent.refl _) (Bytes_l (by (try simp only [bsOf, List.length_append, List.length_cons, List.length_nil]); omega)) rfl ?_; rintro _ _ ⟨_, rfl⟩)
        refine o_give (g_assign (evv rfl)) rfl rfl ?_
        refine o_give (g_assign (evv rfl)) rfl rfl ?_
        refine o_nil ?_
        refine c_code ?_
        rename_i v
        have e : encN ⟨2, data, size, parts, items⟩ = num 2 ++ num size.toNat ++ parts.flatMap (·.1) := by simp [encN]
        rw [e]
        first | refine r_ret (rs := [.tmp 2, .tmp 3]) rfl rfl _ ((Ent.cons (Lay.ent (L' := L)))) ?_ | refine c_end (rs := [.tmp 2, .tmp 3]) rfl rfl _ ((Ent.cons (Lay.ent (L' := L)))) ?_
        exact ⟨_, rfl, rfl⟩
    · have hok : nodeOk ⟨3, data, size, parts, items⟩ := .inr (.inr ⟨rfl, h2, h3, h4, h5, h6⟩)
      have hde := decide_eq_true hok
      have c3 := num_le (Int.toNat 3) (by decide)
      have b1 := num_le items.length (by omega)
      refine fn_intro Try.func14 rfl Try.ntmps14 rfl (fun W0 => ?_)
      simp only [argE]
      refine r_seq ?_
      refine r_region (id := 0) ?_
      refine o_boxA (evv rfl) rfl (fun _ => ?_)
      refine o_give (g_assign (evv rfl)) rfl rfl ?_
      refine o_give (g_assign (evv rfl)) rfl rfl ?_
      refine o_nil ?_
      refine c_code ?_
      refine r_seq ?_
      refine r_seq ?_
      refine r_region (id := 1) ?_
      refine o_give (g_loadF (evv rfl) (by rfl) (by rfl)) rfl rfl ?_
      (refine o_call rfl _ (Ent.refl _) (rightN_c _ _ _ _ (by assumption)) rfl ?_; rintro _ _ ⟨rfl, hLz⟩; obtain rfl := hLz.symm; clear hLz)
      refine o_give (g_not (evv rfl)) rfl rfl ?_
      refine o_nil ?_
      refine c_code ?_
      rw [hde]
      refine r_cond_false rfl ?_
      refine r_skip ?_
      refine c_code ?_
      refine r_seq ?_
      refine r_region (id := 3) ?_
      refine o_alloc rfl rfl (fun _ => ?_)
      refine o_nil ?_
      refine c_code ?_
      refine r_seq ?_
      rename_i q o
      refine r_ent _ (newOutA o) ?_
      dsimp only [nodV]
      refine r_region (id := 4) ?_
      refine o_give (g_fld (evv rfl)) rfl rfl ?_
      refine o_give (g_load (evv rfl) (by rfl) (by rfl)) rfl rfl ?_
      refine o_giveN (g_conv TyU.h TyU.h (evv rfl)) (by simp only [inR]; omega) rfl ?_
      (refine o_call rfl _ (Ent.refl _) (Num_l _ (by omega) (by (try simp only [bsOf, List.length_append, List.length_cons, List.length_nil]); omega)) rfl ?_; rintro _ _ ⟨rfl, rfl⟩; (try simp only [Int.toNat_natCast]))
      refine o_nil ?_
      refine c_code ?_
      refine r_seq ?_
      refine r_seq ?_
      refine r_region (id := 5) ?_
      refine o_give (g_fld (evv rfl)) rfl rfl ?_
      refine o_give (g_load (evv rfl) (by rfl) (by rfl)) rfl rfl ?_
      refine o_nil ?_
      refine c_code ?_
      refine r_block ?_
      refine r_seq ?_
      refine r_region (id := 14) ?_
      refine o_give (g_bin (evv rfl) (evv rfl) (by rfl)) rfl rfl ?_
      refine o_give (g_assign (evv rfl)) rfl rfl ?_
      refine o_nil ?_
      refine c_code ?_
      refine r_cond_false rfl ?_
      refine r_seq ?_
      refine r_region (id := 16) ?_
      refine o_give (g_bin (evv rfl) (evv rfl) (by rfl)) rfl rfl ?_
      refine o_give (g_assign (evv rfl)) rfl rfl ?_
      refine o_nil ?_
      refine c_code ?_
      refine r_cond_false rfl ?_
      refine r_seq ?_
      refine r_region (id := 6) ?_
      refine o_give (g_fld (evv rfl)) rfl rfl ?_
      refine o_give (g_load (evv rfl) (by rfl) (by rfl)) rfl rfl ?_
      refine o_give (g_lenF (evv rfl)) rfl rfl ?_
      refine o_giveN (g_conv TyU.h TyU.h (evv rfl)) (by simp only [inR]; omega) rfl ?_
      (refine o_call rfl _ (Ent.refl _) (Num_l _ (by omega) (by (try simp only [bsOf, List.length_append, List.length_cons, List.length_nil]); omega)) rfl ?_; rintro _ _ ⟨rfl, rfl⟩; (try simp only [Int.toNat_natCast]))
      refine o_nil ?_
      refine c_code ?_
      refine r_seq ?_
      refine r_region (id := 7) ?_
      refine o_give (g_fld (evv rfl)) rfl rfl ?_
      refine o_give (g_load (evv rfl) (by rfl) (by rfl)) rfl rfl ?_
      refine o_give (g_lenF (evv rfl)) rfl rfl ?_
      refine o_give (g_move (evv rfl)) rfl rfl ?_
      refine o_nil ?_
      refine c_code ?_
      refine r_block ?_
      rw [show [] ++ num (Int.toNat 3) ++ num items.length = num 3 ++ num items.length from rfl]
      refine r_loopE (σ := Nat) (fun i => i ≤ items.length) (fun i => items.length - i) (fun i => [(26, .v (.int .i64 i))]) [4, 24, 25] (fun i => outA o (num 3 ++ num items.length ++ (items.take i).flatMap itmB) :: blk q ⟨[.int .i64 3, str data, .int .i64 size, pv, iv], 27⟩ :: L) 0 (by dsimp only [pickE, pick1, lk2, Nat.reduceBEq, Nat.reduceAdd, Nat.zero_add, cond_true, cond_false] <;> exact rfl) ?_ (by repeat (first | exact trivial | refine ⟨rfl, ?_⟩ | refine envsub_v rfl (by first | rfl | (refine int_eq ?_; first | omega | (simp; omega) | (simp; done)) | (refine bool_eq ?_; first | (simp [*]; done) | (simp; done)) | (refine str_eq ?_; simp; done) | (refine ptr_eq ?_; omega) | fail) ?_)) ?_ ?_
      · exact Nat.zero_le _
      · simp only [List.take_zero, List.flatMap_nil, List.append_nil]
        exact Lay.ent
      rintro i hi; (try dsimp only at hi); dsimp only [List.cons_append, List.nil_append]
      refine r_seq ?_
      refine r_region (id := 8) ?_
      refine o_give (g_bin (evv rfl) (evv rfl) (by rfl)) rfl rfl ?_
      refine o_nil ?_
      refine c_code ?_
      refine r_seq ?_
      have hmem : ∀ x ∈ items, (itmB x).length ≤ 50 := fun x hx => by obtain ⟨⟨_, h, _⟩, h'⟩ := rises_mem h6 hx; exact itmB_len h h'
      have b2 := num_le 3 (by omega)
      refine r_cond rfl (fun hc => ?_) (fun hc => ?_) <;> (try simp only [decide_eq_true_eq, decide_eq_false_iff_not, Bool.and_eq_true, Bool.or_eq_true, Bool.not_eq_true', Bool.and_eq_false_iff, Bool.or_eq_false_iff, Bool.not_eq_false', Bool.not_eq_true, Bool.not_eq_false, Bool.true_eq_false, Bool.false_eq_true, Int.not_lt, Int.not_le, not_and, not_or, ne_eq] at hc)
      · have hil : i < items.length := by omega
        have hd := (items.getD i default).sum.2
        obtain ⟨hnm, hkk⟩ := rises_mem h6 (show items.getD i default ∈ items by simp [hil])
        have hnl := hnm.2.1
        have hs := flat_step (f := itmB) hil
        have hfl := flat_len (f := itmB) (q := 50) (items.take i) (fun a ha => hmem a (List.mem_of_mem_take ha))
        rw [List.length_take] at hfl
        have b3 := num_le (items.getD i default).kind.toNat (by omega)
        have b4 := num_le (items.getD i default).name.length (by omega)
        have b5 : (textB (items.getD i default).name).length ≤ 100 := by simp only [textB, List.length_append]; omega
        refine r_skip ?_
        refine c_code ?_
        refine r_seq ?_
        refine r_block ?_
        refine r_seq ?_
        refine r_region (id := 9) ?_
        refine o_give (g_idxFN (evv rfl) (evv rfl) (by rfl) (by rfl) (by first | omega | (have := of_decide_eq_true hg; omega) | (simp at hg; omega) | (simp only [List.length_set, List.length_append, List.length_cons, List.length_nil, List.length_map, List.length_take, List.length_drop, List.length_replicate]; omega))) rfl rfl ?_
        refine o_give (g_loadFr (evv rfl) (by rfl) (by first | (intro; rfl) | exact LenC.h) (by rfl) (by rfl) (by first | omega | (have := of_decide_eq_true hg; omega) | (simp at hg; omega) | (simp only [List.length_set, List.length_append, List.length_cons, List.length_nil, List.length_map, List.length_take, List.length_drop, List.length_replicate]; omega))) rfl rfl ?_
        refine o_alloc (cs := ((Go.Value.string { data := #[] }) :: (Go.Value.int Go.IntKind.i64 0) :: bys (List.replicate 32 0))) rfl rfl (fun _ => ?_)
        refine o_storeW (evv rfl) (evv rfl) (by first | rfl | assumption | exact LenC.h _ | (simp [bys, *]; done) | fail) (by first | (intro _ _ _; exact bys_one _) | exact AllOne.h | (intro _ _ _ u hu; simp at hu; rcases hu with rfl | rfl | rfl | rfl | rfl | rfl | rfl | rfl <;> rfl) | fail) (by first | rfl | exact (LenC.h _).trans rfl | (simp [bys, *]; done) | (simp only [bys, List.length_map, *]; rfl) | fail) ?_
        refine o_nil ?_
        refine c_code ?_
        refine r_seq ?_
        refine r_region (id := 10) ?_
        refine o_give (g_fld (evv rfl)) rfl rfl ?_
        refine o_give (g_load (evv rfl) (by rfl) (by rfl)) rfl rfl ?_
        (refine o_call rfl _ (Ent.refl _) (Text_l (by (try simp only [bsOf, List.length_append, List.length_cons, List.length_nil]); omega)) rfl ?_; rintro _ _ ⟨rfl, rfl⟩)
        refine o_nil ?_
        refine c_code ?_
        refine r_seq ?_
        refine r_region (id := 11) ?_
        refine o_give (g_fld (evv rfl)) rfl rfl ?_
        refine o_give (g_load (evv rfl) (by rfl) (by rfl)) rfl rfl ?_
        refine o_giveN (g_conv TyU.h TyU.h (evv rfl)) (by simp only [inR]; omega) rfl ?_
        (refine o_call rfl _ (Ent.refl _) (Num_l _ (by omega) (by (try simp only [bsOf, List.length_append, List.length_cons, List.length_nil]); omega)) rfl ?_; rintro _ _ ⟨rfl, rfl⟩; (try simp only [Int.toNat_natCast]))
        refine o_nil ?_
        refine c_code ?_
        refine r_region (id := 12) ?_
        refine o_give (g_fld (evv rfl)) rfl rfl ?_
        refine o_give (g_loadPt (evv rfl) (by rfl)) rfl rfl ?_
        (refine o_call rfl _ (Ent.refl _) (Digest_l (by assumption) (by (try simp only [bsOf, List.length_append, List.length_cons, List.length_nil]); omega)) rfl ?_; rintro _ _ ⟨rfl, rfl⟩)
        refine o_nil ?_
        refine c_blk ?_
        refine c_code ?_
        refine r_region (id := 13) ?_
        refine o_giveN (g_bin (evv rfl) (evv rfl) (by rfl)) (by simp only [inR]; omega) rfl ?_
        refine o_give (g_move (evv rfl)) rfl rfl ?_
        refine o_nil ?_
        refine c_loop (i + 1) ?_ ?_ (by repeat (first | exact trivial | refine ⟨rfl, ?_⟩ | refine envsub_v rfl (by first | rfl | (refine int_eq ?_; first | omega | (simp; omega) | (simp; done)) | (refine bool_eq ?_; first | (simp [*]; done) | (simp; done)) | (refine str_eq ?_; simp; done) | (refine ptr_eq ?_; omega) | fail) ?_)) ?_ <;> (try dsimp only)
        · omega
        · omega
        · rw [hs, itmB]
          simp only [List.append_assoc]
          exact Lay.ent
      · rw [List.take_of_length_le (by omega)]
        have hfl := flat_len (f := itmB) (q := 50) items hmem
        refine r_exit rfl ?_
        refine c_blk ?_
        refine c_code ?_
        refine r_seq ?_
        refine r_region (id := 23) ?_
        (refine o_call rfl _ (Ent.refl _) (Bytes_l (by (try simp only [bsOf, List.length_append, List.length_cons, List.length_nil]); omega)) rfl ?_; rintro _ _ ⟨_, rfl⟩)
        refine o_give (g_assign (evv rfl)) rfl rfl ?_
        refine o_give (g_assign (evv rfl)) rfl rfl ?_
        refine o_nil ?_
        refine c_code ?_
        rename_i v
        have e : encN ⟨3, data, size, parts, items⟩ = num 3 ++ num items.length ++ items.flatMap itmB := by simp [encN]
        rw [e]
        first | refine r_ret (rs := [.tmp 2, .tmp 3]) rfl rfl _ ((Ent.cons (Lay.ent (L' := L)))) ?_ | refine c_end (rs := [.tmp 2, .tmp 3]) rfl rfl _ ((Ent.cons (Lay.ent (L' := L)))) ?_
        exact ⟨_, rfl, rfl⟩
  · rw [encE, if_neg hok, encT, if_neg hok]
    have hde := decide_eq_false hok
    refine fn_intro Try.func14 rfl Try.ntmps14 rfl (fun W0 => ?_)
    simp only [argE]
    refine r_seq ?_
    refine r_region (id := 0) ?_
    refine o_boxA (evv rfl) rfl (fun _ => ?_)
    refine o_give (g_assign (evv rfl)) rfl rfl ?_
    refine o_give (g_assign (evv rfl)) rfl rfl ?_
    refine o_nil ?_
    refine c_code ?_
    refine r_seq ?_
    refine r_seq ?_
    refine r_region (id := 1) ?_
    refine o_give (g_loadF (evv rfl) (by rfl) (by rfl)) rfl rfl ?_
    (refine o_call rfl _ (Ent.refl _) (rightN_c _ _ _ _ (by assumption)) rfl ?_; rintro _ _ ⟨rfl, hLz⟩; obtain rfl := hLz.symm; clear hLz)
    refine o_give (g_not (evv rfl)) rfl rfl ?_
    refine o_nil ?_
    refine c_code ?_
    rw [hde]
    refine r_cond_true rfl ?_
    refine r_seq ?_
    refine r_region (id := 2) ?_
    refine o_give (g_assign (evv rfl)) rfl rfl ?_
    refine o_give (g_assign (evv rfl)) rfl rfl ?_
    refine o_nil ?_
    refine c_code ?_
    first | refine r_ret (rs := [.tmp 2, .tmp 3]) rfl rfl _ (((Ent.drop).trans (Ent.nilM by8 5))) ?_ | refine c_end (rs := [.tmp 2, .tmp 3]) rfl rfl _ (((Ent.drop).trans (Ent.nilM by8 5))) ?_
    exact ⟨_, rfl, rfl⟩
end VK
