/- A result's bytes: written and read, the code's and the reference's. Conditions: texts of a machine's size. -/
import Derived.Test.YtmiebacicnmojaaOpE
namespace VK
open Go Go.Proofs
set_option linter.unusedSimpArgs false
set_option linter.unusedVariables false
set_option maxRecDepth 100000
set_option maxHeartbeats 40000000
structure Res where
  code : Int
  dir : Bool
  size : Int
  data : List UInt8
  names : List (List UInt8)
  deriving DecidableEq, Inhabited
def Res.ok (r : Res) : Prop := inR .i64 r.code ∧ inR .i64 r.size ∧ r.data.length ≤ 9223372036854775807 ∧ (∀ n ∈ r.names, n.length ≤ 9223372036854775807)
abbrev reslV (r : Res) (nv : Value) : List Value := [.int .i64 r.code, .bool r.dir, .int .i64 r.size, str r.data, nv]
def zeroRes : Res := ⟨0, false, 0, [], []⟩
def longRes (r : Res) : Prop := 1100 < r.data.length ∨ ∃ n ∈ r.names, 1100 < n.length
instance (r : Res) : Decidable (longRes r) := by unfold longRes; infer_instance
def packE (r : Res) : Int := if longRes r then 2 else if 512 < r.names.length then 8 else 0
def encRes (r : Res) : List UInt8 := intB r.code ++ flagB r.dir ++ intB r.size ++ textB r.data ++ num r.names.length ++ r.names.flatMap textB
def packB (r : Res) : List UInt8 := if packE r = 0 then encRes r else []
/-! ### plain -/
def namesGo : Nat → InS → List (List UInt8) × InS
  | 0, s => ([], s)
  | k + 1, s => ((textR 1100 s).1 :: (namesGo k (textR 1100 s).2).1, (namesGo k (textR 1100 s).2).2)
def resN (b : List UInt8) : Nat × InS := numR (textR 1100 (numR (flagR (numR ⟨b, 0⟩).2).2).2).2
def resR (b : List UInt8) : Res × InS :=
  (⟨unzig (numR ⟨b, 0⟩).1, (flagR (numR ⟨b, 0⟩).2).1, unzig (numR (flagR (numR ⟨b, 0⟩).2).2).1, (textR 1100 (numR (flagR (numR ⟨b, 0⟩).2).2).2).1, (namesGo (resN b).1 (resN b).2).1⟩, (namesGo (resN b).1 (resN b).2).2)
def decRes (b : List UInt8) : Option Res := if 512 < (resN b).1 then none else if (resR b).2.err = 0 ∧ (resR b).2.bs.length = 0 then some (resR b).1 else none
theorem namesGo_back : ∀ (ns : List (List UInt8)) (r : List UInt8), (∀ n ∈ ns, n.length ≤ 1100) → namesGo ns.length ⟨ns.flatMap textB ++ r, 0⟩ = (ns, ⟨r, 0⟩)
  | [], r, _ => rfl
  | n :: ns, r, h => by
    have h1 := h n (by simp)
    have e := textR_back (s := n) (r := ns.flatMap textB ++ r) (most := 1100) (by omega) (by omega)
    rw [List.flatMap_cons, List.append_assoc, List.length_cons, namesGo, e, namesGo_back ns r (fun m hm => h m (by simp [hm]))]
theorem namesGo_canon : ∀ (k : Nat) (s : InS) (ns : List (List UInt8)) (r : List UInt8), namesGo k s = (ns, ⟨r, 0⟩) → s = ⟨ns.flatMap textB ++ r, 0⟩ ∧ ns.length = k ∧ ∀ n ∈ ns, n.length ≤ 1100
  | 0, s, ns, r, h => by
    simp only [namesGo, Prod.mk.injEq] at h
    obtain ⟨rfl, rfl⟩ := h
    exact ⟨rfl, rfl, fun n hn => by simp at hn⟩
  | k + 1, s, ns, r, h => by
    simp only [namesGo, Prod.mk.injEq] at h
    obtain ⟨rfl, h⟩ := h
    obtain ⟨h1, h2, h3⟩ := namesGo_canon k (textR 1100 s).2 _ r (Prod.ext rfl h)
    obtain ⟨h4, h5⟩ := text_canon (s := s) (Prod.ext rfl h1)
    refine ⟨h4.trans ?_, by rw [List.length_cons, h2], fun n hn => ?_⟩
    · rw [List.flatMap_cons, List.append_assoc]
    · rcases List.mem_cons.1 hn with rfl | hn
      · have l2 : ((textR 1100 s).1.length : Int) ≤ max 1100 0 := h5
        omega
      · exact h3 n hn
theorem long_no {r : Res} (h : ¬ longRes r) : r.data.length ≤ 1100 ∧ ∀ n ∈ r.names, n.length ≤ 1100 := by
  unfold longRes at h
  simp only [not_or, not_exists, not_and] at h
  exact ⟨by omega, fun n hn => by have := h.2 n hn; omega⟩
theorem resR_back {r : Res} (ho : r.ok) (hl : ¬ longRes r) (hn : r.names.length ≤ 512) (rest : List UInt8) : resN (encRes r ++ rest) = (r.names.length, ⟨r.names.flatMap textB ++ rest, 0⟩) ∧ resR (encRes r ++ rest) = (r, ⟨rest, 0⟩) := by
  obtain ⟨code, dir, size, data, names⟩ := r
  obtain ⟨h1, h2, h3, h4⟩ := ho
  obtain ⟨l1, l2⟩ := long_no hl
  dsimp only at *
  simp only [inR] at h1 h2
  have hz1 := zig_le code h1.1 h1.2
  have hz2 := zig_le size h2.1 h2.2
  have e1 := numR_num (m := zig code) (flagB dir ++ (num (zig size) ++ (textB data ++ (num names.length ++ (names.flatMap textB ++ rest))))) hz1
  have e2 := flagR_back (b := dir) (r := num (zig size) ++ (textB data ++ (num names.length ++ (names.flatMap textB ++ rest))))
  have e3 := numR_num (m := zig size) (textB data ++ (num names.length ++ (names.flatMap textB ++ rest))) hz2
  have e4 := textR_back (s := data) (r := num names.length ++ (names.flatMap textB ++ rest)) (most := 1100) (by omega) (by omega)
  have e5 := numR_num (m := names.length) (names.flatMap textB ++ rest) (by omega)
  have e6 := namesGo_back names rest l2
  have e0 : encRes ⟨code, dir, size, data, names⟩ ++ rest = num (zig code) ++ (flagB dir ++ (num (zig size) ++ (textB data ++ (num names.length ++ (names.flatMap textB ++ rest))))) := by simp [encRes, intB]
  have hN : resN (encRes ⟨code, dir, size, data, names⟩ ++ rest) = (names.length, ⟨names.flatMap textB ++ rest, 0⟩) := by
    rw [e0]
    simp only [resN, e1, e2, e3, e4, e5]
  refine ⟨hN, ?_⟩
  unfold resR
  rw [hN, e6, e0]
  simp only [e1, e2, e3, e4, unzig_zig]
theorem resR_canon {b : List UInt8} {r : Res} (h : resR b = (r, ⟨[], 0⟩)) : b = encRes r ∧ ¬ longRes r ∧ r.names.length = (resN b).1 := by
  unfold resR at h
  simp only [Prod.mk.injEq] at h
  obtain ⟨rfl, h⟩ := h
  obtain ⟨h6, h7, h8⟩ := namesGo_canon _ _ _ _ (Prod.ext rfl h)
  have h5 := num_canon (s := (textR 1100 (numR (flagR (numR ⟨b, 0⟩).2).2).2).2) (m := (resN b).1) (Prod.ext rfl h6)
  have h4 := text_canon (s := (numR (flagR (numR ⟨b, 0⟩).2).2).2) (Prod.ext rfl h5)
  have h3 := num_canon (s := (flagR (numR ⟨b, 0⟩).2).2) (Prod.ext rfl h4.1)
  have h2 := flag_canon (s := (numR ⟨b, 0⟩).2) (Prod.ext rfl h3)
  have h1 := num_canon (s := ⟨b, 0⟩) (Prod.ext rfl h2)
  have l4 : ((textR 1100 (numR (flagR (numR ⟨b, 0⟩).2).2).2).1.length : Int) ≤ max 1100 0 := h4.2
  refine ⟨?_, ?_, h7⟩
  · have := congrArg InS.bs h1
    refine this.trans ?_
    simp [encRes, intB, zig_unzig, h7]
  · unfold longRes
    rintro (h | ⟨n, hn, h⟩)
    · dsimp only at h; omega
    · have := h8 n hn
      omega
theorem unpack_pack {r : Res} (ho : r.ok) (h : packE r = 0) : decRes (encRes r) = some r := by
  have hl : ¬ longRes r := fun hl => by rw [packE, if_pos hl] at h; cases h
  have hn : r.names.length ≤ 512 := by
    rw [packE, if_neg hl] at h
    split at h
    · cases h
    · omega
  have := resR_back ho hl hn []
  rw [List.append_nil] at this
  unfold decRes
  rw [this.1, this.2, if_neg (by dsimp only; omega), if_pos ⟨rfl, rfl⟩]
theorem unpack_canon {b : List UInt8} {r : Res} (h : decRes b = some r) : b = encRes r ∧ packE r = 0 ∧ r.ok := by
  unfold decRes at h
  split at h
  · cases h
  · rename_i h5
    split at h
    · rename_i hc
      cases h
      have : resR b = ((resR b).1, ⟨[], 0⟩) := by
        refine Prod.ext rfl ?_
        have h2 := List.eq_nil_of_length_eq_zero hc.2
        have h1 := hc.1
        generalize (resR b).2 = s at *
        cases s
        simp only at h1 h2
        rw [h1, h2]
      obtain ⟨e, hl, hn⟩ := resR_canon this
      have hll := long_no hl
      refine ⟨e, ?_, unzig_in (numR_le _), unzig_in (numR_le _), by have := hll.1; omega, fun n hn => by have := hll.2 n hn; omega⟩
      rw [packE, if_neg hl, if_neg (by omega)]
    · cases h
/-! ### walks -/
theorem names_len : ∀ (ns : List (List UInt8)), (∀ n ∈ ns, n.length ≤ 1100) → (ns.flatMap textB).length ≤ 1110 * ns.length
  | [], _ => by simp
  | n :: ns, h => by
    have h1 := h n (by simp)
    have h2 := textB_len (s := n) (by omega)
    have := names_len ns (fun m hm => h m (by simp [hm]))
    rw [List.flatMap_cons, List.length_append, List.length_cons]
    omega
theorem names_step {ns : List (List UInt8)} {i : Nat} (h : i < ns.length) : (ns.take (i + 1)).flatMap textB = (ns.take i).flatMap textB ++ textB (ns.getD i default) := by
  rw [List.take_succ_eq_append_getElem h, List.flatMap_append]
  simp [List.getD_eq_getElem?_getD, h]
/-- the longest of the first i names -/
def longT (d : Nat) (ns : List (List UInt8)) : Int := ns.foldl (fun m n => max m (n.length : Int)) (d : Int)
theorem longT_le (d : Nat) (b : Int) (ns : List (List UInt8)) : longT d ns ≤ b ↔ (d : Int) ≤ b ∧ ∀ n ∈ ns, (n.length : Int) ≤ b := by
  unfold longT
  generalize (d : Int) = z
  induction ns generalizing z with
  | nil => simp
  | cons n ns ih =>
    rw [List.foldl_cons, ih]
    simp only [List.mem_cons, forall_eq_or_imp]
    constructor
    · rintro ⟨h1, h2⟩; exact ⟨by omega, by omega, h2⟩
    · rintro ⟨h1, h2, h3⟩; exact ⟨by omega, h3⟩
theorem longT_step {d : Nat} {ns : List (List UInt8)} {i : Nat} (h : i < ns.length) : longT d (ns.take (i + 1)) = max (longT d (ns.take i)) ((ns.getD i default).length : Int) := by
  unfold longT
  rw [List.take_succ_eq_append_getElem h, List.foldl_append]
  simp [List.getD_eq_getElem?_getD, h]
theorem longT_ge (d : Nat) (ns : List (List UInt8)) : 0 ≤ longT d ns := by
  have := ((longT_le d (longT d ns) ns).1 (Int.le_refl _)).1
  omega
theorem long_iff (r : Res) : longRes r ↔ 1100 < longT r.data.length r.names := by
  rw [← Decidable.not_iff_not, show ¬ (1100 < longT r.data.length r.names) ↔ longT r.data.length r.names ≤ 1100 by omega, longT_le]
  unfold longRes
  simp only [not_or, not_exists, not_and]
  constructor
  · rintro ⟨h1, h2⟩; exact ⟨by omega, fun n hn => by have := h2 n hn; omega⟩
  · rintro ⟨h1, h2⟩; exact ⟨by omega, fun n hn => by have := h2 n hn; omega⟩
theorem Pack_c (L : List Atom) (r : Res) (nv : Value) (ho : r.ok) [rn : Rd L nv (mrow str 9 r.names)] : Fn Try.prog 20 [agg (reslV r nv)] L fun w L' => ∃ v, w = .tuple #[v, .int .i64 (packE r)] ∧ L' = sl v (mrow by8 5 (packB r)) :: L := by
  refine fn_lenM rn fun hlen => ?_
  have hlen : r.names.length ≤ 2 ^ 63 - 1 := hlen
  obtain ⟨h1, h2, h3, h4⟩ := ho
  have b1 := intB_len h1
  have b2 := intB_len h2
  simp only [inR] at h1 h2
  have hli := long_iff r
  refine fn_intro Try.func20 rfl Try.ntmps20 rfl (fun W0 => ?_)
  simp only [argE]
  refine r_seq ?_
  refine r_region (id := 0) ?_
  refine o_boxA (evv rfl) rfl (fun _ => ?_)
  refine o_give (g_assign (evv rfl)) rfl rfl ?_
  refine o_give (g_assign (evv rfl)) rfl rfl ?_
  refine o_nil ?_
  refine c_code ?_
  refine r_seq ?_
  refine r_region (id := 1) ?_
  refine o_give (g_fld (evv rfl)) rfl rfl ?_
  refine o_give (g_load (evv rfl) (by rfl) (by rfl)) rfl rfl ?_
  refine o_give (g_lenS TyU.h (evv rfl)) rfl rfl ?_
  refine o_give (g_assign (evv rfl)) rfl rfl ?_
  refine o_nil ?_
  refine c_code ?_
  refine r_seq ?_
  refine r_seq ?_
  refine r_region (id := 2) ?_
  refine o_give (g_fld (evv rfl)) rfl rfl ?_
  refine o_give (g_load (evv rfl) (by rfl) (by rfl)) rfl rfl ?_
  refine o_give (g_lenM (evv rfl)) rfl rfl ?_
  refine o_give (g_move (evv rfl)) rfl rfl ?_
  refine o_nil ?_
  refine c_code ?_
  refine r_block ?_
  rename_i q
  refine r_loopE (σ := Nat) (fun i => i ≤ r.names.length) (fun i => r.names.length - i) (fun i => [(4, .v (.int .i64 (longT r.data.length (r.names.take i)))), (16, .v (.int .i64 i))]) [1, 14, 15] (fun i => blk q ⟨reslV r nv, 42⟩ :: L) 0 (by dsimp only [pickE, pick1, lk2, Nat.reduceBEq, Nat.reduceAdd, Nat.zero_add, cond_true, cond_false] <;> exact rfl) ?_ (by repeat (first | exact trivial | refine ⟨rfl, ?_⟩ | refine envsub_v rfl (by first | rfl | (refine int_eq ?_; first | omega | (simp; omega) | (simp; done)) | (refine bool_eq ?_; first | (simp [*]; done) | (simp; done)) | (refine str_eq ?_; simp; done) | (refine ptr_eq ?_; omega) | fail) ?_)) ?_ ?_
  · exact Nat.zero_le _
  · exact Ent.refl _
  rintro i hi; (try dsimp only at hi); dsimp only [List.cons_append, List.nil_append]
  refine r_seq ?_
  refine r_region (id := 3) ?_
  refine o_give (g_bin (evv rfl) (evv rfl) (by rfl)) rfl rfl ?_
  refine o_nil ?_
  refine c_code ?_
  refine r_seq ?_
  refine r_cond rfl (fun hc => ?_) (fun hc => ?_) <;> (try simp only [decide_eq_true_eq, decide_eq_false_iff_not, Bool.and_eq_true, Bool.or_eq_true, Bool.not_eq_true', Bool.and_eq_false_iff, Bool.or_eq_false_iff, Bool.not_eq_false', Bool.not_eq_true, Bool.not_eq_false, Bool.true_eq_false, Bool.false_eq_true, Int.not_lt, Int.not_le, not_and, not_or, ne_eq] at hc)
  · have hil : i < r.names.length := by omega
    have hs := longT_step (d := r.data.length) hil
    have hnl := h4 (r.names.getD i default) (by simp [hil])
    refine r_skip ?_
    refine c_code ?_
    refine r_seq ?_
    refine r_block ?_
    refine r_seq ?_
    refine r_region (id := 4) ?_
    refine o_give (g_idxMN (evv rfl) (evv rfl) (by rfl) (by first | omega | (have := of_decide_eq_true hg; omega) | (simp at hg; omega) | (simp only [List.length_set, List.length_append, List.length_cons, List.length_nil, List.length_map, List.length_take, List.length_drop, List.length_replicate]; omega))) rfl rfl ?_
    refine o_give (g_loadM (evv rfl) (by rfl) (by first | omega | (have := of_decide_eq_true hg; omega) | (simp at hg; omega) | (simp only [List.length_set, List.length_append, List.length_cons, List.length_nil, List.length_map, List.length_take, List.length_drop, List.length_replicate]; omega))) rfl rfl ?_
    refine o_give (g_assign (evv rfl)) rfl rfl ?_
    refine o_nil ?_
    refine c_code ?_
    refine r_region (id := 5) ?_
    refine o_give (g_move (evv rfl)) rfl rfl ?_
    refine o_give (g_move (evv rfl)) rfl rfl ?_
    refine o_give (g_lenS TyU.h (evv rfl)) rfl rfl ?_
    refine o_give (g_max2 (evv rfl) (evv rfl)) rfl rfl ?_
    refine o_give (g_assign (evv rfl)) rfl rfl ?_
    refine o_nil ?_
    refine c_blk ?_
    refine c_code ?_
    refine r_region (id := 6) ?_
    refine o_giveN (g_bin (evv rfl) (evv rfl) (by rfl)) (by simp only [inR]; omega) rfl ?_
    refine o_give (g_move (evv rfl)) rfl rfl ?_
    refine o_nil ?_
    rw [← hs]
    refine c_loop (i + 1) ?_ ?_ (by repeat (first | exact trivial | refine ⟨rfl, ?_⟩ | refine envsub_v rfl (by first | rfl | (refine int_eq ?_; first | omega | (simp; omega) | (simp; done)) | (refine bool_eq ?_; first | (simp [*]; done) | (simp; done)) | (refine str_eq ?_; simp; done) | (refine ptr_eq ?_; omega) | fail) ?_)) ?_ <;> (try dsimp only)
    · omega
    · omega
    · exact Ent.refl _
  · rw [List.take_of_length_le (by omega)]
    refine r_exit rfl ?_
    refine c_code ?_
    refine r_seq ?_
    refine r_block ?_
    refine r_seq ?_
    refine r_region (id := 7) ?_
    refine o_give (g_move (evv rfl)) rfl rfl ?_
    refine o_give (g_bin (evv rfl) (evv rfl) (by rfl)) rfl rfl ?_
    refine o_give (g_assign (evv rfl)) rfl rfl ?_
    refine o_nil ?_
    refine c_code ?_
    refine r_cond rfl (fun hl => ?_) (fun hl => ?_) <;> (try simp only [decide_eq_true_eq, decide_eq_false_iff_not, Bool.and_eq_true, Bool.or_eq_true, Bool.not_eq_true', Bool.and_eq_false_iff, Bool.or_eq_false_iff, Bool.not_eq_false', Bool.not_eq_true, Bool.not_eq_false, Bool.true_eq_false, Bool.false_eq_true, Int.not_lt, Int.not_le, not_and, not_or, ne_eq] at hl)
    · have e1 : packE r = 2 := if_pos (hli.2 hl)
      rw [packB, e1, if_neg (by decide)]
      refine r_seq ?_
      refine r_region (id := 8) ?_
      refine o_give (g_assign (evv rfl)) rfl rfl ?_
      refine o_give (g_assign (evv rfl)) rfl rfl ?_
      refine o_nil ?_
      refine c_code ?_
      first | refine r_ret (rs := [.tmp 2, .tmp 3]) rfl rfl _ (((Lay.ent (L' := L)).trans (Ent.nilM by8 5))) ?_ | refine c_end (rs := [.tmp 2, .tmp 3]) rfl rfl _ (((Lay.ent (L' := L)).trans (Ent.nilM by8 5))) ?_
      exact ⟨_, rfl, rfl⟩
    · have hl2 : ¬ longRes r := fun h => by have := hli.1 h; omega
      obtain ⟨l1, l2⟩ := long_no hl2
      refine r_seq ?_
      refine r_region (id := 9) ?_
      refine o_give (g_fld (evv rfl)) rfl rfl ?_
      refine o_give (g_load (evv rfl) (by rfl) (by rfl)) rfl rfl ?_
      refine o_give (g_lenM (evv rfl)) rfl rfl ?_
      refine o_give (g_bin (evv rfl) (evv rfl) (by rfl)) rfl rfl ?_
      refine o_give (g_assign (evv rfl)) rfl rfl ?_
      refine o_nil ?_
      refine c_code ?_
      refine r_cond rfl (fun hn => ?_) (fun hn => ?_) <;> (try simp only [decide_eq_true_eq, decide_eq_false_iff_not, Bool.and_eq_true, Bool.or_eq_true, Bool.not_eq_true', Bool.and_eq_false_iff, Bool.or_eq_false_iff, Bool.not_eq_false', Bool.not_eq_true, Bool.not_eq_false, Bool.true_eq_false, Bool.false_eq_true, Int.not_lt, Int.not_le, not_and, not_or, ne_eq] at hn)
      · have e1 : packE r = 8 := (if_neg hl2).trans (if_pos (by omega))
        rw [packB, e1, if_neg (by decide)]
        refine r_seq ?_
        refine r_region (id := 10) ?_
        refine o_give (g_assign (evv rfl)) rfl rfl ?_
        refine o_give (g_assign (evv rfl)) rfl rfl ?_
        refine o_nil ?_
        refine c_code ?_
        first | refine r_ret (rs := [.tmp 2, .tmp 3]) rfl rfl _ (((Lay.ent (L' := L)).trans (Ent.nilM by8 5))) ?_ | refine c_end (rs := [.tmp 2, .tmp 3]) rfl rfl _ (((Lay.ent (L' := L)).trans (Ent.nilM by8 5))) ?_
        exact ⟨_, rfl, rfl⟩
      · have e1 : packE r = 0 := (if_neg hl2).trans (if_neg (by omega))
        rw [packB, e1, if_pos rfl]
        have t3 := textB_len (s := r.data) (by omega)
        have t4 : (flagB r.dir).length = 1 := rfl
        have t5 := num_le r.names.length (by omega)
        refine r_skip ?_
        refine c_blk ?_
        refine c_code ?_
        refine r_seq ?_
        refine r_region (id := 11) ?_
        refine o_alloc rfl rfl (fun _ => ?_)
        refine o_nil ?_
        refine c_code ?_
        refine r_seq ?_
        rename_i out
        refine r_ent _ (newOutA out) ?_
        refine r_region (id := 12) ?_
        refine o_give (g_fld (evv rfl)) rfl rfl ?_
        refine o_give (g_load (evv rfl) (by rfl) (by rfl)) rfl rfl ?_
        (refine o_call rfl _ (Ent.refl _) (Int_l _ (by omega) (by (try simp only [bsOf, List.length_append, List.length_cons, List.length_nil]); omega)) rfl ?_; rintro _ _ ⟨rfl, rfl⟩)
        refine o_nil ?_
        refine c_code ?_
        refine r_seq ?_
        refine r_region (id := 13) ?_
        refine o_give (g_fld (evv rfl)) rfl rfl ?_
        refine o_give (g_load (evv rfl) (by rfl) (by rfl)) rfl rfl ?_
        (refine o_call rfl _ (Ent.refl _) (Flag_l (by (try simp only [bsOf, List.length_append, List.length_cons, List.length_nil]); omega)) rfl ?_; rintro _ _ ⟨rfl, rfl⟩)
        refine o_nil ?_
        refine c_code ?_
        refine r_seq ?_
        refine r_region (id := 14) ?_
        refine o_give (g_fld (evv rfl)) rfl rfl ?_
        refine o_give (g_load (evv rfl) (by rfl) (by rfl)) rfl rfl ?_
        (refine o_call rfl _ (Ent.refl _) (Int_l _ (by omega) (by (try simp only [bsOf, List.length_append, List.length_cons, List.length_nil]); omega)) rfl ?_; rintro _ _ ⟨rfl, rfl⟩)
        refine o_nil ?_
        refine c_code ?_
        refine r_seq ?_
        refine r_region (id := 15) ?_
        refine o_give (g_fld (evv rfl)) rfl rfl ?_
        refine o_give (g_load (evv rfl) (by rfl) (by rfl)) rfl rfl ?_
        (refine o_call rfl _ (Ent.refl _) (Text_l (by (try simp only [bsOf, List.length_append, List.length_cons, List.length_nil]); omega)) rfl ?_; rintro _ _ ⟨rfl, rfl⟩)
        refine o_nil ?_
        refine c_code ?_
        refine r_seq ?_
        refine r_region (id := 16) ?_
        refine o_give (g_fld (evv rfl)) rfl rfl ?_
        refine o_give (g_load (evv rfl) (by rfl) (by rfl)) rfl rfl ?_
        refine o_give (g_lenM (evv rfl)) rfl rfl ?_
        refine o_giveN (g_conv TyU.h TyU.h (evv rfl)) (by simp only [inR]; omega) rfl ?_
        (refine o_call rfl _ (Ent.refl _) (Num_l _ (by omega) (by (try simp only [bsOf, List.length_append, List.length_cons, List.length_nil]); omega)) rfl ?_; rintro _ _ ⟨rfl, rfl⟩; (try simp only [Int.toNat_natCast]))
        refine o_nil ?_
        refine c_code ?_
        refine r_seq ?_
        refine r_seq ?_
        refine r_region (id := 17) ?_
        refine o_give (g_fld (evv rfl)) rfl rfl ?_
        refine o_give (g_load (evv rfl) (by rfl) (by rfl)) rfl rfl ?_
        refine o_give (g_lenM (evv rfl)) rfl rfl ?_
        refine o_give (g_move (evv rfl)) rfl rfl ?_
        refine o_nil ?_
        refine c_code ?_
        refine r_block ?_
        rw [List.nil_append]
        obtain ⟨H, hH⟩ : ∃ H, H = intB r.code ++ flagB r.dir ++ intB r.size ++ textB r.data ++ num r.names.length := ⟨_, rfl⟩
        have hHl : H.length ≤ 2000 := by rw [hH]; simp only [List.length_append]; omega
        have hE : encRes r = H ++ r.names.flatMap textB := by rw [hH]; rfl
        rw [← hH, hE]
        refine r_loopE (σ := Nat) (fun i => i ≤ r.names.length) (fun i => r.names.length - i) (fun i => [(53, .v (.int .i64 i))]) [7, 51, 52] (fun i => outA out (H ++ (r.names.take i).flatMap textB) :: blk q ⟨reslV r nv, 42⟩ :: L) 0 (by dsimp only [pickE, pick1, lk2, Nat.reduceBEq, Nat.reduceAdd, Nat.zero_add, cond_true, cond_false] <;> exact rfl) ?_ (by repeat (first | exact trivial | refine ⟨rfl, ?_⟩ | refine envsub_v rfl (by first | rfl | (refine int_eq ?_; first | omega | (simp; omega) | (simp; done)) | (refine bool_eq ?_; first | (simp [*]; done) | (simp; done)) | (refine str_eq ?_; simp; done) | (refine ptr_eq ?_; omega) | fail) ?_)) ?_ ?_
        · exact Nat.zero_le _
        · simp only [List.take_zero, List.flatMap_nil, List.append_nil]
          exact Lay.ent
        rintro i hi; (try dsimp only at hi); dsimp only [List.cons_append, List.nil_append]
        have hnl := names_len (r.names.take i) (fun n hn => l2 n (List.mem_of_mem_take hn))
        rw [List.length_take] at hnl
        refine r_seq ?_
        refine r_region (id := 18) ?_
        refine o_give (g_bin (evv rfl) (evv rfl) (by rfl)) rfl rfl ?_
        refine o_nil ?_
        refine c_code ?_
        refine r_seq ?_
        refine r_cond rfl (fun hc2 => ?_) (fun hc2 => ?_) <;> (try simp only [decide_eq_true_eq, decide_eq_false_iff_not, Bool.and_eq_true, Bool.or_eq_true, Bool.not_eq_true', Bool.and_eq_false_iff, Bool.or_eq_false_iff, Bool.not_eq_false', Bool.not_eq_true, Bool.not_eq_false, Bool.true_eq_false, Bool.false_eq_true, Int.not_lt, Int.not_le, not_and, not_or, ne_eq] at hc2)
        · have hil : i < r.names.length := by omega
          have hs := names_step hil
          have hn1 := l2 (r.names.getD i default) (by simp [hil])
          refine r_skip ?_
          refine c_code ?_
          refine r_seq ?_
          refine r_block ?_
          refine r_seq ?_
          refine r_region (id := 19) ?_
          refine o_give (g_idxMN (evv rfl) (evv rfl) (by rfl) (by first | omega | (have := of_decide_eq_true hg; omega) | (simp at hg; omega) | (simp only [List.length_set, List.length_append, List.length_cons, List.length_nil, List.length_map, List.length_take, List.length_drop, List.length_replicate]; omega))) rfl rfl ?_
          refine o_give (g_loadM (evv rfl) (by rfl) (by first | omega | (have := of_decide_eq_true hg; omega) | (simp at hg; omega) | (simp only [List.length_set, List.length_append, List.length_cons, List.length_nil, List.length_map, List.length_take, List.length_drop, List.length_replicate]; omega))) rfl rfl ?_
          refine o_give (g_assign (evv rfl)) rfl rfl ?_
          refine o_nil ?_
          refine c_code ?_
          refine r_region (id := 20) ?_
          refine o_give (g_move (evv rfl)) rfl rfl ?_
          (refine o_call rfl _ (Ent.refl _) (Text_l (by (try simp only [bsOf, List.length_append, List.length_cons, List.length_nil]); omega)) rfl ?_; rintro _ _ ⟨rfl, rfl⟩)
          refine o_nil ?_
          refine c_blk ?_
          refine c_code ?_
          refine r_region (id := 21) ?_
          refine o_giveN (g_bin (evv rfl) (evv rfl) (by rfl)) (by simp only [inR]; omega) rfl ?_
          refine o_give (g_move (evv rfl)) rfl rfl ?_
          refine o_nil ?_
          rw [List.append_assoc, ← hs]
          refine c_loop (i + 1) ?_ ?_ (by repeat (first | exact trivial | refine ⟨rfl, ?_⟩ | refine envsub_v rfl (by first | rfl | (refine int_eq ?_; first | omega | (simp; omega) | (simp; done)) | (refine bool_eq ?_; first | (simp [*]; done) | (simp; done)) | (refine str_eq ?_; simp; done) | (refine ptr_eq ?_; omega) | fail) ?_)) ?_ <;> (try dsimp only)
          · omega
          · omega
          · exact Ent.refl _
        · rw [List.take_of_length_le (by omega)] at hnl ⊢
          refine r_exit rfl ?_
          refine c_code ?_
          refine r_seq ?_
          refine r_region (id := 22) ?_
          (refine o_call rfl _ (Ent.refl _) (Bytes_l (by (try simp only [bsOf, List.length_append, List.length_cons, List.length_nil]); omega)) rfl ?_; rintro _ _ ⟨_, rfl⟩)
          refine o_give (g_assign (evv rfl)) rfl rfl ?_
          refine o_give (g_assign (evv rfl)) rfl rfl ?_
          refine o_nil ?_
          refine c_code ?_
          rename_i v _
          first | refine r_ret (rs := [.tmp 2, .tmp 3]) rfl rfl _ ((Lay.ent (L' := sl v (mrow by8 5 (H ++ r.names.flatMap textB)) :: L))) ?_ | refine c_end (rs := [.tmp 2, .tmp 3]) rfl rfl _ ((Lay.ent (L' := sl v (mrow by8 5 (H ++ r.names.flatMap textB)) :: L))) ?_
          exact ⟨_, rfl, rfl⟩
theorem RPack_c (L : List Atom) (r : Res) (nv : Value) (ho : r.ok) [rn : Rd L nv (mrow str 9 r.names)] : Fn Try.prog 21 [agg (reslV r nv)] L fun w L' => ∃ v, w = .tuple #[v, .int .i64 (packE r)] ∧ L' = sl v (mrow by8 5 (packB r)) :: L := by
  refine fn_lenM rn fun hlen => ?_
  have hlen : r.names.length ≤ 2 ^ 63 - 1 := hlen
  obtain ⟨h1, h2, h3, h4⟩ := ho
  have b1 := intB_len h1
  have b2 := intB_len h2
  simp only [inR] at h1 h2
  refine fn_intro Try.func21 rfl Try.ntmps21 rfl (fun W0 => ?_)
  simp only [argE]
  refine r_seq ?_
  refine r_region (id := 0) ?_
  refine o_boxA (evv rfl) rfl (fun _ => ?_)
  refine o_give (g_assign (evv rfl)) rfl rfl ?_
  refine o_give (g_assign (evv rfl)) rfl rfl ?_
  refine o_nil ?_
  refine c_code ?_
  refine r_seq ?_
  refine r_seq ?_
  refine r_region (id := 1) ?_
  refine o_give (g_fld (evv rfl)) rfl rfl ?_
  refine o_give (g_load (evv rfl) (by rfl) (by rfl)) rfl rfl ?_
  refine o_give (g_lenS TyU.h (evv rfl)) rfl rfl ?_
  refine o_give (g_bin (evv rfl) (evv rfl) (by rfl)) rfl rfl ?_
  refine o_nil ?_
  refine c_code ?_
  rename_i q
  refine r_cond rfl (fun hd => ?_) (fun hd => ?_) <;> (try simp only [decide_eq_true_eq, decide_eq_false_iff_not, Bool.and_eq_true, Bool.or_eq_true, Bool.not_eq_true', Bool.and_eq_false_iff, Bool.or_eq_false_iff, Bool.not_eq_false', Bool.not_eq_true, Bool.not_eq_false, Bool.true_eq_false, Bool.false_eq_true, Int.not_lt, Int.not_le, not_and, not_or, ne_eq] at hd)
  · have hl : longRes r := .inl (by omega)
    have e1 : packE r = 2 := if_pos hl
    rw [packB, e1, if_neg (by decide)]
    refine r_seq ?_
    refine r_region (id := 2) ?_
    refine o_give (g_assign (evv rfl)) rfl rfl ?_
    refine o_give (g_assign (evv rfl)) rfl rfl ?_
    refine o_nil ?_
    refine c_code ?_
    first | refine r_ret (rs := [.tmp 2, .tmp 3]) rfl rfl _ (((Lay.ent (L' := L)).trans (Ent.nilM by8 5))) ?_ | refine c_end (rs := [.tmp 2, .tmp 3]) rfl rfl _ (((Lay.ent (L' := L)).trans (Ent.nilM by8 5))) ?_
    exact ⟨_, rfl, rfl⟩
  · refine r_skip ?_
    refine c_code ?_
    refine r_seq ?_
    refine r_seq ?_
    refine r_region (id := 3) ?_
    refine o_give (g_assign (evv rfl)) rfl rfl ?_
    refine o_nil ?_
    refine c_code ?_
    refine r_block ?_
    refine r_loopE (σ := Nat) (fun i => i ≤ r.names.length ∧ ∀ n ∈ r.names.take i, n.length ≤ 1100) (fun i => r.names.length - i) (fun i => [(4, .v (.int .i64 i))]) [1] (fun i => blk q ⟨reslV r nv, 42⟩ :: L) 0 (by dsimp only [pickE, pick1, lk2, Nat.reduceBEq, Nat.reduceAdd, Nat.zero_add, cond_true, cond_false] <;> exact rfl) ?_ (by repeat (first | exact trivial | refine ⟨rfl, ?_⟩ | refine envsub_v rfl (by first | rfl | (refine int_eq ?_; first | omega | (simp; omega) | (simp; done)) | (refine bool_eq ?_; first | (simp [*]; done) | (simp; done)) | (refine str_eq ?_; simp; done) | (refine ptr_eq ?_; omega) | fail) ?_)) ?_ ?_
    · exact ⟨Nat.zero_le _, by simp⟩
    · exact Ent.refl _
    rintro i ⟨hi, ha⟩; dsimp only [List.cons_append, List.nil_append]
    refine r_seq ?_
    refine r_seq ?_
    refine r_region (id := 4) ?_
    refine o_give (g_move (evv rfl)) rfl rfl ?_
    refine o_give (g_fld (evv rfl)) rfl rfl ?_
    refine o_give (g_load (evv rfl) (by rfl) (by rfl)) rfl rfl ?_
    refine o_give (g_lenM (evv rfl)) rfl rfl ?_
    refine o_give (g_bin (evv rfl) (evv rfl) (by rfl)) rfl rfl ?_
    refine o_nil ?_
    refine c_code ?_
    refine r_cond rfl (fun hc => ?_) (fun hc => ?_) <;> (try simp only [decide_eq_true_eq, decide_eq_false_iff_not, Bool.and_eq_true, Bool.or_eq_true, Bool.not_eq_true', Bool.and_eq_false_iff, Bool.or_eq_false_iff, Bool.not_eq_false', Bool.not_eq_true, Bool.not_eq_false, Bool.true_eq_false, Bool.false_eq_true, Int.not_lt, Int.not_le, not_and, not_or, ne_eq] at hc)
    · have hil : i < r.names.length := by omega
      refine r_skip ?_
      refine c_code ?_
      refine r_seq ?_
      refine r_block ?_
      refine r_seq ?_
      refine r_region (id := 6) ?_
      refine o_give (g_fld (evv rfl)) rfl rfl ?_
      refine o_give (g_load (evv rfl) (by rfl) (by rfl)) rfl rfl ?_
      refine o_give (g_move (evv rfl)) rfl rfl ?_
      refine o_give (g_idxMN (evv rfl) (evv rfl) (by rfl) (by first | omega | (have := of_decide_eq_true hg; omega) | (simp at hg; omega) | (simp only [List.length_set, List.length_append, List.length_cons, List.length_nil, List.length_map, List.length_take, List.length_drop, List.length_replicate]; omega))) rfl rfl ?_
      refine o_give (g_loadM (evv rfl) (by rfl) (by first | omega | (have := of_decide_eq_true hg; omega) | (simp at hg; omega) | (simp only [List.length_set, List.length_append, List.length_cons, List.length_nil, List.length_map, List.length_take, List.length_drop, List.length_replicate]; omega))) rfl rfl ?_
      refine o_give (g_lenS TyU.h (evv rfl)) rfl rfl ?_
      refine o_give (g_bin (evv rfl) (evv rfl) (by rfl)) rfl rfl ?_
      refine o_nil ?_
      refine c_code ?_
      refine r_cond rfl (fun hb => ?_) (fun hb => ?_) <;> (try simp only [decide_eq_true_eq, decide_eq_false_iff_not, Bool.and_eq_true, Bool.or_eq_true, Bool.not_eq_true', Bool.and_eq_false_iff, Bool.or_eq_false_iff, Bool.not_eq_false', Bool.not_eq_true, Bool.not_eq_false, Bool.true_eq_false, Bool.false_eq_true, Int.not_lt, Int.not_le, not_and, not_or, ne_eq] at hb)
      · have hl : longRes r := .inr ⟨r.names.getD i default, by simp [hil], by omega⟩
        have e1 : packE r = 2 := if_pos hl
        rw [packB, e1, if_neg (by decide)]
        refine r_seq ?_
        refine r_region (id := 7) ?_
        refine o_give (g_assign (evv rfl)) rfl rfl ?_
        refine o_give (g_assign (evv rfl)) rfl rfl ?_
        refine o_nil ?_
        refine c_code ?_
        first | refine r_ret (rs := [.tmp 2, .tmp 3]) rfl rfl _ (((Lay.ent (L' := L)).trans (Ent.nilM by8 5))) ?_ | refine c_end (rs := [.tmp 2, .tmp 3]) rfl rfl _ (((Lay.ent (L' := L)).trans (Ent.nilM by8 5))) ?_
        exact ⟨_, rfl, rfl⟩
      · refine r_skip ?_
        refine c_blk ?_
        refine c_code ?_
        refine r_region (id := 5) ?_
        refine o_give (g_move (evv rfl)) rfl rfl ?_
        refine o_giveN (g_bin (evv rfl) (evv rfl) (by rfl)) (by simp only [inR]; omega) rfl ?_
        refine o_give (g_assign (evv rfl)) rfl rfl ?_
        refine o_nil ?_
        refine c_loop (i + 1) ?_ ?_ (by repeat (first | exact trivial | refine ⟨rfl, ?_⟩ | refine envsub_v rfl (by first | rfl | (refine int_eq ?_; first | omega | (simp; omega) | (simp; done)) | (refine bool_eq ?_; first | (simp [*]; done) | (simp; done)) | (refine str_eq ?_; simp; done) | (refine ptr_eq ?_; omega) | fail) ?_)) ?_ <;> (try dsimp only)
        · refine ⟨by omega, fun n hn => ?_⟩
          rw [List.take_succ_eq_append_getElem hil] at hn
          rcases List.mem_append.1 hn with hn | hn
          · exact ha n hn
          · rw [List.mem_singleton.1 hn]
            have e : r.names.getD i default = r.names[i] := by simp [List.getD_eq_getElem?_getD, hil]
            rw [← e]
            omega
        · omega
        · exact Ent.refl _
    · rw [List.take_of_length_le (by omega)] at ha
      have hl2 : ¬ longRes r := by
        unfold longRes
        rintro (h | ⟨n, hn, h⟩)
        · omega
        · have := ha n hn
          omega
      refine r_exit rfl ?_
      refine c_code ?_
      refine r_seq ?_
      refine r_seq ?_
      refine r_region (id := 8) ?_
      refine o_give (g_fld (evv rfl)) rfl rfl ?_
      refine o_give (g_load (evv rfl) (by rfl) (by rfl)) rfl rfl ?_
      refine o_give (g_lenM (evv rfl)) rfl rfl ?_
      refine o_give (g_bin (evv rfl) (evv rfl) (by rfl)) rfl rfl ?_
      refine o_nil ?_
      refine c_code ?_
      refine r_cond rfl (fun hn => ?_) (fun hn => ?_) <;> (try simp only [decide_eq_true_eq, decide_eq_false_iff_not, Bool.and_eq_true, Bool.or_eq_true, Bool.not_eq_true', Bool.and_eq_false_iff, Bool.or_eq_false_iff, Bool.not_eq_false', Bool.not_eq_true, Bool.not_eq_false, Bool.true_eq_false, Bool.false_eq_true, Int.not_lt, Int.not_le, not_and, not_or, ne_eq] at hn)
      · have e1 : packE r = 8 := (if_neg hl2).trans (if_pos (by omega))
        rw [packB, e1, if_neg (by decide)]
        refine r_seq ?_
        refine r_region (id := 9) ?_
        refine o_give (g_assign (evv rfl)) rfl rfl ?_
        refine o_give (g_assign (evv rfl)) rfl rfl ?_
        refine o_nil ?_
        refine c_code ?_
        first | refine r_ret (rs := [.tmp 2, .tmp 3]) rfl rfl _ (((Lay.ent (L' := L)).trans (Ent.nilM by8 5))) ?_ | refine c_end (rs := [.tmp 2, .tmp 3]) rfl rfl _ (((Lay.ent (L' := L)).trans (Ent.nilM by8 5))) ?_
        exact ⟨_, rfl, rfl⟩
      · have e1 : packE r = 0 := (if_neg hl2).trans (if_neg (by omega))
        rw [packB, e1, if_pos rfl]
        have t3 := textB_len (s := r.data) (by omega)
        have t4 : (flagB r.dir).length = 1 := rfl
        have t5 := num_le r.names.length (by omega)
        refine r_skip ?_
        refine c_code ?_
        refine r_seq ?_
        refine r_region (id := 10) ?_
        refine o_give (g_fld (evv rfl)) rfl rfl ?_
        refine o_give (g_load (evv rfl) (by rfl) (by rfl)) rfl rfl ?_
        (refine o_call rfl _ (Ent.refl _) (rInt_c _ _ (by omega)) rfl ?_; rintro _ _ ⟨_, rfl⟩)
        refine o_give (g_assign (evv rfl)) rfl rfl ?_
        refine o_nil ?_
        refine c_code ?_
        refine r_seq ?_
        refine r_region (id := 11) ?_
        refine o_give (g_move (evv rfl)) rfl rfl ?_
        refine o_give (g_fld (evv rfl)) rfl rfl ?_
        refine o_give (g_load (evv rfl) (by rfl) (by rfl)) rfl rfl ?_
        (refine o_call rfl _ (Ent.refl _) (rFlag_c _ _) rfl ?_; rintro _ _ ⟨_, rfl⟩)
        refine o_appM (evv rfl) (evv rfl) (by rfl) (by rfl) (by rfl) (by (try simp only [bsOf, List.length_append, List.length_cons, List.length_nil, List.length_take, List.length_drop]); omega) rfl (fun _ => ?_)
        refine o_give (g_assign (evv rfl)) rfl rfl ?_
        refine o_nil ?_
        refine c_code ?_
        refine r_seq ?_
        refine r_region (id := 12) ?_
        refine o_give (g_move (evv rfl)) rfl rfl ?_
        refine o_give (g_fld (evv rfl)) rfl rfl ?_
        refine o_give (g_load (evv rfl) (by rfl) (by rfl)) rfl rfl ?_
        (refine o_call rfl _ (Ent.refl _) (rInt_c _ _ (by omega)) rfl ?_; rintro _ _ ⟨_, rfl⟩)
        refine o_appM (evv rfl) (evv rfl) (by rfl) (by rfl) (by rfl) (by (try simp only [bsOf, List.length_append, List.length_cons, List.length_nil, List.length_take, List.length_drop]); omega) rfl (fun _ => ?_)
        refine o_give (g_assign (evv rfl)) rfl rfl ?_
        refine o_nil ?_
        refine c_code ?_
        refine r_seq ?_
        refine r_region (id := 13) ?_
        refine o_give (g_move (evv rfl)) rfl rfl ?_
        refine o_give (g_fld (evv rfl)) rfl rfl ?_
        refine o_give (g_load (evv rfl) (by rfl) (by rfl)) rfl rfl ?_
        (refine o_call rfl _ (Ent.refl _) (rText_c _ _ (by omega)) rfl ?_; rintro _ _ ⟨_, rfl⟩)
        refine o_appM (evv rfl) (evv rfl) (by rfl) (by rfl) (by rfl) (by (try simp only [bsOf, List.length_append, List.length_cons, List.length_nil, List.length_take, List.length_drop]); omega) rfl (fun _ => ?_)
        refine o_give (g_assign (evv rfl)) rfl rfl ?_
        refine o_nil ?_
        refine c_code ?_
        refine r_seq ?_
        refine r_region (id := 14) ?_
        refine o_give (g_move (evv rfl)) rfl rfl ?_
        refine o_give (g_fld (evv rfl)) rfl rfl ?_
        refine o_give (g_load (evv rfl) (by rfl) (by rfl)) rfl rfl ?_
        refine o_give (g_lenM (evv rfl)) rfl rfl ?_
        refine o_giveN (g_conv TyU.h TyU.h (evv rfl)) (by simp only [inR]; omega) rfl ?_
        (refine o_call rfl _ (Ent.refl _) (rNum_l _ (by omega)) rfl ?_; rintro _ _ ⟨_, rfl⟩; (try simp only [Int.toNat_natCast]))
        refine o_appM (evv rfl) (evv rfl) (by rfl) (by rfl) (by rfl) (by (try simp only [bsOf, List.length_append, List.length_cons, List.length_nil, List.length_take, List.length_drop]); omega) rfl (fun _ => ?_)
        refine o_give (g_assign (evv rfl)) rfl rfl ?_
        refine o_nil ?_
        refine c_code ?_
        refine r_seq ?_
        refine r_seq ?_
        refine r_region (id := 15) ?_
        refine o_give (g_assign (evv rfl)) rfl rfl ?_
        refine o_nil ?_
        refine c_code ?_
        refine r_block ?_
        rename_i v5
        obtain ⟨H, hH⟩ : ∃ H, H = intB r.code ++ flagB r.dir ++ intB r.size ++ textB r.data ++ num r.names.length := ⟨_, rfl⟩
        have hHl : H.length ≤ 2000 := by rw [hH]; simp only [List.length_append]; omega
        have hE : encRes r = H ++ r.names.flatMap textB := by rw [hH]; rfl
        rw [← hH, hE]
        refine r_loopE (σ := Nat × Value) (fun ⟨i, v⟩ => i ≤ r.names.length) (fun ⟨i, v⟩ => r.names.length - i) (fun ⟨i, v⟩ => [(5, .v (v)), (6, .v (.int .i64 i))]) [1] (fun ⟨i, v⟩ => sl v (mrow by8 5 (H ++ (r.names.take i).flatMap textB)) :: blk q ⟨reslV r nv, 42⟩ :: L) (0, v5) (by dsimp only [pickE, pick1, lk2, Nat.reduceBEq, Nat.reduceAdd, Nat.zero_add, cond_true, cond_false] <;> exact rfl) ?_ (by repeat (first | exact trivial | refine ⟨rfl, ?_⟩ | refine envsub_v rfl (by first | rfl | (refine int_eq ?_; first | omega | (simp; omega) | (simp; done)) | (refine bool_eq ?_; first | (simp [*]; done) | (simp; done)) | (refine str_eq ?_; simp; done) | (refine ptr_eq ?_; omega) | fail) ?_)) ?_ ?_
        · exact Nat.zero_le _
        · simp only [List.take_zero, List.flatMap_nil, List.append_nil]
          exact Lay.ent
        rintro ⟨i, v⟩ hi; (try dsimp only at hi); dsimp only [List.cons_append, List.nil_append]
        have hnl := names_len (r.names.take i) (fun n hn => ha n (List.mem_of_mem_take hn))
        rw [List.length_take] at hnl
        refine r_seq ?_
        refine r_seq ?_
        refine r_region (id := 16) ?_
        refine o_give (g_move (evv rfl)) rfl rfl ?_
        refine o_give (g_fld (evv rfl)) rfl rfl ?_
        refine o_give (g_load (evv rfl) (by rfl) (by rfl)) rfl rfl ?_
        refine o_give (g_lenM (evv rfl)) rfl rfl ?_
        refine o_give (g_bin (evv rfl) (evv rfl) (by rfl)) rfl rfl ?_
        refine o_nil ?_
        refine c_code ?_
        refine r_cond rfl (fun hc2 => ?_) (fun hc2 => ?_) <;> (try simp only [decide_eq_true_eq, decide_eq_false_iff_not, Bool.and_eq_true, Bool.or_eq_true, Bool.not_eq_true', Bool.and_eq_false_iff, Bool.or_eq_false_iff, Bool.not_eq_false', Bool.not_eq_true, Bool.not_eq_false, Bool.true_eq_false, Bool.false_eq_true, Int.not_lt, Int.not_le, not_and, not_or, ne_eq] at hc2)
        · have hil : i < r.names.length := by omega
          have hs := names_step hil
          have hn1 := ha (r.names.getD i default) (by simp [hil])
          have hn3 := textB_len (s := r.names.getD i default) (by omega)
          refine r_skip ?_
          refine c_code ?_
          refine r_seq ?_
          refine r_block ?_
          refine r_region (id := 18) ?_
          refine o_give (g_move (evv rfl)) rfl rfl ?_
          refine o_give (g_fld (evv rfl)) rfl rfl ?_
          refine o_give (g_load (evv rfl) (by rfl) (by rfl)) rfl rfl ?_
          refine o_give (g_move (evv rfl)) rfl rfl ?_
          refine o_give (g_idxMN (evv rfl) (evv rfl) (by rfl) (by first | omega | (have := of_decide_eq_true hg; omega) | (simp at hg; omega) | (simp only [List.length_set, List.length_append, List.length_cons, List.length_nil, List.length_map, List.length_take, List.length_drop, List.length_replicate]; omega))) rfl rfl ?_
          refine o_give (g_loadM (evv rfl) (by rfl) (by first | omega | (have := of_decide_eq_true hg; omega) | (simp at hg; omega) | (simp only [List.length_set, List.length_append, List.length_cons, List.length_nil, List.length_map, List.length_take, List.length_drop, List.length_replicate]; omega))) rfl rfl ?_
          (refine o_call rfl _ (Ent.refl _) (rText_c _ _ (by omega)) rfl ?_; rintro _ _ ⟨_, rfl⟩)
          refine o_appM (evv rfl) (evv rfl) (by rfl) (by rfl) (by rfl) (by (try simp only [bsOf, List.length_append, List.length_cons, List.length_nil, List.length_take, List.length_drop]); omega) rfl (fun _ => ?_)
          refine o_give (g_assign (evv rfl)) rfl rfl ?_
          refine o_nil ?_
          refine c_blk ?_
          refine c_code ?_
          refine r_region (id := 17) ?_
          refine o_give (g_move (evv rfl)) rfl rfl ?_
          refine o_giveN (g_bin (evv rfl) (evv rfl) (by rfl)) (by simp only [inR]; omega) rfl ?_
          refine o_give (g_assign (evv rfl)) rfl rfl ?_
          refine o_nil ?_
          rename_i v'
          rw [List.append_assoc, ← hs]
          refine c_loop (i + 1, v') ?_ ?_ (by repeat (first | exact trivial | refine ⟨rfl, ?_⟩ | refine envsub_v rfl (by first | rfl | (refine int_eq ?_; first | omega | (simp; omega) | (simp; done)) | (refine bool_eq ?_; first | (simp [*]; done) | (simp; done)) | (refine str_eq ?_; simp; done) | (refine ptr_eq ?_; omega) | fail) ?_)) ?_ <;> (try dsimp only)
          · omega
          · omega
          · exact Lay.ent
        · rw [List.take_of_length_le (by omega)]
          refine r_exit rfl ?_
          refine c_code ?_
          refine r_seq ?_
          refine r_region (id := 19) ?_
          refine o_give (g_move (evv rfl)) rfl rfl ?_
          refine o_give (g_assign (evv rfl)) rfl rfl ?_
          refine o_give (g_assign (evv rfl)) rfl rfl ?_
          refine o_nil ?_
          refine c_code ?_
          first | refine r_ret (rs := [.tmp 2, .tmp 3]) rfl rfl _ ((Lay.ent (L' := sl v (mrow by8 5 (H ++ r.names.flatMap textB)) :: L))) ?_ | refine c_end (rs := [.tmp 2, .tmp 3]) rfl rfl _ ((Lay.ent (L' := sl v (mrow by8 5 (H ++ r.names.flatMap textB)) :: L))) ?_
          exact ⟨_, rfl, rfl⟩
def namesT (acc : List (List UInt8)) (k : Nat) (s : InS) : List (List UInt8) × InS := (acc ++ (namesGo k s).1, (namesGo k s).2)
theorem namesT_step (acc : List (List UInt8)) (k : Nat) (s : InS) : namesT acc (k + 1) s = namesT (acc ++ [(textR 1100 s).1]) k (textR 1100 s).2 := by
  simp [namesT, namesGo]
theorem unpack_many {b : List UInt8} (h : 512 < (resN b).1) : decRes b = none := if_pos h
theorem unpack_bad {b : List UInt8} (h : ¬ 512 < (resN b).1) (h2 : ¬ ((resR b).2.err = 0 ∧ (resR b).2.bs.length = 0)) : decRes b = none := (if_neg h).trans (if_neg h2)
theorem unpack_good {b : List UInt8} (h : ¬ 512 < (resN b).1) (h2 : (resR b).2.err = 0 ∧ (resR b).2.bs.length = 0) : decRes b = some (resR b).1 := (if_neg h).trans (if_pos h2)
theorem Unpack_c (L : List Atom) (v : Value) (b : List UInt8) (hb : b.length ≤ 140737488355000) [rd : Rd L v (mrow by8 5 b)] : Fn Try.prog 22 [v] L fun w L' => ∃ nv, w = .tuple #[agg (reslV ((decRes b).getD zeroRes) nv), .int .i64 (if decRes b = none then 21 else 0)] ∧ L' = sl nv (mrow str 9 ((decRes b).getD zeroRes).names) :: L := by
  have hn := numR_le (textR 1100 (numR (flagR (numR ⟨b, 0⟩).2).2).2).2
  have hM := unpack_many (b := b)
  have hB := unpack_bad (b := b)
  have hG := unpack_good (b := b)
  have hR : resR b = (⟨unzig (numR ⟨b, 0⟩).1, (flagR (numR ⟨b, 0⟩).2).1, unzig (numR (flagR (numR ⟨b, 0⟩).2).2).1, (textR 1100 (numR (flagR (numR ⟨b, 0⟩).2).2).2).1, (namesGo (resN b).1 (resN b).2).1⟩, (namesGo (resN b).1 (resN b).2).2) := rfl
  rw [hR] at hB hG
  refine fn_intro Try.func22 rfl Try.ntmps22 rfl (fun W0 => ?_)
  simp only [argE]
  refine r_seq ?_
  refine r_region (id := 0) ?_
  refine o_alloc rfl rfl (fun _ => ?_)
  refine o_give (g_assign (evv rfl)) rfl rfl ?_
  refine o_nil ?_
  refine c_code ?_
  refine r_seq ?_
  refine r_region (id := 1) ?_
  refine o_give (g_move (evv rfl)) rfl rfl ?_
  (refine o_call rfl _ (Ent.refl _) (Read_c _ _ _ (by (try simp only [bsOf, List.length_append, List.length_cons, List.length_nil]); omega)) rfl ?_; rintro _ _ ⟨i, rfl, rfl⟩)
  refine o_give (g_assign (evv rfl)) rfl rfl ?_
  refine o_nil ?_
  refine c_code ?_
  refine r_seq ?_
  refine r_region (id := 2) ?_
  refine o_give (g_move (evv rfl)) rfl rfl ?_
  (refine o_call rfl _ (Ent.refl _) inInt_l rfl ?_; rintro _ _ ⟨rfl, rfl⟩)
  refine o_give (g_buildC rfl (by rfl)) rfl rfl ?_
  refine o_alloc rfl rfl (fun _ => ?_)
  refine o_storeW (evv rfl) (evv rfl) (by first | rfl | assumption | (simp [bys, *]; done) | fail) (by first | (intro _ _ _; exact bys_one _) | exact AllOne.h | (intro _ _ _ u hu; simp at hu; rcases hu with rfl | rfl | rfl | rfl | rfl | rfl | rfl | rfl <;> rfl) | fail) (by first | rfl | (simp [bys, *]; done) | (simp only [bys, List.length_map, *]; rfl) | fail) ?_
  refine o_nil ?_
  refine c_code ?_
  refine r_seq ?_
  refine r_region (id := 3) ?_
  refine o_give (g_move (evv rfl)) rfl rfl ?_
  (refine o_call rfl _ (Ent.refl _) inFlag_l rfl ?_; rintro _ _ ⟨rfl, rfl⟩)
  refine o_give (g_fld (evv rfl)) rfl rfl ?_
  refine o_store1 (evv rfl) (evv rfl) (by rfl) (by rfl) (by rfl) ?_
  refine o_nil ?_
  refine c_code ?_
  refine r_seq ?_
  refine r_region (id := 4) ?_
  refine o_give (g_move (evv rfl)) rfl rfl ?_
  (refine o_call rfl _ (Ent.refl _) inInt_l rfl ?_; rintro _ _ ⟨rfl, rfl⟩)
  refine o_give (g_fld (evv rfl)) rfl rfl ?_
  refine o_store1 (evv rfl) (evv rfl) (by rfl) (by rfl) (by rfl) ?_
  refine o_nil ?_
  refine c_code ?_
  refine r_seq ?_
  refine r_region (id := 5) ?_
  refine o_give (g_move (evv rfl)) rfl rfl ?_
  (refine o_call rfl _ (Ent.refl _) (inText_l _ (by omega)) rfl ?_; rintro _ _ ⟨rfl, rfl⟩)
  refine o_give (g_fld (evv rfl)) rfl rfl ?_
  refine o_store1 (evv rfl) (evv rfl) (by rfl) (by rfl) (by rfl) ?_
  refine o_nil ?_
  refine c_code ?_
  refine r_seq ?_
  refine r_region (id := 6) ?_
  refine o_give (g_move (evv rfl)) rfl rfl ?_
  (refine o_call rfl _ (Ent.refl _) inNum_l rfl ?_; rintro _ _ ⟨rfl, rfl⟩)
  refine o_give (g_assign (evv rfl)) rfl rfl ?_
  refine o_nil ?_
  refine c_code ?_
  refine r_seq ?_
  refine r_seq ?_
  refine r_region (id := 7) ?_
  refine o_give (g_move (evv rfl)) rfl rfl ?_
  refine o_give (g_bin (evv rfl) (evv rfl) (by rfl)) rfl rfl ?_
  refine o_nil ?_
  refine c_code ?_
  rename_i z q
  generalize hZ : cellsL _ = Z
  have hZl : Z.length = 5 := by rw [← hZ]; rfl
  rw [show numR (textR 1100 (numR (flagR (numR ⟨b, 0⟩).2).2).2).2 = resN b from rfl] at hn ⊢
  clear hR
  generalize (textR 1100 (numR (flagR (numR ⟨b, 0⟩).2).2).2).1 = D at *
  generalize unzig (numR (flagR (numR ⟨b, 0⟩).2).2).1 = S at *
  generalize (flagR (numR ⟨b, 0⟩).2).1 = FL at *
  generalize unzig (numR ⟨b, 0⟩).1 = A at *
  generalize (resN b).2 = s0 at *
  generalize (resN b).1 = N at *
  refine r_cond rfl (fun h5 => ?_) (fun h5 => ?_) <;> (try simp only [decide_eq_true_eq, decide_eq_false_iff_not, Bool.and_eq_true, Bool.or_eq_true, Bool.not_eq_true', Bool.and_eq_false_iff, Bool.or_eq_false_iff, Bool.not_eq_false', Bool.not_eq_true, Bool.not_eq_false, Bool.true_eq_false, Bool.false_eq_true, Int.not_lt, Int.not_le, not_and, not_or, ne_eq] at h5)
  · rw [hM (by omega), if_pos rfl]
    refine r_seq ?_
    refine r_region (id := 8) ?_
    refine o_give (v := agg [(Go.Value.int Go.IntKind.i64 0), (Go.Value.bool false), (Go.Value.int Go.IntKind.i64 0), (Go.Value.string { data := #[] }), (Go.Value.slice none 0 0)]) (g_buildC rfl (by rfl)) rfl rfl ?_
    refine o_storeW (evv rfl) (evv rfl) (by first | rfl | assumption | (simp [bys, *]; done) | fail) (by first | (intro _ _ _; exact bys_one _) | exact AllOne.h | (intro _ _ _ u hu; simp at hu; rcases hu with rfl | rfl | rfl | rfl | rfl | rfl | rfl | rfl <;> rfl) | fail) (by first | rfl | (simp [bys, *]; done) | (simp only [bys, List.length_map, *]; rfl) | fail) ?_
    refine o_give (g_assign (evv rfl)) rfl rfl ?_
    refine o_nil ?_
    refine c_code ?_
    first | refine r_retC (rs := [.cell 2 42, .tmp 3]) rfl (by first | exact ro_agg rfl rfl (by first | rfl | (simp [bys, *]; done)) (ro_tmp rfl ro_nil) | exact ro_cell rfl rfl rfl (ro_tmp rfl ro_nil)) _ (((Lay.ent (L' := L)).trans (Ent.nilM str 9))) ?_ | refine c_endC (rs := [.cell 2 42, .tmp 3]) rfl (by first | exact ro_agg rfl rfl (by first | rfl | (simp [bys, *]; done)) (ro_tmp rfl ro_nil) | exact ro_cell rfl rfl rfl (ro_tmp rfl ro_nil)) _ (((Lay.ent (L' := L)).trans (Ent.nilM str 9))) ?_
    exact ⟨_, rfl, rfl⟩
  · have hB := hB (by omega)
    have hG := hG (by omega)
    refine r_skip ?_
    refine c_code ?_
    refine r_seq ?_
    refine r_seq ?_
    refine r_region (id := 9) ?_
    refine o_give (g_move (evv rfl)) rfl rfl ?_
    refine o_give (g_move (evv rfl)) rfl rfl ?_
    refine o_nil ?_
    refine c_code ?_
    refine r_block ?_
    refine r_loopE (σ := (Nat × List (List UInt8)) × InS × Value) (fun ⟨⟨k, acc⟩, s, nv⟩ => k ≤ N ∧ acc.length = k ∧ namesGo N s0 = namesT acc (N - k) s) (fun ⟨⟨k, acc⟩, s, nv⟩ => N - k) (fun ⟨⟨k, acc⟩, s, nv⟩ => [(27, .v (.int .u64 k))]) [2, 4, 5, 26] (fun ⟨⟨k, acc⟩, s, nv⟩ => blk q ⟨[.int .i64 A, .bool FL, .int .i64 S, str D, nv], 42⟩ :: sl nv (mrow str 9 acc) :: inA i s :: blk z ⟨Z, 42⟩ :: L) ((0, []), s0, .slice none 0 0) (by dsimp only [pickE, pick1, lk2, Nat.reduceBEq, Nat.reduceAdd, Nat.zero_add, cond_true, cond_false] <;> exact rfl) ?_ (by repeat (first | exact trivial | refine ⟨rfl, ?_⟩ | refine envsub_v rfl (by first | rfl | (refine int_eq ?_; first | omega | (simp; omega) | (simp; done)) | (refine bool_eq ?_; first | (simp [*]; done) | (simp; done)) | (refine str_eq ?_; simp; done) | (refine ptr_eq ?_; omega) | fail) ?_)) ?_ ?_
    · exact ⟨Nat.zero_le _, rfl, by simp [namesT]⟩
    · refine (Ent.nilM str 9).trans ?_
      dsimp only
      exact Lay.ent
    rintro ⟨⟨k, acc⟩, s, nv⟩ ⟨hk, hal, hT⟩; dsimp only [List.cons_append, List.nil_append]
    refine r_seq ?_
    refine r_region (id := 10) ?_
    refine o_give (g_bin (evv rfl) (evv rfl) (by rfl)) rfl rfl ?_
    refine o_nil ?_
    refine c_code ?_
    refine r_seq ?_
    refine r_cond rfl (fun hc => ?_) (fun hc => ?_) <;> (try simp only [decide_eq_true_eq, decide_eq_false_iff_not, Bool.and_eq_true, Bool.or_eq_true, Bool.not_eq_true', Bool.and_eq_false_iff, Bool.or_eq_false_iff, Bool.not_eq_false', Bool.not_eq_true, Bool.not_eq_false, Bool.true_eq_false, Bool.false_eq_true, Int.not_lt, Int.not_le, not_and, not_or, ne_eq] at hc)
    · obtain ⟨m, hm⟩ : ∃ m, N - k = m + 1 := ⟨N - k - 1, by omega⟩
      have hm2 : N - (k + 1) = m := by omega
      rw [hm, namesT_step] at hT
      repeat (first | refine r_seq ?_ | refine c_code ?_ | refine c_blk ?_ | refine r_block ?_ | refine r_skip ?_)
      refine r_cutE (σ := Value) (fun nv' => []) [2, 4, 5, 26, 27, 28] (fun nv' => blk q ⟨[.int .i64 A, .bool FL, .int .i64 S, str D, nv'], 42⟩ :: sl nv' (mrow str 9 (acc ++ [(textR 1100 s).1])) :: inA i (textR 1100 s).2 :: blk z ⟨Z, 42⟩ :: L) (by dsimp only [pickE, pick1, lk2, Nat.reduceBEq, Nat.reduceAdd, Nat.zero_add, cond_true, cond_false] <;> exact rfl) ?_ ?_
      · refine r_held (id := 11) [] Mixed.h ?_
        (refine h_give (i := 0) (by kernel_rfl) rfl (g_fld (evv rfl)) rfl rfl ?_)
        (refine h_give (i := 2) (by kernel_rfl) rfl (g_move (evv rfl)) rfl rfl ?_)
        refine h_two (i := 1) (j := 3) (by kernel_rfl) rfl rfl (Ent.nil _) ?_ ?_
        · (refine o_give (g_load (evv rfl) (by rfl) (by rfl)) rfl rfl ?_); refine o_nil ?_
          refine h_one (i := 3) (by kernel_rfl) rfl (Ent.nil _) ?_
          ((refine o_call rfl _ (Ent.refl _) (inText_l _ (by omega)) rfl ?_; rintro _ _ ⟨rfl, rfl⟩)); refine o_nil ?_
          refine h_one (i := 4) (by kernel_rfl) rfl (Ent.nil _) ?_
          (refine o_litT rfl (by rfl) rfl (fun _ => ?_)); refine o_nil ?_
          refine h_one (i := 5) (by kernel_rfl) rfl (Ent.nil _) ?_
          (refine o_appM (evv rfl) (evv rfl) (by rfl) (by rfl) (by rfl) (by (try simp only [bsOf, List.length_append, List.length_cons, List.length_nil, List.length_take, List.length_drop]); omega) rfl (fun _ => ?_)); refine o_nil ?_
          (refine h_give (i := 6) (by kernel_rfl) rfl (g_fld (evv rfl)) rfl rfl ?_)
          refine h_one (i := 7) (by kernel_rfl) rfl (Ent.nil _) ?_
          (refine o_store1 (evv rfl) (evv rfl) (by rfl) (by rfl) (by rfl) ?_); refine o_nil ?_
          refine h_done (by kernel_rfl) (Ent.nil _) ?_
          exact c_cut (by assumption) (by repeat (first | exact trivial | refine ⟨rfl, ?_⟩ | refine envsub_v rfl (by first | rfl | (refine int_eq ?_; first | omega | (simp; omega) | (simp; done)) | (refine bool_eq ?_; first | (simp [*]; done) | (simp; done)) | (refine str_eq ?_; simp; done) | (refine ptr_eq ?_; omega) | fail) ?_)) (Lay.ent)
        · ((refine o_call rfl _ (Ent.refl _) (inText_l _ (by omega)) rfl ?_; rintro _ _ ⟨rfl, rfl⟩)); refine o_nil ?_
          refine h_two (i := 1) (j := 4) (by kernel_rfl) rfl rfl (Ent.nil _) ?_ ?_
          · (refine o_give (g_load (evv rfl) (by rfl) (by rfl)) rfl rfl ?_); refine o_nil ?_
            refine h_one (i := 4) (by kernel_rfl) rfl (Ent.nil _) ?_
            (refine o_litT rfl (by rfl) rfl (fun _ => ?_)); refine o_nil ?_
            refine h_one (i := 5) (by kernel_rfl) rfl (Ent.nil _) ?_
            (refine o_appM (evv rfl) (evv rfl) (by rfl) (by rfl) (by rfl) (by (try simp only [bsOf, List.length_append, List.length_cons, List.length_nil, List.length_take, List.length_drop]); omega) rfl (fun _ => ?_)); refine o_nil ?_
            (refine h_give (i := 6) (by kernel_rfl) rfl (g_fld (evv rfl)) rfl rfl ?_)
            refine h_one (i := 7) (by kernel_rfl) rfl (Ent.nil _) ?_
            (refine o_store1 (evv rfl) (evv rfl) (by rfl) (by rfl) (by rfl) ?_); refine o_nil ?_
            refine h_done (by kernel_rfl) (Ent.nil _) ?_
            exact c_cut (by assumption) (by repeat (first | exact trivial | refine ⟨rfl, ?_⟩ | refine envsub_v rfl (by first | rfl | (refine int_eq ?_; first | omega | (simp; omega) | (simp; done)) | (refine bool_eq ?_; first | (simp [*]; done) | (simp; done)) | (refine str_eq ?_; simp; done) | (refine ptr_eq ?_; omega) | fail) ?_)) (Lay.ent)
          · (refine o_litT rfl (by rfl) rfl (fun _ => ?_)); refine o_nil ?_
            refine h_one (i := 1) (by kernel_rfl) rfl (Ent.nil _) ?_
            (refine o_give (g_load (evv rfl) (by rfl) (by rfl)) rfl rfl ?_); refine o_nil ?_
            refine h_one (i := 5) (by kernel_rfl) rfl (Ent.nil _) ?_
            (refine o_appM (evv rfl) (evv rfl) (by rfl) (by rfl) (by rfl) (by (try simp only [bsOf, List.length_append, List.length_cons, List.length_nil, List.length_take, List.length_drop]); omega) rfl (fun _ => ?_)); refine o_nil ?_
            (refine h_give (i := 6) (by kernel_rfl) rfl (g_fld (evv rfl)) rfl rfl ?_)
            refine h_one (i := 7) (by kernel_rfl) rfl (Ent.nil _) ?_
            (refine o_store1 (evv rfl) (evv rfl) (by rfl) (by rfl) (by rfl) ?_); refine o_nil ?_
            refine h_done (by kernel_rfl) (Ent.nil _) ?_
            exact c_cut (by assumption) (by repeat (first | exact trivial | refine ⟨rfl, ?_⟩ | refine envsub_v rfl (by first | rfl | (refine int_eq ?_; first | omega | (simp; omega) | (simp; done)) | (refine bool_eq ?_; first | (simp [*]; done) | (simp; done)) | (refine str_eq ?_; simp; done) | (refine ptr_eq ?_; omega) | fail) ?_)) (Lay.ent)
      intro nv'
      dsimp only [List.cons_append, List.nil_append]
      refine c_blk ?_
      refine c_code ?_
      refine r_region (id := 12) ?_
      refine o_giveN (g_bin (evv rfl) (evv rfl) (by rfl)) (by simp only [inR]; omega) rfl ?_
      refine o_give (g_move (evv rfl)) rfl rfl ?_
      refine o_nil ?_
      refine c_loop ((k + 1, acc ++ [(textR 1100 s).1]), (textR 1100 s).2, nv') ?_ ?_ (by repeat (first | exact trivial | refine ⟨rfl, ?_⟩ | refine envsub_v rfl (by first | rfl | (refine int_eq ?_; first | omega | (simp; omega) | (simp; done)) | (refine bool_eq ?_; first | (simp [*]; done) | (simp; done)) | (refine str_eq ?_; simp; done) | (refine ptr_eq ?_; omega) | fail) ?_)) ?_ <;> (try dsimp only)
      · exact ⟨by omega, by simp [hal], by rw [hm2]; exact hT⟩
      · omega
      · exact Lay.ent
    · have hkN : N - k = 0 := by omega
      rw [hkN, show namesT acc 0 s = (acc, s) by simp [namesT, namesGo]] at hT
      rw [hT] at hB hG
      dsimp only at hB hG
      refine r_exit rfl ?_
      refine c_code ?_
      refine r_seq ?_
      refine r_seq ?_
      refine r_region (id := 13) ?_
      refine o_give (g_move (evv rfl)) rfl rfl ?_
      (refine o_call rfl _ (Ent.refl _) inEnd_l rfl ?_; rintro _ _ ⟨rfl, rfl⟩)
      refine o_give (g_not (evv rfl)) rfl rfl ?_
      refine o_nil ?_
      refine c_code ?_
      refine r_cond rfl (fun he => ?_) (fun he => ?_) <;> (try simp only [decide_eq_true_eq, decide_eq_false_iff_not, Bool.and_eq_true, Bool.or_eq_true, Bool.not_eq_true', Bool.and_eq_false_iff, Bool.or_eq_false_iff, Bool.not_eq_false', Bool.not_eq_true, Bool.not_eq_false, Bool.true_eq_false, Bool.false_eq_true, Int.not_lt, Int.not_le, not_and, not_or, ne_eq] at he)
      · have hd := hB (fun h => by first | exact he h | exact he h.1 h.2)
        rw [hd, if_pos rfl]
        refine r_seq ?_
        refine r_region (id := 14) ?_
        refine o_give (v := agg [(Go.Value.int Go.IntKind.i64 0), (Go.Value.bool false), (Go.Value.int Go.IntKind.i64 0), (Go.Value.string { data := #[] }), (Go.Value.slice none 0 0)]) (g_buildC rfl (by rfl)) rfl rfl ?_
        refine o_storeW (evv rfl) (evv rfl) (by first | rfl | assumption | (simp [bys, *]; done) | fail) (by first | (intro _ _ _; exact bys_one _) | exact AllOne.h | (intro _ _ _ u hu; simp at hu; rcases hu with rfl | rfl | rfl | rfl | rfl | rfl | rfl | rfl <;> rfl) | fail) (by first | rfl | (simp [bys, *]; done) | (simp only [bys, List.length_map, *]; rfl) | fail) ?_
        refine o_give (g_assign (evv rfl)) rfl rfl ?_
        refine o_nil ?_
        refine c_code ?_
        first | refine r_retC (rs := [.cell 2 42, .tmp 3]) rfl (by first | exact ro_agg rfl rfl (by first | rfl | (simp [bys, *]; done)) (ro_tmp rfl ro_nil) | exact ro_cell rfl rfl rfl (ro_tmp rfl ro_nil)) _ (((Lay.ent (L' := L)).trans (Ent.nilM str 9))) ?_ | refine c_endC (rs := [.cell 2 42, .tmp 3]) rfl (by first | exact ro_agg rfl rfl (by first | rfl | (simp [bys, *]; done)) (ro_tmp rfl ro_nil) | exact ro_cell rfl rfl rfl (ro_tmp rfl ro_nil)) _ (((Lay.ent (L' := L)).trans (Ent.nilM str 9))) ?_
        exact ⟨_, rfl, rfl⟩
      · have hd := hG he
        rw [hd, if_neg (by simp)]
        refine r_skip ?_
        refine c_code ?_
        refine r_seq ?_
        refine r_region (id := 15) ?_
        refine o_give (g_loadF (evv rfl) (by rfl) (by rfl)) rfl rfl ?_
        refine o_storeW (evv rfl) (evv rfl) (by first | rfl | assumption | (simp [bys, *]; done) | fail) (by first | (intro _ _ _; exact bys_one _) | exact AllOne.h | (intro _ _ _ u hu; simp at hu; rcases hu with rfl | rfl | rfl | rfl | rfl | rfl | rfl | rfl <;> rfl) | fail) (by first | rfl | (simp [bys, *]; done) | (simp only [bys, List.length_map, *]; rfl) | fail) ?_
        refine o_give (g_assign (evv rfl)) rfl rfl ?_
        refine o_nil ?_
        refine c_code ?_
        first | refine r_retC (rs := [.cell 2 42, .tmp 3]) rfl (by first | exact ro_agg rfl rfl (by first | rfl | (simp [bys, *]; done)) (ro_tmp rfl ro_nil) | exact ro_cell rfl rfl rfl (ro_tmp rfl ro_nil)) _ ((Lay.ent (L' := sl nv (mrow str 9 acc) :: L))) ?_ | refine c_endC (rs := [.cell 2 42, .tmp 3]) rfl (by first | exact ro_agg rfl rfl (by first | rfl | (simp [bys, *]; done)) (ro_tmp rfl ro_nil) | exact ro_cell rfl rfl rfl (ro_tmp rfl ro_nil)) _ ((Lay.ent (L' := sl nv (mrow str 9 acc) :: L))) ?_
        exact ⟨nv, rfl, rfl⟩
theorem RUnpack_c (L : List Atom) (v : Value) (b : List UInt8) (hb : b.length ≤ 140737488355000) [rd : Rd L v (mrow by8 5 b)] : Fn Try.prog 23 [v] L fun w L' => ∃ nv, w = .tuple #[agg (reslV ((decRes b).getD zeroRes) nv), .bool (decide (decRes b ≠ none))] ∧ L' = sl nv (mrow str 9 ((decRes b).getD zeroRes).names) :: L := by
  have ha0 : 0 ≤ b.length := Nat.zero_le _
  have hn := numR_le (textR 1100 (numR (flagR (numR ⟨b, 0⟩).2).2).2).2
  have hM := unpack_many (b := b)
  have hB := unpack_bad (b := b)
  have hG := unpack_good (b := b)
  have hR : resR b = (⟨unzig (numR ⟨b, 0⟩).1, (flagR (numR ⟨b, 0⟩).2).1, unzig (numR (flagR (numR ⟨b, 0⟩).2).2).1, (textR 1100 (numR (flagR (numR ⟨b, 0⟩).2).2).2).1, (namesGo (resN b).1 (resN b).2).1⟩, (namesGo (resN b).1 (resN b).2).2) := rfl
  rw [hR] at hB hG
  clear hR
  refine fn_intro Try.func23 rfl Try.ntmps23 rfl (fun W0 => ?_)
  simp only [argE]
  refine r_seq ?_
  refine r_region (id := 0) ?_
  refine o_alloc rfl rfl (fun _ => ?_)
  refine o_give (g_assign (evv rfl)) rfl rfl ?_
  refine o_nil ?_
  refine c_code ?_
  refine r_seq ?_
  refine r_region (id := 1) ?_
  refine o_give (g_move (evv rfl)) rfl rfl ?_
  refine o_give (g_buildC rfl (by rfl)) rfl rfl ?_
  refine o_boxA (evv rfl) rfl (fun _ => ?_)
  refine o_give (g_assign (evv rfl)) rfl rfl ?_
  refine o_nil ?_
  refine c_code ?_
  refine r_seq ?_
  refine r_region (id := 2) ?_
  refine o_alloc rfl rfl (fun _ => ?_)
  refine o_nil ?_
  refine c_code ?_
  refine r_seq ?_
  refine r_region (id := 3) ?_
  refine o_give (g_move (evv rfl)) rfl rfl ?_
  (refine o_call rfl _ (Ent.refl _) (Fn.atPick (rIntN_g _ (by assumption) (by assumption) _)) rfl ?_; rintro _ _ ⟨ra, re, hra, rfl, hrs, rfl⟩)
  refine o_give (g_fld (evv rfl)) rfl rfl ?_
  refine o_store1 (evv rfl) (evv rfl) (by rfl) (by rfl) (by rfl) ?_
  refine o_nil ?_
  refine c_code ?_
  refine r_seq ?_
  refine r_region (id := 4) ?_
  refine o_give (g_move (evv rfl)) rfl rfl ?_
  (refine o_call rfl _ (Ent.refl _) (Fn.atPick (rFlag_g _ (by assumption) (by assumption) _)) rfl ?_; rintro _ _ ⟨ra, re, hra, rfl, hrs, rfl⟩)
  refine o_give (g_fld (evv rfl)) rfl rfl ?_
  refine o_store1 (evv rfl) (evv rfl) (by rfl) (by rfl) (by rfl) ?_
  refine o_nil ?_
  refine c_code ?_
  refine r_seq ?_
  refine r_region (id := 5) ?_
  refine o_give (g_move (evv rfl)) rfl rfl ?_
  (refine o_call rfl _ (Ent.refl _) (Fn.atPick (rIntN_g _ (by assumption) (by assumption) _)) rfl ?_; rintro _ _ ⟨ra, re, hra, rfl, hrs, rfl⟩)
  refine o_give (g_fld (evv rfl)) rfl rfl ?_
  refine o_store1 (evv rfl) (evv rfl) (by rfl) (by rfl) (by rfl) ?_
  refine o_nil ?_
  refine c_code ?_
  refine r_seq ?_
  refine r_region (id := 6) ?_
  refine o_give (g_move (evv rfl)) rfl rfl ?_
  (refine o_call rfl _ (Ent.refl _) (Fn.atPick (rText_g _ (by assumption) (by assumption) _ _ (by omega))) rfl ?_; rintro _ _ ⟨ra, re, hra, rfl, hrs, rfl⟩)
  refine o_give (g_fld (evv rfl)) rfl rfl ?_
  refine o_store1 (evv rfl) (evv rfl) (by rfl) (by rfl) (by rfl) ?_
  refine o_nil ?_
  refine c_code ?_
  refine r_seq ?_
  refine r_region (id := 7) ?_
  refine o_give (g_move (evv rfl)) rfl rfl ?_
  (refine o_call rfl _ (Ent.refl _) (Fn.atPick (rNum_g _ (by assumption) (by assumption) _)) rfl ?_; rintro _ _ ⟨ra, re, hra, rfl, hrs, rfl⟩)
  refine o_give (g_assign (evv rfl)) rfl rfl ?_
  refine o_nil ?_
  refine c_code ?_
  refine r_seq ?_
  refine r_seq ?_
  refine r_region (id := 8) ?_
  refine o_give (g_assign (evv rfl)) rfl rfl ?_
  refine o_nil ?_
  refine c_code ?_
  refine r_block ?_
  rename_i z y q a1 e1 g1 s1 a2 e2 g2 s2 a3 e3 g3 s3 a4 e4 g4 s4
  rw [List.drop_zero] at s1 ⊢
  have hRN : resN b = ((numR ⟨b.drop a4, e4⟩).1, ⟨b.drop ra, re⟩) := by
    unfold resN
    rw [s1, s2, s3, s4]
    exact Prod.ext rfl hrs
  simp only [s1, s2, s3, s4, hRN] at hn hM hB hG
  generalize hZ : cellsL _ = Z
  have hZl : Z.length = 5 := by rw [← hZ]; rfl
  generalize (textR 1100 ⟨b.drop a3, e3⟩).1 = D at *
  generalize unzig (numR ⟨b.drop a2, e2⟩).1 = S at *
  generalize (flagR ⟨b.drop a1, e1⟩).1 = FL at *
  generalize unzig (numR ⟨b, 0⟩).1 = A at *
  generalize (numR ⟨b.drop a4, e4⟩).1 = N at *
  clear hRN hrs s1 s2 s3 s4
  refine r_loopE (σ := (Nat × List (List UInt8)) × (Nat × Int) × Value) (fun ⟨⟨k, acc⟩, ⟨a, e⟩, nv⟩ => a ≤ b.length ∧ k ≤ N ∧ (512 < N → k = 0) ∧ acc.length = k ∧ namesGo N ⟨b.drop ra, re⟩ = namesT acc (N - k) ⟨b.drop a, e⟩) (fun ⟨⟨k, acc⟩, ⟨a, e⟩, nv⟩ => N - k) (fun ⟨⟨k, acc⟩, ⟨a, e⟩, nv⟩ => [(7, .v (.int .u64 k))]) [2, 4, 5, 6] (fun ⟨⟨k, acc⟩, ⟨a, e⟩, nv⟩ => blk q ⟨[.int .i64 A, .bool FL, .int .i64 S, str D, nv], 42⟩ :: sl nv (mrow str 9 acc) :: blk y (rC v a e) :: blk z ⟨Z, 42⟩ :: L) ((0, []), (ra, re), .slice none 0 0) (by dsimp only [pickE, pick1, lk2, Nat.reduceBEq, Nat.reduceAdd, Nat.zero_add, cond_true, cond_false] <;> exact rfl) ?_ (by repeat (first | exact trivial | refine ⟨rfl, ?_⟩ | refine envsub_v rfl (by first | rfl | (refine int_eq ?_; first | omega | (simp; omega) | (simp; done)) | (refine bool_eq ?_; first | (simp [*]; done) | (simp; done)) | (refine str_eq ?_; simp; done) | (refine ptr_eq ?_; omega) | fail) ?_)) ?_ ?_
  · exact ⟨hra, Nat.zero_le _, fun _ => rfl, rfl, by simp [namesT]⟩
  · refine (Ent.nilM str 9).trans ?_
    dsimp only
    exact Lay.ent
  rintro ⟨⟨k, acc⟩, ⟨a, e⟩, nv⟩ ⟨ha, hk, hk5, hal, hT⟩; dsimp only [List.cons_append, List.nil_append]
  refine r_seq ?_
  refine r_seq ?_
  refine r_region (id := 9) ?_
  refine o_give (g_move (evv rfl)) rfl rfl ?_
  refine o_give (g_move (evv rfl)) rfl rfl ?_
  refine o_give (g_bin (evv rfl) (evv rfl) (by rfl)) rfl rfl ?_
  refine o_give (g_move (evv rfl)) rfl rfl ?_
  refine o_lazy rfl (fun hg => g_move (by first | exact evv rfl | exact evg rfl (by rw [hp]; rfl) | exact evg rfl hp | exact evg rfl hg | exact evg rfl (by first | (simp_all; done) | (simp [*]; done) | fail) | fail)) rfl rfl ?_
  refine o_lazy rfl (fun hg => g_bin (by first | exact evv rfl | exact evg rfl (by rw [hp]; rfl) | exact evg rfl hp | exact evg rfl hg | exact evg rfl (by first | (simp_all; done) | (simp [*]; done) | fail) | fail) (by first | exact evv rfl | exact evg rfl (by rw [hp]; rfl) | exact evg rfl hp | exact evg rfl hg | exact evg rfl (by first | (simp_all; done) | (simp [*]; done) | fail) | fail) (by rfl)) rfl rfl ?_
  refine o_give (g_pick_and (evv rfl) (evv rfl) (fun hp => (by first | exact evv rfl | exact evg rfl (by rw [hp]; rfl) | exact evg rfl hp | exact evg rfl hg | exact evg rfl (by first | (simp_all; done) | (simp [*]; done) | fail) | fail))) rfl rfl ?_
  refine o_nil ?_
  refine c_code ?_
  refine r_cond rfl (fun hc => ?_) (fun hc => ?_) <;> (try simp only [decide_eq_true_eq, decide_eq_false_iff_not, Bool.and_eq_true, Bool.or_eq_true, Bool.not_eq_true', Bool.and_eq_false_iff, Bool.or_eq_false_iff, Bool.not_eq_false', Bool.not_eq_true, Bool.not_eq_false, Bool.true_eq_false, Bool.false_eq_true, Int.not_lt, Int.not_le, not_and, not_or, ne_eq] at hc)
  · obtain ⟨m, hm⟩ : ∃ m, N - k = m + 1 := ⟨N - k - 1, by omega⟩
    have hm2 : N - (k + 1) = m := by omega
    rw [hm, namesT_step] at hT
    repeat (first | refine r_seq ?_ | refine c_code ?_ | refine c_blk ?_ | refine r_block ?_ | refine r_skip ?_)
    refine r_cutE (σ := {x : Nat × Int // x.1 ≤ b.length ∧ (textR 1100 ⟨b.drop a, e⟩).2 = ⟨b.drop x.1, x.2⟩} × Value) (fun (x, nv') => []) [2, 4, 5, 6, 7, 25, 26, 27, 28, 29, 30, 31] (fun (x, nv') => blk q ⟨[.int .i64 A, .bool FL, .int .i64 S, str D, nv'], 42⟩ :: sl nv' (mrow str 9 (acc ++ [(textR 1100 ⟨b.drop a, e⟩).1])) :: blk y (rC v x.1.1 x.1.2) :: blk z ⟨Z, 42⟩ :: L) (by dsimp only [pickE, pick1, lk2, Nat.reduceBEq, Nat.reduceAdd, Nat.zero_add, cond_true, cond_false] <;> exact rfl) ?_ ?_
    · refine r_held (id := 11) [] Mixed.h ?_
      (refine h_give (i := 0) (by kernel_rfl) rfl (g_fld (evv rfl)) rfl rfl ?_)
      (refine h_give (i := 2) (by kernel_rfl) rfl (g_move (evv rfl)) rfl rfl ?_)
      refine h_two (i := 1) (j := 3) (by kernel_rfl) rfl rfl (Ent.nil _) ?_ ?_
      · (refine o_give (g_load (evv rfl) (by rfl) (by rfl)) rfl rfl ?_); refine o_nil ?_
        refine h_one (i := 3) (by kernel_rfl) rfl (Ent.nil _) ?_
        ((refine o_call rfl _ (Ent.refl _) (Fn.atPick (rText_g _ (by assumption) (by assumption) _ _ (by omega))) rfl ?_; rintro _ _ ⟨ra, re, hra, rfl, hrs, rfl⟩)); refine o_nil ?_
        refine h_one (i := 4) (by kernel_rfl) rfl (Ent.nil _) ?_
        (refine o_litT rfl (by rfl) rfl (fun _ => ?_)); refine o_nil ?_
        refine h_one (i := 5) (by kernel_rfl) rfl (Ent.nil _) ?_
        (refine o_appM (evv rfl) (evv rfl) (by rfl) (by rfl) (by rfl) (by (try simp only [bsOf, List.length_append, List.length_cons, List.length_nil, List.length_take, List.length_drop]); omega) rfl (fun _ => ?_)); refine o_nil ?_
        (refine h_give (i := 6) (by kernel_rfl) rfl (g_fld (evv rfl)) rfl rfl ?_)
        refine h_one (i := 7) (by kernel_rfl) rfl (Ent.nil _) ?_
        (refine o_store1 (evv rfl) (evv rfl) (by rfl) (by rfl) (by rfl) ?_); refine o_nil ?_
        refine h_done (by kernel_rfl) (Ent.nil _) ?_
        exact c_cut (⟨(ra, re), hra, hrs⟩, (by assumption)) (by repeat (first | exact trivial | refine ⟨rfl, ?_⟩ | refine envsub_v rfl (by first | rfl | (refine int_eq ?_; first | omega | (simp; omega) | (simp; done)) | (refine bool_eq ?_; first | (simp [*]; done) | (simp; done)) | (refine str_eq ?_; simp; done) | (refine ptr_eq ?_; omega) | fail) ?_)) (Lay.ent)
      · ((refine o_call rfl _ (Ent.refl _) (Fn.atPick (rText_g _ (by assumption) (by assumption) _ _ (by omega))) rfl ?_; rintro _ _ ⟨ra, re, hra, rfl, hrs, rfl⟩)); refine o_nil ?_
        refine h_two (i := 1) (j := 4) (by kernel_rfl) rfl rfl (Ent.nil _) ?_ ?_
        · (refine o_give (g_load (evv rfl) (by rfl) (by rfl)) rfl rfl ?_); refine o_nil ?_
          refine h_one (i := 4) (by kernel_rfl) rfl (Ent.nil _) ?_
          (refine o_litT rfl (by rfl) rfl (fun _ => ?_)); refine o_nil ?_
          refine h_one (i := 5) (by kernel_rfl) rfl (Ent.nil _) ?_
          (refine o_appM (evv rfl) (evv rfl) (by rfl) (by rfl) (by rfl) (by (try simp only [bsOf, List.length_append, List.length_cons, List.length_nil, List.length_take, List.length_drop]); omega) rfl (fun _ => ?_)); refine o_nil ?_
          (refine h_give (i := 6) (by kernel_rfl) rfl (g_fld (evv rfl)) rfl rfl ?_)
          refine h_one (i := 7) (by kernel_rfl) rfl (Ent.nil _) ?_
          (refine o_store1 (evv rfl) (evv rfl) (by rfl) (by rfl) (by rfl) ?_); refine o_nil ?_
          refine h_done (by kernel_rfl) (Ent.nil _) ?_
          exact c_cut (⟨(ra, re), hra, hrs⟩, (by assumption)) (by repeat (first | exact trivial | refine ⟨rfl, ?_⟩ | refine envsub_v rfl (by first | rfl | (refine int_eq ?_; first | omega | (simp; omega) | (simp; done)) | (refine bool_eq ?_; first | (simp [*]; done) | (simp; done)) | (refine str_eq ?_; simp; done) | (refine ptr_eq ?_; omega) | fail) ?_)) (Lay.ent)
        · (refine o_litT rfl (by rfl) rfl (fun _ => ?_)); refine o_nil ?_
          refine h_one (i := 1) (by kernel_rfl) rfl (Ent.nil _) ?_
          (refine o_give (g_load (evv rfl) (by rfl) (by rfl)) rfl rfl ?_); refine o_nil ?_
          refine h_one (i := 5) (by kernel_rfl) rfl (Ent.nil _) ?_
          (refine o_appM (evv rfl) (evv rfl) (by rfl) (by rfl) (by rfl) (by (try simp only [bsOf, List.length_append, List.length_cons, List.length_nil, List.length_take, List.length_drop]); omega) rfl (fun _ => ?_)); refine o_nil ?_
          (refine h_give (i := 6) (by kernel_rfl) rfl (g_fld (evv rfl)) rfl rfl ?_)
          refine h_one (i := 7) (by kernel_rfl) rfl (Ent.nil _) ?_
          (refine o_store1 (evv rfl) (evv rfl) (by rfl) (by rfl) (by rfl) ?_); refine o_nil ?_
          refine h_done (by kernel_rfl) (Ent.nil _) ?_
          exact c_cut (⟨(ra, re), hra, hrs⟩, (by assumption)) (by repeat (first | exact trivial | refine ⟨rfl, ?_⟩ | refine envsub_v rfl (by first | rfl | (refine int_eq ?_; first | omega | (simp; omega) | (simp; done)) | (refine bool_eq ?_; first | (simp [*]; done) | (simp; done)) | (refine str_eq ?_; simp; done) | (refine ptr_eq ?_; omega) | fail) ?_)) (Lay.ent)
    rintro ⟨⟨⟨a', e'⟩, hx1, hx2⟩, nv'⟩
    dsimp only [List.cons_append, List.nil_append] at hx1 hx2 ⊢
    rw [hx2] at hT
    refine c_blk ?_
    refine c_code ?_
    refine r_region (id := 10) ?_
    refine o_give (g_move (evv rfl)) rfl rfl ?_
    refine o_giveN (g_bin (evv rfl) (evv rfl) (by rfl)) (by simp only [inR]; omega) rfl ?_
    refine o_give (g_assign (evv rfl)) rfl rfl ?_
    refine o_nil ?_
    refine c_loop ((k + 1, acc ++ [(textR 1100 ⟨b.drop a, e⟩).1]), (a', e'), nv') ?_ ?_ (by repeat (first | exact trivial | refine ⟨rfl, ?_⟩ | refine envsub_v rfl (by first | rfl | (refine int_eq ?_; first | omega | (simp; omega) | (simp; done)) | (refine bool_eq ?_; first | (simp [*]; done) | (simp; done)) | (refine str_eq ?_; simp; done) | (refine ptr_eq ?_; omega) | fail) ?_)) ?_ <;> (try dsimp only)
    · exact ⟨hx1, by omega, by omega, by simp [hal], by rw [hm2]; exact hT⟩
    · omega
    · exact Lay.ent
  · by_cases hN : 512 < N
    · rw [hM hN]
      have hd : decide (512 < (N : Int)) = true := decide_eq_true (by omega)
      refine r_exit rfl ?_
      refine c_code ?_
      refine r_seq ?_
      refine r_seq ?_
      refine r_region (id := 12) ?_
      refine o_give (g_move (evv rfl)) rfl rfl ?_
      refine o_give (g_bin (evv rfl) (evv rfl) (by rfl)) rfl rfl ?_
      refine o_give (g_move (evv rfl)) rfl rfl ?_
      refine o_lazy rfl (fun hg => g_move (by first | exact evv rfl | exact evg rfl (by rw [hp]; rfl) | exact evg rfl hp | exact evg rfl hg | exact evg rfl (by first | (simp_all; done) | (simp [*]; done) | fail) | fail)) rfl rfl ?_
      refine o_lazy rfl (fun hg => g_nil (by first | exact evv rfl | exact evg rfl (by rw [hp]; rfl) | exact evg rfl hp | exact evg rfl hg | exact evg rfl (by first | (simp_all; done) | (simp [*]; done) | fail) | fail)) rfl rfl ?_
      refine o_lazy rfl (fun hg => g_fld (evg rfl hg)) rfl rfl ?_
      refine o_lazy rfl (fun hg => g_load (evg rfl hg) (by rfl) (by rfl)) rfl rfl ?_
      refine o_lazy rfl (fun hg => g_bin (by first | exact evv rfl | exact evg rfl (by rw [hp]; rfl) | exact evg rfl hp | exact evg rfl hg | exact evg rfl (by first | (simp_all; done) | (simp [*]; done) | fail) | fail) (by first | exact evv rfl | exact evg rfl (by rw [hp]; rfl) | exact evg rfl hp | exact evg rfl hg | exact evg rfl (by first | (simp_all; done) | (simp [*]; done) | fail) | fail) (by rfl)) rfl rfl ?_
      refine o_give (g_pick_or (evv rfl) (evv rfl) (fun hp => (by first | exact evv rfl | exact evg rfl (by rw [hp]; rfl) | exact evg rfl hp | exact evg rfl hg | exact evg rfl (by first | (simp_all; done) | (simp [*]; done) | fail) | fail))) rfl rfl ?_
      refine o_give (g_move (evv rfl)) rfl rfl ?_
      refine o_lazy rfl (fun hg => g_move (by first | exact evv rfl | exact evg rfl (by rw [hp]; rfl) | exact evg rfl hp | exact evg rfl hg | exact evg rfl (by first | (simp_all; done) | (simp [*]; done) | fail) | fail)) rfl rfl ?_
      simp only [hd, Bool.true_or, Bool.not_true]
      refine o_lazy (v0 := undef) rfl (fun hg => absurd hg (by first | (simp; done) | fail)) rfl rfl ?_
      refine o_lazy (v0 := undef) rfl (fun hg => absurd hg (by first | (simp; done) | fail)) rfl rfl ?_
      refine o_give (g_pick (b := true) (evv rfl) (fun _ => (evv rfl)) (fun h => by cases h)) rfl rfl ?_
      refine o_nil ?_
      refine c_code ?_
      refine r_cond_true rfl ?_
      refine r_seq ?_
      refine r_region (id := 13) ?_
      refine o_give (v := agg [(Go.Value.int Go.IntKind.i64 0), (Go.Value.bool false), (Go.Value.int Go.IntKind.i64 0), (Go.Value.string { data := #[] }), (Go.Value.slice none 0 0)]) (g_buildC rfl (by rfl)) rfl rfl ?_
      refine o_storeW (evv rfl) (evv rfl) (by first | rfl | assumption | (simp [bys, *]; done) | fail) (by first | (intro _ _ _; exact bys_one _) | exact AllOne.h | (intro _ _ _ u hu; simp at hu; rcases hu with rfl | rfl | rfl | rfl | rfl | rfl | rfl | rfl <;> rfl) | fail) (by first | rfl | (simp [bys, *]; done) | (simp only [bys, List.length_map, *]; rfl) | fail) ?_
      refine o_give (g_assign (evv rfl)) rfl rfl ?_
      refine o_nil ?_
      refine c_code ?_
      first | refine r_retC (rs := [.cell 2 42, .tmp 3]) rfl (by first | exact ro_agg rfl rfl (by first | rfl | (simp [bys, *]; done)) (ro_tmp rfl ro_nil) | exact ro_cell rfl rfl rfl (ro_tmp rfl ro_nil)) _ (((Lay.ent (L' := L)).trans (Ent.nilM str 9))) ?_ | refine c_endC (rs := [.cell 2 42, .tmp 3]) rfl (by first | exact ro_agg rfl rfl (by first | rfl | (simp [bys, *]; done)) (ro_tmp rfl ro_nil) | exact ro_cell rfl rfl rfl (ro_tmp rfl ro_nil)) _ (((Lay.ent (L' := L)).trans (Ent.nilM str 9))) ?_
      exact ⟨_, rfl, rfl⟩
    · have hB := hB hN
      have hG := hG hN
      have hkN : N - k = 0 := by omega
      rw [hkN, show namesT acc 0 ⟨b.drop a, e⟩ = (acc, ⟨b.drop a, e⟩) by simp [namesT, namesGo]] at hT
      rw [hT] at hB hG
      dsimp only at hB hG
      have hd : decide (512 < (N : Int)) = false := decide_eq_false (by omega)
      refine r_exit rfl ?_
      refine c_code ?_
      refine r_seq ?_
      refine r_seq ?_
      refine r_region (id := 12) ?_
      refine o_give (g_move (evv rfl)) rfl rfl ?_
      refine o_give (g_bin (evv rfl) (evv rfl) (by rfl)) rfl rfl ?_
      refine o_give (g_move (evv rfl)) rfl rfl ?_
      refine o_lazy rfl (fun hg => g_move (by first | exact evv rfl | exact evg rfl (by rw [hp]; rfl) | exact evg rfl hp | exact evg rfl hg | exact evg rfl (by first | (simp_all; done) | (simp [*]; done) | fail) | fail)) rfl rfl ?_
      refine o_lazy rfl (fun hg => g_nil (by first | exact evv rfl | exact evg rfl (by rw [hp]; rfl) | exact evg rfl hp | exact evg rfl hg | exact evg rfl (by first | (simp_all; done) | (simp [*]; done) | fail) | fail)) rfl rfl ?_
      refine o_lazy rfl (fun hg => g_fld (evg rfl hg)) rfl rfl ?_
      refine o_lazy rfl (fun hg => g_load (evg rfl hg) (by rfl) (by rfl)) rfl rfl ?_
      refine o_lazy rfl (fun hg => g_bin (by first | exact evv rfl | exact evg rfl (by rw [hp]; rfl) | exact evg rfl hp | exact evg rfl hg | exact evg rfl (by first | (simp_all; done) | (simp [*]; done) | fail) | fail) (by first | exact evv rfl | exact evg rfl (by rw [hp]; rfl) | exact evg rfl hp | exact evg rfl hg | exact evg rfl (by first | (simp_all; done) | (simp [*]; done) | fail) | fail) (by rfl)) rfl rfl ?_
      refine o_give (g_pick_or (evv rfl) (evv rfl) (fun hp => (by first | exact evv rfl | exact evg rfl (by rw [hp]; rfl) | exact evg rfl hp | exact evg rfl hg | exact evg rfl (by first | (simp_all; done) | (simp [*]; done) | fail) | fail))) rfl rfl ?_
      refine o_give (g_move (evv rfl)) rfl rfl ?_
      refine o_lazy rfl (fun hg => g_move (by first | exact evv rfl | exact evg rfl (by rw [hp]; rfl) | exact evg rfl hp | exact evg rfl hg | exact evg rfl (by first | (simp_all; done) | (simp [*]; done) | fail) | fail)) rfl rfl ?_
      by_cases h0 : e = 0
      · subst h0
        simp only [hd, decide_true, Bool.not_true, Bool.not_false, Bool.or_false, Bool.or_true, Bool.false_or]
        refine o_sure (t := 51) rfl rfl ?_
        refine o_gyes rfl ?_
        (refine o_call rfl _ (Ent.refl _) (Fn.atPick (rLeft_g _ (by assumption) (by assumption) _)) rfl ?_; rintro _ _ ⟨rfl, rfl⟩)
        refine o_gyes rfl ?_
        refine o_give (g_bin (evv rfl) (evv rfl) (by rfl)) rfl rfl ?_
        refine o_give (g_pick (b := false) (evv rfl) (fun h => by cases h) (fun _ => (evv rfl))) rfl rfl ?_
        refine o_nil ?_
        refine c_code ?_
        refine r_cond rfl (fun hc3 => ?_) (fun hc3 => ?_) <;> (try simp only [decide_eq_true_eq, decide_eq_false_iff_not, Bool.and_eq_true, Bool.or_eq_true, Bool.not_eq_true', Bool.and_eq_false_iff, Bool.or_eq_false_iff, Bool.not_eq_false', Bool.not_eq_true, Bool.not_eq_false, Bool.true_eq_false, Bool.false_eq_true, Int.not_lt, Int.not_le, not_and, not_or, ne_eq] at hc3)
        · rw [hB (by omega)]
          refine r_seq ?_
          refine r_region (id := 13) ?_
          refine o_give (v := agg [(Go.Value.int Go.IntKind.i64 0), (Go.Value.bool false), (Go.Value.int Go.IntKind.i64 0), (Go.Value.string { data := #[] }), (Go.Value.slice none 0 0)]) (g_buildC rfl (by rfl)) rfl rfl ?_
          refine o_storeW (evv rfl) (evv rfl) (by first | rfl | assumption | (simp [bys, *]; done) | fail) (by first | (intro _ _ _; exact bys_one _) | exact AllOne.h | (intro _ _ _ u hu; simp at hu; rcases hu with rfl | rfl | rfl | rfl | rfl | rfl | rfl | rfl <;> rfl) | fail) (by first | rfl | (simp [bys, *]; done) | (simp only [bys, List.length_map, *]; rfl) | fail) ?_
          refine o_give (g_assign (evv rfl)) rfl rfl ?_
          refine o_nil ?_
          refine c_code ?_
          first | refine r_retC (rs := [.cell 2 42, .tmp 3]) rfl (by first | exact ro_agg rfl rfl (by first | rfl | (simp [bys, *]; done)) (ro_tmp rfl ro_nil) | exact ro_cell rfl rfl rfl (ro_tmp rfl ro_nil)) _ (((Lay.ent (L' := L)).trans (Ent.nilM str 9))) ?_ | refine c_endC (rs := [.cell 2 42, .tmp 3]) rfl (by first | exact ro_agg rfl rfl (by first | rfl | (simp [bys, *]; done)) (ro_tmp rfl ro_nil) | exact ro_cell rfl rfl rfl (ro_tmp rfl ro_nil)) _ (((Lay.ent (L' := L)).trans (Ent.nilM str 9))) ?_
          exact ⟨_, rfl, rfl⟩
        · rw [hG (by omega)]
          refine r_skip ?_
          refine c_code ?_
          refine r_seq ?_
          refine r_region (id := 14) ?_
          refine o_give (g_loadF (evv rfl) (by rfl) (by rfl)) rfl rfl ?_
          refine o_storeW (evv rfl) (evv rfl) (by first | rfl | assumption | (simp [bys, *]; done) | fail) (by first | (intro _ _ _; exact bys_one _) | exact AllOne.h | (intro _ _ _ u hu; simp at hu; rcases hu with rfl | rfl | rfl | rfl | rfl | rfl | rfl | rfl <;> rfl) | fail) (by first | rfl | (simp [bys, *]; done) | (simp only [bys, List.length_map, *]; rfl) | fail) ?_
          refine o_give (g_assign (evv rfl)) rfl rfl ?_
          refine o_nil ?_
          refine c_code ?_
          first | refine r_retC (rs := [.cell 2 42, .tmp 3]) rfl (by first | exact ro_agg rfl rfl (by first | rfl | (simp [bys, *]; done)) (ro_tmp rfl ro_nil) | exact ro_cell rfl rfl rfl (ro_tmp rfl ro_nil)) _ ((Lay.ent (L' := sl nv (mrow str 9 acc) :: L))) ?_ | refine c_endC (rs := [.cell 2 42, .tmp 3]) rfl (by first | exact ro_agg rfl rfl (by first | rfl | (simp [bys, *]; done)) (ro_tmp rfl ro_nil) | exact ro_cell rfl rfl rfl (ro_tmp rfl ro_nil)) _ ((Lay.ent (L' := sl nv (mrow str 9 acc) :: L))) ?_
          exact ⟨nv, rfl, rfl⟩
      · simp only [hd, decide_eq_false h0, Bool.not_true, Bool.not_false, Bool.or_false, Bool.or_true, Bool.false_or]
        refine o_lazy (v0 := undef) rfl (fun hg => absurd hg (by first | (simp; done) | fail)) rfl rfl ?_
        refine o_lazy (v0 := undef) rfl (fun hg => absurd hg (by first | (simp; done) | fail)) rfl rfl ?_
        refine o_give (g_pick (b := true) (evv rfl) (fun _ => (evv rfl)) (fun h => by cases h)) rfl rfl ?_
        refine o_nil ?_
        refine c_code ?_
        refine r_cond_true rfl ?_
        refine r_seq ?_
        rw [hB (fun h => h0 h.1)]
        refine r_region (id := 13) ?_
        refine o_give (v := agg [(Go.Value.int Go.IntKind.i64 0), (Go.Value.bool false), (Go.Value.int Go.IntKind.i64 0), (Go.Value.string { data := #[] }), (Go.Value.slice none 0 0)]) (g_buildC rfl (by rfl)) rfl rfl ?_
        refine o_storeW (evv rfl) (evv rfl) (by first | rfl | assumption | (simp [bys, *]; done) | fail) (by first | (intro _ _ _; exact bys_one _) | exact AllOne.h | (intro _ _ _ u hu; simp at hu; rcases hu with rfl | rfl | rfl | rfl | rfl | rfl | rfl | rfl <;> rfl) | fail) (by first | rfl | (simp [bys, *]; done) | (simp only [bys, List.length_map, *]; rfl) | fail) ?_
        refine o_give (g_assign (evv rfl)) rfl rfl ?_
        refine o_nil ?_
        refine c_code ?_
        first | refine r_retC (rs := [.cell 2 42, .tmp 3]) rfl (by first | exact ro_agg rfl rfl (by first | rfl | (simp [bys, *]; done)) (ro_tmp rfl ro_nil) | exact ro_cell rfl rfl rfl (ro_tmp rfl ro_nil)) _ (((Lay.ent (L' := L)).trans (Ent.nilM str 9))) ?_ | refine c_endC (rs := [.cell 2 42, .tmp 3]) rfl (by first | exact ro_agg rfl rfl (by first | rfl | (simp [bys, *]; done)) (ro_tmp rfl ro_nil) | exact ro_cell rfl rfl rfl (ro_tmp rfl ro_nil)) _ (((Lay.ent (L' := L)).trans (Ent.nilM str 9))) ?_
        exact ⟨_, rfl, rfl⟩
end VK
