/- An operation's bytes: written and read, the code's and the reference's. Conditions: texts of a machine's size. -/
import Derived.Test.YtmjmlmjcfekphaaOpC
import Derived.Test.YtmjmlmjcfekphaaWireL
import Derived.Test.YtmjmlmjcfekphaaRIn
namespace VK
open Go Go.Proofs
set_option linter.unusedSimpArgs false
set_option linter.unusedVariables false
set_option maxRecDepth 100000
set_option maxHeartbeats 40000000
theorem g_max3 {c : Cx} {E : Env} {L : List Atom} {d : Option Nat} {ty : TypeId} {pos : String} {aft : Array Edge} {gd : Option (Nat × Bool)} {ts : Array TypeId} {x y z : Operand} {kd : IntKind} {m n k : Int} (hx : Evs c E x (.int kd m)) (hy : Evs c E y (.int kd n)) (hz : Evs c E z (.int kd k)) :
    Gives c E L ⟨d, .call { callee := .builtin .max, args := #[x, y, z], argTypes := ts }, ty, pos, aft, gd⟩ (.int kd (max (max m n) k)) := by
  unfold Gives Evs at *
  intro a w he _
  have e1 : ∀ m n : Int, (if n > m then n else m) = max m n := fun m n => by split <;> omega
  simp [execOp, resolve, invoke, builtin, hx a he, hy a he, hz a he, Builtin.max_, Builtin.max2, e1]
theorem newOutA {F : List Atom} (o : Nat) : Ent (blk o ⟨[.slice none 0 0], 79⟩ :: F) (outA o [] :: F) :=
  (Ent.cons (Ent.nilM by8 5)).trans (Ent.shut (X := fun v : Value => [blk o ⟨[v], 79⟩, sl v (mrow by8 5 [])]) _)
/-! ### plain -/
def encOp (o : OpS) : List UInt8 := intB o.kind ++ textB o.path ++ textB o.to_ ++ textB o.data ++ intB o.at_ ++ intB o.size
def longOp (o : OpS) : Prop := 1100 < o.path.length ∨ 1100 < o.to_.length ∨ 1100 < o.data.length
instance (o : OpS) : Decidable (longOp o) := by unfold longOp; infer_instance
def opR (s : InS) : OpS × InS :=
  let a := numR s
  let b := textR 1100 a.2
  let c := textR 1100 b.2
  let d := textR 1100 c.2
  let e := numR d.2
  let f := numR e.2
  (⟨unzig a.1, b.1, c.1, d.1, unzig e.1, unzig f.1⟩, f.2)
def decOp (b : List UInt8) : Option OpS := if (opR ⟨b, 0⟩).2.err = 0 ∧ (opR ⟨b, 0⟩).2.bs.length = 0 then some (opR ⟨b, 0⟩).1 else none
theorem opR_back {o : OpS} (ho : o.ok) (hl : ¬ longOp o) (r : List UInt8) : opR ⟨encOp o ++ r, 0⟩ = (o, ⟨r, 0⟩) := by
  obtain ⟨kind, path, to_, data, at_, size⟩ := o
  simp only [OpS.ok, inR] at ho
  simp only [longOp, not_or] at hl
  obtain ⟨h1, h2, h3, h4, h5, h6⟩ := ho
  obtain ⟨l1, l2, l3⟩ := hl
  have hz1 := zig_le kind h1.1 h1.2
  have hz5 := zig_le at_ h5.1 h5.2
  have hz6 := zig_le size h6.1 h6.2
  have e1 := numR_num (m := zig kind) (textB path ++ (textB to_ ++ (textB data ++ (num (zig at_) ++ (num (zig size) ++ r))))) hz1
  have e2 := textR_back (s := path) (r := textB to_ ++ (textB data ++ (num (zig at_) ++ (num (zig size) ++ r)))) (most := 1100) (by omega) (by omega)
  have e3 := textR_back (s := to_) (r := textB data ++ (num (zig at_) ++ (num (zig size) ++ r))) (most := 1100) (by omega) (by omega)
  have e4 := textR_back (s := data) (r := num (zig at_) ++ (num (zig size) ++ r)) (most := 1100) (by omega) (by omega)
  have e5 := numR_num (m := zig at_) (num (zig size) ++ r) hz5
  have e6 := numR_num (m := zig size) r hz6
  have e0 : encOp ⟨kind, path, to_, data, at_, size⟩ ++ r = num (zig kind) ++ (textB path ++ (textB to_ ++ (textB data ++ (num (zig at_) ++ (num (zig size) ++ r))))) := by simp [encOp, intB]
  rw [e0]
  simp only [opR, e1, e2, e3, e4, e5, e6, unzig_zig]
theorem opR_canon {s : InS} {o : OpS} {r : List UInt8} (h : opR s = (o, ⟨r, 0⟩)) : s = ⟨encOp o ++ r, 0⟩ ∧ ¬ longOp o := by
  simp only [opR, Prod.mk.injEq] at h
  obtain ⟨rfl, h⟩ := h
  have h6 := num_canon (s := (numR (textR 1100 (textR 1100 (textR 1100 (numR s).2).2).2).2).2) (m := _) (r := r) (Prod.ext rfl h)
  have h5 := num_canon (s := (textR 1100 (textR 1100 (textR 1100 (numR s).2).2).2).2) (m := _) (r := _) (Prod.ext rfl h6)
  have h4 := text_canon (s := (textR 1100 (textR 1100 (numR s).2).2).2) (Prod.ext rfl h5)
  have h3 := text_canon (s := (textR 1100 (numR s).2).2) (Prod.ext rfl h4.1)
  have h2 := text_canon (s := (numR s).2) (Prod.ext rfl h3.1)
  have h1 := num_canon (s := s) (Prod.ext rfl h2.1)
  refine ⟨h1.trans ?_, ?_⟩
  · simp [encOp, intB, zig_unzig]
  · simp only [longOp, not_or]
    have l2 : ((textR 1100 (numR s).2).1.length : Int) ≤ max 1100 0 := h2.2
    have l3 : ((textR 1100 (textR 1100 (numR s).2).2).1.length : Int) ≤ max 1100 0 := h3.2
    have l4 : ((textR 1100 (textR 1100 (textR 1100 (numR s).2).2).2).1.length : Int) ≤ max 1100 0 := h4.2
    omega
theorem dec_enc {o : OpS} (ho : o.ok) (hl : ¬ longOp o) : decOp (encOp o) = some o := by
  have := opR_back ho hl []
  rw [List.append_nil] at this
  unfold decOp
  rw [this, if_pos ⟨rfl, rfl⟩]
theorem dec_canon {b : List UInt8} {o : OpS} (h : decOp b = some o) : b = encOp o ∧ ¬ longOp o := by
  unfold decOp at h
  split at h
  · rename_i hc
    cases h
    have : opR ⟨b, 0⟩ = ((opR ⟨b, 0⟩).1, ⟨[], 0⟩) := by
      refine Prod.ext rfl ?_
      have h2 := List.eq_nil_of_length_eq_zero hc.2
      have h1 := hc.1
      generalize (opR ⟨b, 0⟩).2 = s at *
      cases s
      simp only at h1 h2
      rw [h1, h2]
    obtain ⟨e, hl⟩ := opR_canon this
    rw [List.append_nil] at e
    exact ⟨congrArg InS.bs e, hl⟩
  · cases h
theorem dec_more {o : OpS} (ho : o.ok) (hl : ¬ longOp o) : decOp (encOp o ++ [0]) = none := by
  unfold decOp
  rw [opR_back ho hl, if_neg (fun h => by have := h.2; simp at this)]
def OpS.okI (o : OpS) : Prop := inR .i64 o.kind ∧ inR .i64 o.at_ ∧ inR .i64 o.size
theorem unzig_in {n : Nat} (h : n ≤ 18446744073709551615) : inR .i64 (unzig n) := by
  simp only [inR]; unfold unzig; split <;> omega
theorem dec_ok {b : List UInt8} {o : OpS} (h : decOp b = some o) : o.ok := by
  have hl := (dec_canon h).2
  simp only [longOp, not_or] at hl
  unfold decOp at h
  split at h
  · cases h
    refine ⟨unzig_in (numR_le _), ?_, ?_, ?_, unzig_in (numR_le _), unzig_in (numR_le _)⟩
    all_goals (rw [show maxLen = 9223372036854775807 from rfl]; omega)
  · cases h
theorem dec_less {o : OpS} (ho : o.ok) (hl : ¬ longOp o) : decOp (encOp o).dropLast = none := by
  cases h : decOp (encOp o).dropLast with
  | none => rfl
  | some p =>
    exfalso
    obtain ⟨e, hp⟩ := dec_canon h
    have hp2 := dec_ok h
    have h1 := opR_back ho hl []
    rw [List.append_nil] at h1
    by_cases hn : encOp o = []
    · rw [hn] at e
      have : opR ⟨[], 0⟩ = (p, ⟨[], 0⟩) := by
        have := opR_back hp2 hp []
        rwa [← e] at this
      rw [hn, this] at h1
      have : (opR ⟨[], 0⟩).2.err = 20 := by decide
      rw [‹opR ⟨[], 0⟩ = (p, ⟨[], 0⟩)›] at this
      cases this
    · have e2 := List.dropLast_concat_getLast hn
      rw [e] at e2
      have h2 := opR_back hp2 hp [(encOp o).getLast hn]
      rw [e2, h1] at h2
      simp at h2
/-! ### walks -/
theorem textB_len {s : List UInt8} (h : s.length ≤ 1048576) : (textB s).length ≤ 10 + s.length := by
  have := num_le s.length (by omega)
  simp only [textB, List.length_append]; omega
theorem intB_len {n : Int} (h : inR .i64 n) : (intB n).length ≤ 10 := by
  simp only [inR] at h
  exact num_le (zig n) (zig_le _ h.1 h.2)
theorem OpEnc_c (L : List Atom) (o : OpS) (ho : o.ok) : Fn Try.prog 21 [agg (opSC o)] L fun w L' => ∃ v, w = .tuple #[v, .int .i64 (if longOp o then 2 else 0)] ∧ L' = sl v (mrow by8 5 (if longOp o then [] else encOp o)) :: L := by
  obtain ⟨h1, h2, h3, h4, h5, h6⟩ := ho
  have b1 := intB_len h1
  have b5 := intB_len h5
  have b6 := intB_len h6
  simp only [inR] at h1 h5 h6
  refine fn_intro Try.func21 rfl Try.ntmps21 rfl (fun W0 => ?_)
  simp only [argE]
  refine r_seq ?_
  refine r_region (id := 0) ?_
  refine o_boxA (evv rfl) rfl (fun _ => ?_)
  refine o_give (g_assign (evv rfl)) rfl rfl ?_
  refine o_give (g_assign (evv rfl)) rfl rfl ?_
  refine o_nil ?_
  refine c_code ?_
  refine r_seq ?_
  refine r_seq ?_
  refine r_region (id := 1) ?_
  refine o_give (g_fld (evv rfl)) rfl rfl ?_
  refine o_give (g_load (evv rfl) (by rfl) (by rfl)) rfl rfl ?_
  refine o_give (g_lenS TyU.h (evv rfl)) rfl rfl ?_
  refine o_give (g_fld (evv rfl)) rfl rfl ?_
  refine o_give (g_load (evv rfl) (by rfl) (by rfl)) rfl rfl ?_
  refine o_give (g_lenS TyU.h (evv rfl)) rfl rfl ?_
  refine o_give (g_fld (evv rfl)) rfl rfl ?_
  refine o_give (g_load (evv rfl) (by rfl) (by rfl)) rfl rfl ?_
  refine o_give (g_lenS TyU.h (evv rfl)) rfl rfl ?_
  refine o_give (g_max3 (evv rfl) (evv rfl) (evv rfl)) rfl rfl ?_
  refine o_give (g_bin (evv rfl) (evv rfl) (by rfl)) rfl rfl ?_
  refine o_nil ?_
  refine c_code ?_
  rename_i q
  refine r_cond rfl (fun hl => ?_) (fun hl => ?_) <;> (try simp only [decide_eq_true_eq, decide_eq_false_iff_not, Bool.and_eq_true, Bool.or_eq_true, Bool.not_eq_true', Bool.and_eq_false_iff, Bool.or_eq_false_iff, Bool.not_eq_false', Bool.not_eq_true, Bool.not_eq_false, Bool.true_eq_false, Bool.false_eq_true, Int.not_lt, Int.not_le, not_and, not_or, ne_eq] at hl)
  · have hlo : longOp o := by simp only [longOp]; omega
    rw [if_pos hlo, if_pos hlo]
    refine r_seq ?_
    refine r_region (id := 2) ?_
    refine o_give (g_assign (evv rfl)) rfl rfl ?_
    refine o_give (g_assign (evv rfl)) rfl rfl ?_
    refine o_nil ?_
    refine c_code ?_
    first | refine r_ret (rs := [.tmp 2, .tmp 3]) rfl rfl _ (((Lay.ent (L' := L)).trans (Ent.nilM by8 5))) ?_ | refine c_end (rs := [.tmp 2, .tmp 3]) rfl rfl _ (((Lay.ent (L' := L)).trans (Ent.nilM by8 5))) ?_
    exact ⟨_, rfl, rfl⟩
  · have hlo : ¬ longOp o := by simp only [longOp, not_or]; omega
    rw [if_neg hlo, if_neg hlo]
    have t2 := textB_len (s := o.path) (by omega)
    have t3 := textB_len (s := o.to_) (by omega)
    have t4 := textB_len (s := o.data) (by omega)
    refine r_skip ?_
    refine c_code ?_
    refine r_seq ?_
    refine r_region (id := 3) ?_
    refine o_alloc rfl rfl (fun _ => ?_)
    refine o_nil ?_
    refine c_code ?_
    refine r_seq ?_
    rename_i out
    refine r_ent _ (newOutA out) ?_
    refine r_region (id := 4) ?_
    refine o_give (g_fld (evv rfl)) rfl rfl ?_
    refine o_give (g_load (evv rfl) (by rfl) (by rfl)) rfl rfl ?_
    (refine o_call rfl _ (Ent.refl _) (Int_l _ (by omega) (by (try simp only [bsOf, List.length_append, List.length_cons, List.length_nil]); omega)) rfl ?_; rintro _ _ ⟨rfl, rfl⟩)
    refine o_nil ?_
    refine c_code ?_
    refine r_seq ?_
    refine r_region (id := 5) ?_
    refine o_give (g_fld (evv rfl)) rfl rfl ?_
    refine o_give (g_load (evv rfl) (by rfl) (by rfl)) rfl rfl ?_
    (refine o_call rfl _ (Ent.refl _) (Text_l (by (try simp only [bsOf, List.length_append, List.length_cons, List.length_nil]); omega)) rfl ?_; rintro _ _ ⟨rfl, rfl⟩)
    refine o_nil ?_
    refine c_code ?_
    refine r_seq ?_
    refine r_region (id := 6) ?_
    refine o_give (g_fld (evv rfl)) rfl rfl ?_
    refine o_give (g_load (evv rfl) (by rfl) (by rfl)) rfl rfl ?_
    (refine o_call rfl _ (Ent.refl _) (Text_l (by (try simp only [bsOf, List.length_append, List.length_cons, List.length_nil]); omega)) rfl ?_; rintro _ _ ⟨rfl, rfl⟩)
    refine o_nil ?_
    refine c_code ?_
    refine r_seq ?_
    refine r_region (id := 7) ?_
    refine o_give (g_fld (evv rfl)) rfl rfl ?_
    refine o_give (g_load (evv rfl) (by rfl) (by rfl)) rfl rfl ?_
    (refine o_call rfl _ (Ent.refl _) (Text_l (by (try simp only [bsOf, List.length_append, List.length_cons, List.length_nil]); omega)) rfl ?_; rintro _ _ ⟨rfl, rfl⟩)
    refine o_nil ?_
    refine c_code ?_
    refine r_seq ?_
    refine r_region (id := 8) ?_
    refine o_give (g_fld (evv rfl)) rfl rfl ?_
    refine o_give (g_load (evv rfl) (by rfl) (by rfl)) rfl rfl ?_
    (refine o_call rfl _ (Ent.refl _) (Int_l _ (by omega) (by (try simp only [bsOf, List.length_append, List.length_cons, List.length_nil]); omega)) rfl ?_; rintro _ _ ⟨rfl, rfl⟩)
    refine o_nil ?_
    refine c_code ?_
    refine r_seq ?_
    refine r_region (id := 9) ?_
    refine o_give (g_fld (evv rfl)) rfl rfl ?_
    refine o_give (g_load (evv rfl) (by rfl) (by rfl)) rfl rfl ?_
    (refine o_call rfl _ (Ent.refl _) (Int_l _ (by omega) (by (try simp only [bsOf, List.length_append, List.length_cons, List.length_nil]); omega)) rfl ?_; rintro _ _ ⟨rfl, rfl⟩)
    refine o_nil ?_
    refine c_code ?_
    refine r_seq ?_
    refine r_region (id := 10) ?_
    (refine o_call rfl _ (Ent.refl _) (Bytes_l (by (try simp only [bsOf, List.length_append, List.length_cons, List.length_nil]); omega)) rfl ?_; rintro _ _ ⟨_, rfl⟩)
    refine o_give (g_assign (evv rfl)) rfl rfl ?_
    refine o_give (g_assign (evv rfl)) rfl rfl ?_
    refine o_nil ?_
    refine c_code ?_
    rename_i v _
    rw [List.nil_append]
    first | refine r_ret (rs := [.tmp 2, .tmp 3]) rfl rfl _ ((Lay.ent (L' := sl v (mrow by8 5 (intB o.kind ++ textB o.path ++ textB o.to_ ++ textB o.data ++ intB o.at_ ++ intB o.size)) :: L))) ?_ | refine c_end (rs := [.tmp 2, .tmp 3]) rfl rfl _ ((Lay.ent (L' := sl v (mrow by8 5 (intB o.kind ++ textB o.path ++ textB o.to_ ++ textB o.data ++ intB o.at_ ++ intB o.size)) :: L))) ?_
    exact ⟨_, rfl, rfl⟩
theorem ROpEnc_c (L : List Atom) (o : OpS) (ho : o.ok) : Fn Try.prog 25 [agg (opSC o)] L fun w L' => ∃ v, w = .tuple #[v, .int .i64 (if longOp o then 2 else 0)] ∧ L' = sl v (mrow by8 5 (if longOp o then [] else encOp o)) :: L := by
  obtain ⟨h1, h2, h3, h4, h5, h6⟩ := ho
  have b1 := intB_len h1
  have b5 := intB_len h5
  have b6 := intB_len h6
  simp only [inR] at h1 h5 h6
  refine fn_intro Try.func25 rfl Try.ntmps25 rfl (fun W0 => ?_)
  simp only [argE]
  refine r_seq ?_
  refine r_region (id := 0) ?_
  refine o_boxA (evv rfl) rfl (fun _ => ?_)
  refine o_give (g_assign (evv rfl)) rfl rfl ?_
  refine o_give (g_assign (evv rfl)) rfl rfl ?_
  refine o_nil ?_
  refine c_code ?_
  refine r_seq ?_
  refine r_seq ?_
  refine r_region (id := 1) ?_
  refine o_give (g_fld (evv rfl)) rfl rfl ?_
  refine o_give (g_load (evv rfl) (by rfl) (by rfl)) rfl rfl ?_
  refine o_give (g_lenS TyU.h (evv rfl)) rfl rfl ?_
  refine o_give (g_bin (evv rfl) (evv rfl) (by rfl)) rfl rfl ?_
  refine o_give (g_move (evv rfl)) rfl rfl ?_
  refine o_lazy rfl (fun hg => g_fld (evv rfl)) rfl rfl ?_
  refine o_lazy rfl (fun hg => g_load (evg rfl hg) (by rfl) (by rfl)) rfl rfl ?_
  refine o_lazy rfl (fun hg => g_lenS TyU.h (by first | exact evv rfl | exact evg rfl (by rw [hp]; rfl) | exact evg rfl hp | exact evg rfl hg | exact evg rfl (by first | (simp_all; done) | (simp [*]; done) | fail) | fail)) rfl rfl ?_
  refine o_lazy rfl (fun hg => g_bin (by first | exact evv rfl | exact evg rfl (by rw [hp]; rfl) | exact evg rfl hp | exact evg rfl hg | exact evg rfl (by first | (simp_all; done) | (simp [*]; done) | fail) | fail) (by first | exact evv rfl | exact evg rfl (by rw [hp]; rfl) | exact evg rfl hp | exact evg rfl hg | exact evg rfl (by first | (simp_all; done) | (simp [*]; done) | fail) | fail) (by rfl)) rfl rfl ?_
  refine o_give (g_pick_or (evv rfl) (evv rfl) (fun hp => (by first | exact evv rfl | exact evg rfl (by rw [hp]; rfl) | exact evg rfl hp | exact evg rfl hg | exact evg rfl (by first | (simp_all; done) | (simp [*]; done) | fail) | fail))) rfl rfl ?_
  refine o_give (g_move (evv rfl)) rfl rfl ?_
  refine o_lazy rfl (fun hg => g_fld (evv rfl)) rfl rfl ?_
  refine o_lazy rfl (fun hg => g_load (evg rfl hg) (by rfl) (by rfl)) rfl rfl ?_
  refine o_lazy rfl (fun hg => g_lenS TyU.h (by first | exact evv rfl | exact evg rfl (by rw [hp]; rfl) | exact evg rfl hp | exact evg rfl hg | exact evg rfl (by first | (simp_all; done) | (simp [*]; done) | fail) | fail)) rfl rfl ?_
  refine o_lazy rfl (fun hg => g_bin (by first | exact evv rfl | exact evg rfl (by rw [hp]; rfl) | exact evg rfl hp | exact evg rfl hg | exact evg rfl (by first | (simp_all; done) | (simp [*]; done) | fail) | fail) (by first | exact evv rfl | exact evg rfl (by rw [hp]; rfl) | exact evg rfl hp | exact evg rfl hg | exact evg rfl (by first | (simp_all; done) | (simp [*]; done) | fail) | fail) (by rfl)) rfl rfl ?_
  refine o_give (g_pick_or (evv rfl) (evv rfl) (fun hp => (by first | exact evv rfl | exact evg rfl (by rw [hp]; rfl) | exact evg rfl hp | exact evg rfl hg | exact evg rfl (by first | (simp_all; done) | (simp [*]; done) | fail) | fail))) rfl rfl ?_
  refine o_nil ?_
  refine c_code ?_
  rename_i q
  refine r_cond rfl (fun hl => ?_) (fun hl => ?_) <;> (try simp only [decide_eq_true_eq, decide_eq_false_iff_not, Bool.and_eq_true, Bool.or_eq_true, Bool.not_eq_true', Bool.and_eq_false_iff, Bool.or_eq_false_iff, Bool.not_eq_false', Bool.not_eq_true, Bool.not_eq_false, Bool.true_eq_false, Bool.false_eq_true, Int.not_lt, Int.not_le, not_and, not_or, ne_eq] at hl)
  · have hlo : longOp o := by simp only [longOp]; omega
    rw [if_pos hlo, if_pos hlo]
    refine r_seq ?_
    refine r_region (id := 2) ?_
    refine o_give (g_assign (evv rfl)) rfl rfl ?_
    refine o_give (g_assign (evv rfl)) rfl rfl ?_
    refine o_nil ?_
    refine c_code ?_
    first | refine r_ret (rs := [.tmp 2, .tmp 3]) rfl rfl _ (((Lay.ent (L' := L)).trans (Ent.nilM by8 5))) ?_ | refine c_end (rs := [.tmp 2, .tmp 3]) rfl rfl _ (((Lay.ent (L' := L)).trans (Ent.nilM by8 5))) ?_
    exact ⟨_, rfl, rfl⟩
  · have hlo : ¬ longOp o := by simp only [longOp, not_or]; omega
    rw [if_neg hlo, if_neg hlo]
    have t2 := textB_len (s := o.path) (by omega)
    have t3 := textB_len (s := o.to_) (by omega)
    have t4 := textB_len (s := o.data) (by omega)
    refine r_skip ?_
    refine c_code ?_
    refine r_seq ?_
    refine r_region (id := 3) ?_
    refine o_give (g_fld (evv rfl)) rfl rfl ?_
    refine o_give (g_load (evv rfl) (by rfl) (by rfl)) rfl rfl ?_
    (refine o_call rfl _ (Ent.refl _) (rInt_c _ _ (by omega)) rfl ?_; rintro _ _ ⟨_, rfl⟩)
    refine o_give (g_assign (evv rfl)) rfl rfl ?_
    refine o_nil ?_
    refine c_code ?_
    refine r_seq ?_
    refine r_region (id := 4) ?_
    refine o_give (g_move (evv rfl)) rfl rfl ?_
    refine o_give (g_fld (evv rfl)) rfl rfl ?_
    refine o_give (g_load (evv rfl) (by rfl) (by rfl)) rfl rfl ?_
    (refine o_call rfl _ (Ent.refl _) (rText_c _ _ (by omega)) rfl ?_; rintro _ _ ⟨_, rfl⟩)
    refine o_appM (evv rfl) (evv rfl) (by rfl) (by rfl) (by rfl) (by (try simp only [bsOf, List.length_append, List.length_cons, List.length_nil, List.length_take, List.length_drop, List.length_map, List.length_range]); omega) rfl (fun _ => ?_)
    refine o_give (g_assign (evv rfl)) rfl rfl ?_
    refine o_nil ?_
    refine c_code ?_
    refine r_seq ?_
    refine r_region (id := 5) ?_
    refine o_give (g_move (evv rfl)) rfl rfl ?_
    refine o_give (g_fld (evv rfl)) rfl rfl ?_
    refine o_give (g_load (evv rfl) (by rfl) (by rfl)) rfl rfl ?_
    (refine o_call rfl _ (Ent.refl _) (rText_c _ _ (by omega)) rfl ?_; rintro _ _ ⟨_, rfl⟩)
    refine o_appM (evv rfl) (evv rfl) (by rfl) (by rfl) (by rfl) (by (try simp only [bsOf, List.length_append, List.length_cons, List.length_nil, List.length_take, List.length_drop, List.length_map, List.length_range]); omega) rfl (fun _ => ?_)
    refine o_give (g_assign (evv rfl)) rfl rfl ?_
    refine o_nil ?_
    refine c_code ?_
    refine r_seq ?_
    refine r_region (id := 6) ?_
    refine o_give (g_move (evv rfl)) rfl rfl ?_
    refine o_give (g_fld (evv rfl)) rfl rfl ?_
    refine o_give (g_load (evv rfl) (by rfl) (by rfl)) rfl rfl ?_
    (refine o_call rfl _ (Ent.refl _) (rText_c _ _ (by omega)) rfl ?_; rintro _ _ ⟨_, rfl⟩)
    refine o_appM (evv rfl) (evv rfl) (by rfl) (by rfl) (by rfl) (by (try simp only [bsOf, List.length_append, List.length_cons, List.length_nil, List.length_take, List.length_drop, List.length_map, List.length_range]); omega) rfl (fun _ => ?_)
    refine o_give (g_assign (evv rfl)) rfl rfl ?_
    refine o_nil ?_
    refine c_code ?_
    refine r_seq ?_
    refine r_region (id := 7) ?_
    refine o_give (g_move (evv rfl)) rfl rfl ?_
    refine o_give (g_fld (evv rfl)) rfl rfl ?_
    refine o_give (g_load (evv rfl) (by rfl) (by rfl)) rfl rfl ?_
    (refine o_call rfl _ (Ent.refl _) (rInt_c _ _ (by omega)) rfl ?_; rintro _ _ ⟨_, rfl⟩)
    refine o_appM (evv rfl) (evv rfl) (by rfl) (by rfl) (by rfl) (by (try simp only [bsOf, List.length_append, List.length_cons, List.length_nil, List.length_take, List.length_drop, List.length_map, List.length_range]); omega) rfl (fun _ => ?_)
    refine o_give (g_assign (evv rfl)) rfl rfl ?_
    refine o_nil ?_
    refine c_code ?_
    refine r_seq ?_
    refine r_region (id := 8) ?_
    refine o_give (g_move (evv rfl)) rfl rfl ?_
    refine o_give (g_fld (evv rfl)) rfl rfl ?_
    refine o_give (g_load (evv rfl) (by rfl) (by rfl)) rfl rfl ?_
    (refine o_call rfl _ (Ent.refl _) (rInt_c _ _ (by omega)) rfl ?_; rintro _ _ ⟨_, rfl⟩)
    refine o_appM (evv rfl) (evv rfl) (by rfl) (by rfl) (by rfl) (by (try simp only [bsOf, List.length_append, List.length_cons, List.length_nil, List.length_take, List.length_drop, List.length_map, List.length_range]); omega) rfl (fun _ => ?_)
    refine o_give (g_assign (evv rfl)) rfl rfl ?_
    refine o_give (g_assign (evv rfl)) rfl rfl ?_
    refine o_nil ?_
    refine c_code ?_
    rename_i v
    first | refine r_ret (rs := [.tmp 2, .tmp 3]) rfl rfl _ ((Lay.ent (L' := sl v (mrow by8 5 (intB o.kind ++ textB o.path ++ textB o.to_ ++ textB o.data ++ intB o.at_ ++ intB o.size)) :: L))) ?_ | refine c_end (rs := [.tmp 2, .tmp 3]) rfl rfl _ ((Lay.ent (L' := sl v (mrow by8 5 (intB o.kind ++ textB o.path ++ textB o.to_ ++ textB o.data ++ intB o.at_ ++ intB o.size)) :: L))) ?_
    exact ⟨_, rfl, rfl⟩
theorem dec_err {b : List UInt8} (h : ¬ ((opR ⟨b, 0⟩).2.err = 0 ∧ (opR ⟨b, 0⟩).2.bs.length = 0)) : decOp b = none := if_neg h
theorem dec_okd {b : List UInt8} (h : (opR ⟨b, 0⟩).2.err = 0 ∧ (opR ⟨b, 0⟩).2.bs.length = 0) : decOp b = some (opR ⟨b, 0⟩).1 := if_pos h
end VK
