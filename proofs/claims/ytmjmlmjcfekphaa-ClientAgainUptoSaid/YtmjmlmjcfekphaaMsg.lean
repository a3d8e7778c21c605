/- Entries and messages in memory; whether they are the same. Conditions: none. -/
import Derived.Test.YtmjmlmjcfekphaaOpS
import Derived.Test.YtmjmlmjcfekphaaVDig
import Derived.Test.YtmjmlmjcfekphaaMake
namespace VK
open Go Go.Proofs
set_option linter.unusedSimpArgs false
set_option linter.unusedVariables false
set_option maxRecDepth 100000
set_option maxHeartbeats 40000000
abbrev Dig := {l : List UInt8 // l.length = 32}
instance : Inhabited Dig := ⟨⟨List.replicate 32 0, by simp⟩⟩
structure EntS where
  client : Int
  number : Int
  op : OpS
  deriving DecidableEq, Inhabited
def entC (a : EntS) : List Value := .int .i64 a.client :: .int .i64 a.number :: opSC a.op
instance : LenC entC 8 := ⟨fun _ => rfl⟩
instance : TyC Try.prog 58 entC := ⟨trivial⟩
instance (L : List Atom) (a : EntS) : AllOne L (entC a) := by unfold entC; infer_instance
instance (x y : Int) (o : OpS) : OfC entC (.int .i64 x :: .int .i64 y :: opSC o) ⟨x, y, o⟩ := ⟨rfl⟩
instance (x y x0 : Int) (x1 : Value) (y1 : List UInt8) [h1 : AsStr x1 y1] (x2 : Value) (y2 : List UInt8) [h2 : AsStr x2 y2] (x3 : Value) (y3 : List UInt8) [h3 : AsStr x3 y3] (x4 : Int) (x5 : Int) : OfC entC [.int .i64 x, .int .i64 y, .int .i64 x0, x1, x2, x3, .int .i64 x4, .int .i64 x5] ⟨x, y, x0, y1, y2, y3, x4, x5⟩ := ⟨by rw [h1.h, h2.h, h3.h]; rfl⟩
theorem entC_ext (a b : EntS) : (a.client = b.client ∧ a.number = b.number ∧ a.op = b.op ∧ True) ↔ a = b := by
  cases a; cases b; simp
theorem eq_op (d : Nat) (a b : OpS) (w : World) : (Op.equalIn (d + 7) 29 (agg (opSC a)) (agg (opSC b))).run Try.prog w = .ok (decide (a = b)) w := by
  have h := run_equalIn_struct (P := Try.prog) w (d + 6) 29 (opSC a).toArray (opSC b).toArray (by kernel_rfl) (by kernel_rfl)
  rw [show (agg (opSC a)) = .agg (opSC a).toArray from rfl, show (agg (opSC b)) = .agg (opSC b).toArray from rfl, h, show (Try.prog.fieldsOf 29).toList = [{ name := "Kind", type := 3, offset := 0, embedded := false, tag := "", pkgPath := "", byteOffset := 0 }, { name := "Path", type := 9, offset := 1, embedded := false, tag := "", pkgPath := "", byteOffset := 8 }, { name := "To", type := 9, offset := 2, embedded := false, tag := "", pkgPath := "", byteOffset := 24 }, { name := "Data", type := 9, offset := 3, embedded := false, tag := "", pkgPath := "", byteOffset := 40 }, { name := "At", type := 3, offset := 4, embedded := false, tag := "", pkgPath := "", byteOffset := 56 }, { name := "Size", type := 3, offset := 5, embedded := false, tag := "", pkgPath := "", byteOffset := 64 }] from by kernel_rfl]
  refine Eq.trans (b := .ok (decide (a.kind = b.kind ∧ a.path = b.path ∧ a.to_ = b.to_ ∧ a.data = b.data ∧ a.at_ = b.at_ ∧ a.size = b.size ∧ True)) w) ?_ (by congr 1; exact decide_eq_decide.2 (opSC_ext a b))
  refine eqF_cons (by decide) (part_one rfl rfl) (part_one rfl rfl) (eq_int _ _ _ w) ?_
  refine eqF_cons (by decide) (part_one rfl rfl) (part_one rfl rfl) (eq_str _ _ _ w) ?_
  refine eqF_cons (by decide) (part_one rfl rfl) (part_one rfl rfl) (eq_str _ _ _ w) ?_
  refine eqF_cons (by decide) (part_one rfl rfl) (part_one rfl rfl) (eq_str _ _ _ w) ?_
  refine eqF_cons (by decide) (part_one rfl rfl) (part_one rfl rfl) (eq_int _ _ _ w) ?_
  refine eqF_cons (by decide) (part_one rfl rfl) (part_one rfl rfl) (eq_int _ _ _ w) ?_
  exact eqF_nil'
instance : EqS Try.prog 58 entC := ⟨fun d a b w => by
  have h := run_equalIn_struct (P := Try.prog) w (d + 7) 58 (entC a).toArray (entC b).toArray (by kernel_rfl) (by kernel_rfl)
  rw [show (agg (entC a)) = .agg (entC a).toArray from rfl, show (agg (entC b)) = .agg (entC b).toArray from rfl, h, show (Try.prog.fieldsOf 58).toList = [{ name := "Client", type := 3, offset := 0, embedded := false, tag := "", pkgPath := "", byteOffset := 0 }, { name := "Number", type := 2, offset := 1, embedded := false, tag := "", pkgPath := "", byteOffset := 8 }, { name := "Op", type := 29, offset := 2, embedded := false, tag := "", pkgPath := "", byteOffset := 16 }] from by kernel_rfl]
  refine Eq.trans (b := .ok (decide (a.client = b.client ∧ a.number = b.number ∧ a.op = b.op ∧ True)) w) ?_ (by congr 1; exact decide_eq_decide.2 (entC_ext a b))
  refine eqF_cons (by decide) (part_one rfl rfl) (part_one rfl rfl) (eq_int _ _ _ w) ?_
  refine eqF_cons (by decide) (part_one rfl rfl) (part_one rfl rfl) (eq_int _ _ _ w) ?_
  refine eqF_cons (by decide) (part_agg (us := opSC a.op) rfl rfl) (part_agg (us := opSC b.op) rfl rfl) (eq_op _ a.op b.op w) ?_
  exact eqF_nil'⟩
abbrev entR (es : List EntS) : Row := frow entC 8 58 es
/-- a message, its lists being slices -/
structure MsgF where
  kind : Int
  from_ : Int
  to_ : Int
  view : Int
  normal : Int
  last : Int
  commit : Int
  behind : Int
  root : Dig
  ents : Value
  data : List UInt8
  code : Int
  dir : Bool
  size : Int
  rdata : List UInt8
  names : Value
instance : Inhabited MsgF := ⟨⟨0, 0, 0, 0, 0, 0, 0, 0, default, .slice none 0 0, [], 0, false, 0, [], .slice none 0 0⟩⟩
def msgC (m : MsgF) : List Value := .int .i64 m.kind :: .int .i64 m.from_ :: .int .i64 m.to_ :: .int .i64 m.view :: .int .i64 m.normal :: .int .i64 m.last :: .int .i64 m.commit :: .int .i64 m.behind :: (bys m.root.1 ++ m.ents :: str m.data :: .int .i64 m.code :: .bool m.dir :: .int .i64 m.size :: str m.rdata :: m.names :: [])
theorem msgC_len (m : MsgF) : (msgC m).length = 47 := by simp [msgC, bys, m.root.2]
instance : LenC msgC 47 := ⟨msgC_len⟩
instance : TyC Try.prog 37 msgC := ⟨trivial⟩
instance (k f t v n l c b : Int) (d : List UInt8) [hd : LenIs d 32] (e x : Value) (s : List UInt8) [hx : AsStr x s] (co : Int) (di : Bool) (si : Int) (y : Value) (s' : List UInt8) [hy : AsStr y s'] (nv : Value) :
    OfC msgC (.int .i64 k :: .int .i64 f :: .int .i64 t :: .int .i64 v :: .int .i64 n :: .int .i64 l :: .int .i64 c :: .int .i64 b :: (bys d ++ e :: x :: .int .i64 co :: .bool di :: .int .i64 si :: y :: nv :: [])) ⟨k, f, t, v, n, l, c, b, ⟨d, hd.h.1⟩, e, s, co, di, si, s', nv⟩ := ⟨by rw [hx.h, hy.h]; rfl⟩
abbrev msgR (l : List MsgF) : Row := frow msgC 47 37 l
instance (d : Dig) : LenIs d.1 32 := ⟨d.2, by decide⟩
/-- the rest of some cells -/
instance (priority := low) PartC.rest (l : List Value) (n : Nat) [k : LenL l n] : PartC l 0 n l := ⟨by rw [List.drop_zero, List.take_of_length_le (by rw [k.h]; exact Nat.le_refl _)], k.h⟩
section
variable (m : MsgF)
instance : GetC (msgC m) 0 (.int .i64 m.kind) := by unfold msgC; infer_instance
instance : GetC (msgC m) 1 (.int .i64 m.from_) := by unfold msgC; infer_instance
instance : GetC (msgC m) 2 (.int .i64 m.to_) := by unfold msgC; infer_instance
instance : GetC (msgC m) 3 (.int .i64 m.view) := by unfold msgC; infer_instance
instance : GetC (msgC m) 4 (.int .i64 m.normal) := by unfold msgC; infer_instance
instance : GetC (msgC m) 5 (.int .i64 m.last) := by unfold msgC; infer_instance
instance : GetC (msgC m) 6 (.int .i64 m.commit) := by unfold msgC; infer_instance
instance : GetC (msgC m) 7 (.int .i64 m.behind) := by unfold msgC; infer_instance
instance : GetC (msgC m) 40 m.ents := by unfold msgC; infer_instance
instance : GetC (msgC m) 41 (str m.data) := by unfold msgC; infer_instance
instance : GetC (msgC m) 42 (.int .i64 m.code) := by unfold msgC; infer_instance
instance : GetC (msgC m) 43 (.bool m.dir) := by unfold msgC; infer_instance
instance : GetC (msgC m) 44 (.int .i64 m.size) := by unfold msgC; infer_instance
instance : GetC (msgC m) 45 (str m.rdata) := by unfold msgC; infer_instance
instance : GetC (msgC m) 46 m.names := by unfold msgC; infer_instance
instance (x : Int) : PutC (msgC m) 0 [.int .i64 x] (msgC { m with kind := x }) := by unfold msgC; infer_instance
instance (x : Int) : PutC (msgC m) 1 [.int .i64 x] (msgC { m with from_ := x }) := by unfold msgC; infer_instance
instance (x : Int) : PutC (msgC m) 2 [.int .i64 x] (msgC { m with to_ := x }) := by unfold msgC; infer_instance
instance (x : Int) : PutC (msgC m) 3 [.int .i64 x] (msgC { m with view := x }) := by unfold msgC; infer_instance
instance (x : Int) : PutC (msgC m) 4 [.int .i64 x] (msgC { m with normal := x }) := by unfold msgC; infer_instance
instance (x : Int) : PutC (msgC m) 5 [.int .i64 x] (msgC { m with last := x }) := by unfold msgC; infer_instance
instance (x : Int) : PutC (msgC m) 6 [.int .i64 x] (msgC { m with commit := x }) := by unfold msgC; infer_instance
instance (x : Int) : PutC (msgC m) 7 [.int .i64 x] (msgC { m with behind := x }) := by unfold msgC; infer_instance
instance (x : Value) : PutC (msgC m) 40 [x] (msgC { m with ents := x }) := by unfold msgC; infer_instance
instance (x : List UInt8) : PutC (msgC m) 41 [str x] (msgC { m with data := x }) := by unfold msgC; infer_instance
instance (x : Int) : PutC (msgC m) 42 [.int .i64 x] (msgC { m with code := x }) := by unfold msgC; infer_instance
instance (x : Bool) : PutC (msgC m) 43 [.bool x] (msgC { m with dir := x }) := by unfold msgC; infer_instance
instance (x : Int) : PutC (msgC m) 44 [.int .i64 x] (msgC { m with size := x }) := by unfold msgC; infer_instance
instance (x : List UInt8) : PutC (msgC m) 45 [str x] (msgC { m with rdata := x }) := by unfold msgC; infer_instance
instance (x : Value) : PutC (msgC m) 46 [x] (msgC { m with names := x }) := by unfold msgC; infer_instance
instance : PartC (msgC m) 8 32 (bys m.root.1) := by unfold msgC; infer_instance
instance : PartC (msgC m) 42 5 [.int .i64 m.code, .bool m.dir, .int .i64 m.size, str m.rdata, m.names] := by unfold msgC; infer_instance
instance (L : List Atom) [h : OneC L m.ents] [h' : OneC L m.names] : AllOne L (msgC m) := by unfold msgC; infer_instance
end
theorem g_loadFldG {c : Cx} {E : Env} {L : List Atom} {do_ : Option Nat} {ty : TypeId} {pos : String} {aft : Array Edge} {gd : Option (Nat × Bool)} {α : Type} [Inhabited α] {f : α → List Value} {sz : Nat} {t e' : TypeId} {ud : TypeDesc} {x : Operand} {v u : Value} {j fo : Nat} {l : List α} [tu : TyU c.P t ud] (hx : Evs c E x (elemP v (j * sz + fo))) [rd : Rd L v (frow f sz e' l)]
    (hu : isAggD ud = false) [hf : LenC f sz] (hj : j < l.length) [pc : GetC (f (l.getD j default)) fo u] : Gives c E L ⟨do_, .load t x, ty, pos, aft, gd⟩ u := g_loadFld hx hu hf.h hj pc.h
structure MsgEq (L : List Atom) (a b : MsgF) : Prop where
  flat : a = { b with ents := a.ents, names := a.names }
  ents : ∃ es, Rd L a.ents (entR es) ∧ Rd L b.ents (entR es)
  names : ∃ ns, Rd L a.names (mrow str 9 ns) ∧ Rd L b.names (mrow str 9 ns)
theorem SameEntries_c (L : List Atom) (va vb : Value) (es : List EntS) [ra : Rd L va (entR es)] [rb : Rd L vb (entR es)] : Fn Try.prog 35 [va, vb] L fun w L' => w = .bool true ∧ L' = L := by
  refine fn_lenF ra fun hlen => ?_
  have hlen : es.length ≤ 2 ^ 63 - 1 := hlen
  refine fn_intro Try.func35 rfl Try.ntmps35 rfl (fun W0 => ?_)
  simp only [argE]
  refine r_seq ?_
  refine r_region (id := 0) ?_
  refine o_give (g_assign (evv rfl)) rfl rfl ?_
  refine o_nil ?_
  refine c_code ?_
  refine r_seq ?_
  refine r_seq ?_
  refine r_region (id := 1) ?_
  refine o_give (g_move (evv rfl)) rfl rfl ?_
  refine o_give (g_lenF (evv rfl)) rfl rfl ?_
  refine o_give (g_move (evv rfl)) rfl rfl ?_
  refine o_give (g_lenF (evv rfl)) rfl rfl ?_
  refine o_give (g_bin (evv rfl) (evv rfl) (by rfl)) rfl rfl ?_
  refine o_nil ?_
  refine c_code ?_
  refine r_cond rfl (fun hn => ?_) (fun hn => ?_) <;> (try simp only [decide_eq_true_eq, decide_eq_false_iff_not, Bool.and_eq_true, Bool.or_eq_true, Bool.not_eq_true', Bool.and_eq_false_iff, Bool.or_eq_false_iff, Bool.not_eq_false', Bool.not_eq_true, Bool.not_eq_false, Bool.true_eq_false, Bool.false_eq_true, Int.not_lt, Int.not_le, not_and, not_or, ne_eq] at hn)
  · exact absurd trivial hn
  · refine r_skip ?_
    refine c_code ?_
    refine r_seq ?_
    refine r_seq ?_
    refine r_region (id := 3) ?_
    refine o_give (g_assign (evv rfl)) rfl rfl ?_
    refine o_nil ?_
    refine c_code ?_
    refine r_block ?_
    refine r_loopE (σ := Nat) (fun i => i ≤ es.length) (fun i => es.length - i) (fun i => [(5, .v (.int .i64 i))]) [0, 1] (fun i => L) 0 (by dsimp only [pickE, pick1, lk2, Nat.reduceBEq, Nat.reduceAdd, Nat.zero_add, cond_true, cond_false] <;> exact rfl) ?_ (by repeat (first | exact trivial | refine ⟨rfl, ?_⟩ | refine envsub_v rfl (by first | rfl | (refine int_eq ?_; first | omega | (simp; omega) | (simp; done)) | (refine bool_eq ?_; first | (simp [*]; done) | (simp; done)) | (refine str_eq ?_; simp; done) | (refine ptr_eq ?_; omega) | fail) ?_)) ?_ ?_
    · exact Nat.zero_le _
    · exact Ent.refl _
    rintro i hi; (try dsimp only at hi); dsimp only [List.cons_append, List.nil_append]
    refine r_seq ?_
    refine r_seq ?_
    refine r_region (id := 4) ?_
    refine o_give (g_move (evv rfl)) rfl rfl ?_
    refine o_give (g_move (evv rfl)) rfl rfl ?_
    refine o_give (g_lenF (evv rfl)) rfl rfl ?_
    refine o_give (g_bin (evv rfl) (evv rfl) (by rfl)) rfl rfl ?_
    refine o_nil ?_
    refine c_code ?_
    refine r_cond rfl (fun hc => ?_) (fun hc => ?_) <;> (try simp only [decide_eq_true_eq, decide_eq_false_iff_not, Bool.and_eq_true, Bool.or_eq_true, Bool.not_eq_true', Bool.and_eq_false_iff, Bool.or_eq_false_iff, Bool.not_eq_false', Bool.not_eq_true, Bool.not_eq_false, Bool.true_eq_false, Bool.false_eq_true, Int.not_lt, Int.not_le, not_and, not_or, ne_eq] at hc)
    · have h1 : i < es.length := by omega
      refine r_skip ?_
      refine c_code ?_
      refine r_seq ?_
      refine r_block ?_
      refine r_seq ?_
      refine r_quiet (id := 6) Mixed.h (by kernel_rfl) ?_
      refine q_give (g_move (evv rfl)) rfl rfl ?_
      refine q_give (g_move (evv rfl)) rfl rfl ?_
      refine q_give (g_idxFN (evv rfl) (evv rfl) (by rfl) (by rfl) (by first | omega | (have := of_decide_eq_true hg; omega) | (simp at hg; omega) | (simp only [List.length_set, List.length_append, List.length_cons, List.length_nil, List.length_map, List.length_take, List.length_drop, List.length_replicate]; omega))) rfl rfl ?_
      refine q_give (g_loadFr (evv rfl) (by rfl) (by first | (intro; rfl) | exact LenC.h) (by rfl) (by rfl) (by first | omega | (have := of_decide_eq_true hg; omega) | (simp at hg; omega) | (simp only [List.length_set, List.length_append, List.length_cons, List.length_nil, List.length_map, List.length_take, List.length_drop, List.length_replicate]; omega))) rfl rfl ?_
      refine q_give (g_move (evv rfl)) rfl rfl ?_
      refine q_give (g_move (evv rfl)) rfl rfl ?_
      refine q_give (g_idxFN (evv rfl) (evv rfl) (by rfl) (by rfl) (by first | omega | (have := of_decide_eq_true hg; omega) | (simp at hg; omega) | (simp only [List.length_set, List.length_append, List.length_cons, List.length_nil, List.length_map, List.length_take, List.length_drop, List.length_replicate]; omega))) rfl rfl ?_
      refine q_give (g_loadFr (evv rfl) (by rfl) (by first | (intro; rfl) | exact LenC.h) (by rfl) (by rfl) (by first | omega | (have := of_decide_eq_true hg; omega) | (simp at hg; omega) | (simp only [List.length_set, List.length_append, List.length_cons, List.length_nil, List.length_map, List.length_take, List.length_drop, List.length_replicate]; omega))) rfl rfl ?_
      refine q_give (g_eqS (by kernel_rfl) (evv rfl) (evv rfl) (by rfl)) rfl rfl ?_
      refine q_nil ?_
      refine c_code ?_
      refine r_cond rfl (fun hne => ?_) (fun hne => ?_) <;> (try simp only [decide_eq_true_eq, decide_eq_false_iff_not, Bool.and_eq_true, Bool.or_eq_true, Bool.not_eq_true', Bool.and_eq_false_iff, Bool.or_eq_false_iff, Bool.not_eq_false', Bool.not_eq_true, Bool.not_eq_false, Bool.true_eq_false, Bool.false_eq_true, Int.not_lt, Int.not_le, not_and, not_or, ne_eq] at hne)
      · exact absurd trivial hne
      · refine r_skip ?_
        refine c_blk ?_
        refine c_code ?_
        refine r_region (id := 5) ?_
        refine o_give (g_move (evv rfl)) rfl rfl ?_
        refine o_giveN (g_bin (evv rfl) (evv rfl) (by rfl)) (by simp only [inR]; omega) rfl ?_
        refine o_give (g_assign (evv rfl)) rfl rfl ?_
        refine o_nil ?_
        refine c_loop (i + 1) ?_ ?_ (by repeat (first | exact trivial | refine ⟨rfl, ?_⟩ | refine envsub_v rfl (by first | rfl | (refine int_eq ?_; first | omega | (simp; omega) | (simp; done)) | (refine bool_eq ?_; first | (simp [*]; done) | (simp; done)) | (refine str_eq ?_; simp; done) | (refine ptr_eq ?_; omega) | fail) ?_)) ?_ <;> (try dsimp only)
        · omega
        · omega
        · exact Ent.refl _
    · refine r_exit rfl ?_
      refine c_code ?_
      refine r_seq ?_
      refine r_region (id := 8) ?_
      refine o_give (g_assign (evv rfl)) rfl rfl ?_
      refine o_nil ?_
      refine c_code ?_
      first | refine r_ret (rs := [.tmp 4]) rfl rfl _ (Ent.refl _) ?_ | refine c_end (rs := [.tmp 4]) rfl rfl _ (Ent.refl _) ?_
      exact ⟨rfl, rfl⟩
end VK
