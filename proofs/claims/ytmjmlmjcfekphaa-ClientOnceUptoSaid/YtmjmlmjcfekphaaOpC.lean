/- An operation in memory; whether it may be: the code's and the reference's answers. Conditions: texts of a machine's size. -/
import Derived.Test.YtmjmlmjcfekphaaRParse
import Derived.Test.YtmjmlmjcfekphaaV2
namespace VK
open Go Go.Proofs
set_option linter.unusedSimpArgs false
set_option linter.unusedVariables false
set_option maxRecDepth 100000
set_option maxHeartbeats 40000000
/-- api.Op -/
structure OpS where
  kind : Int
  path : List UInt8
  to_ : List UInt8
  data : List UInt8
  at_ : Int
  size : Int
  deriving DecidableEq, Inhabited
def opSC (a : OpS) : List Value := [.int .i64 a.kind, str a.path, str a.to_, str a.data, .int .i64 a.at_, .int .i64 a.size]
theorem opSC_len (a : OpS) : (opSC a).length = 6 := rfl
instance (L : List Atom) (a : OpS) : AllOne L (opSC a) := ⟨fun _ _ _ u hu => by
  simp only [opSC, List.mem_cons, List.mem_append, List.not_mem_nil, or_false] at hu
  rcases hu with rfl | rfl | rfl | rfl | rfl | rfl <;> rfl⟩
instance : LenC opSC 6 := ⟨fun _ => rfl⟩
instance : TyC Try.prog 29 opSC := ⟨trivial⟩
def OpS.ok (a : OpS) : Prop := inR .i64 a.kind ∧ a.path.length ≤ maxLen ∧ a.to_.length ≤ maxLen ∧ a.data.length ≤ maxLen ∧ inR .i64 a.at_ ∧ inR .i64 a.size
def OpS.wt (a : OpS) : Nat := 1 + (a.path.length + 1) + (a.to_.length + 1) + (a.data.length + 1) + 1 + 1 + 1
instance (a : OpS) (v : Int) : SetF opSC a 0 (.int .i64 v) { a with kind := v } := ⟨rfl⟩
instance (a : OpS) (v : Value) (l : List UInt8) [h : AsStr v l] : SetF opSC a 1 v { a with path := l } := ⟨by rw [h.h]; rfl⟩
instance (a : OpS) (v : Value) (l : List UInt8) [h : AsStr v l] : SetF opSC a 2 v { a with to_ := l } := ⟨by rw [h.h]; rfl⟩
instance (a : OpS) (v : Value) (l : List UInt8) [h : AsStr v l] : SetF opSC a 3 v { a with data := l } := ⟨by rw [h.h]; rfl⟩
instance (a : OpS) (v : Int) : SetF opSC a 4 (.int .i64 v) { a with at_ := v } := ⟨rfl⟩
instance (a : OpS) (v : Int) : SetF opSC a 5 (.int .i64 v) { a with size := v } := ⟨rfl⟩
instance (x0 : Int) (x1 : Value) (y1 : List UInt8) [h1 : AsStr x1 y1] (x2 : Value) (y2 : List UInt8) [h2 : AsStr x2 y2] (x3 : Value) (y3 : List UInt8) [h3 : AsStr x3 y3] (x4 : Int) (x5 : Int) : OfC opSC [.int .i64 x0, x1, x2, x3, .int .i64 x4, .int .i64 x5] ⟨x0, y1, y2, y3, x4, x5⟩ := ⟨by rw [h1.h, h2.h, h3.h]; rfl⟩
theorem opSC_ext (a b : OpS) : (a.kind = b.kind ∧ a.path = b.path ∧ a.to_ = b.to_ ∧ a.data = b.data ∧ a.at_ = b.at_ ∧ a.size = b.size ∧ True) ↔ a = b := by
  cases a; cases b; simp
instance : EqS Try.prog 29 opSC := ⟨fun d a b w => by
  have h := run_equalIn_struct (P := Try.prog) w (d + 7) 29 (opSC a).toArray (opSC b).toArray (by kernel_rfl) (by kernel_rfl)
  rw [show (agg (opSC a)) = .agg (opSC a).toArray from rfl, show (agg (opSC b)) = .agg (opSC b).toArray from rfl, h, show (Try.prog.fieldsOf 29).toList = [{ name := "Kind", type := 3, offset := 0, embedded := false, tag := "", pkgPath := "", byteOffset := 0 }, { name := "Path", type := 9, offset := 1, embedded := false, tag := "", pkgPath := "", byteOffset := 8 }, { name := "To", type := 9, offset := 2, embedded := false, tag := "", pkgPath := "", byteOffset := 24 }, { name := "Data", type := 9, offset := 3, embedded := false, tag := "", pkgPath := "", byteOffset := 40 }, { name := "At", type := 3, offset := 4, embedded := false, tag := "", pkgPath := "", byteOffset := 56 }, { name := "Size", type := 3, offset := 5, embedded := false, tag := "", pkgPath := "", byteOffset := 64 }] from by kernel_rfl]
  refine Eq.trans (b := .ok (decide (a.kind = b.kind ∧ a.path = b.path ∧ a.to_ = b.to_ ∧ a.data = b.data ∧ a.at_ = b.at_ ∧ a.size = b.size ∧ True)) w) ?_ (by congr 1; exact decide_eq_decide.2 (opSC_ext a b))
  refine eqF_cons (by decide) (part_one rfl rfl) (part_one rfl rfl) (eq_int _ _ _ w) ?_
  refine eqF_cons (by decide) (part_one rfl rfl) (part_one rfl rfl) (eq_str _ _ _ w) ?_
  refine eqF_cons (by decide) (part_one rfl rfl) (part_one rfl rfl) (eq_str _ _ _ w) ?_
  refine eqF_cons (by decide) (part_one rfl rfl) (part_one rfl rfl) (eq_str _ _ _ w) ?_
  refine eqF_cons (by decide) (part_one rfl rfl) (part_one rfl rfl) (eq_int _ _ _ w) ?_
  refine eqF_cons (by decide) (part_one rfl rfl) (part_one rfl rfl) (eq_int _ _ _ w) ?_
  exact eqF_nil'⟩
section
variable {B : {H : Type} → DataW H → Nat} {BA : {H : Type} → List (DataW H) → Nat} (bc : BulkC B BA)
include bc
theorem decOpS (W : World) : Dec B Try.prog W 29 opSC 6 OpS.ok OpS.wt :=
  (Dec.struct bc Try.underlying29 (by kernel_rfl) (DecF.cons bc rfl (Dec.int bc Try.underlying3 (by kernel_rfl)) (DecF.cons bc rfl (Dec.str bc Try.underlying9 (by kernel_rfl)) (DecF.cons bc rfl (Dec.str bc Try.underlying9 (by kernel_rfl)) (DecF.cons bc rfl (Dec.str bc Try.underlying9 (by kernel_rfl)) (DecF.cons bc rfl (Dec.int bc Try.underlying3 (by kernel_rfl)) (DecF.cons bc rfl (Dec.int bc Try.underlying3 (by kernel_rfl)) (DecF.nil)))))))).map
    (fun p => ⟨p.1, p.2.1, p.2.2.1, p.2.2.2.1, p.2.2.2.2.1, p.2.2.2.2.2.1⟩) (fun _ => rfl) (fun a ha u hu => by
      simp only [opSC, List.mem_cons, List.mem_append, List.mem_singleton, List.not_mem_nil, or_false] at hu
      rcases hu with rfl | rfl | rfl | rfl | rfl | rfl <;> rfl)
    (fun p hp => by first | rfl | (simp [opSC]; done)) (fun p hp => ⟨hp.1, hp.2.1, hp.2.2.1, hp.2.2.2.1, hp.2.2.2.2.1, hp.2.2.2.2.2.1⟩) (fun p => by simp only [OpS.wt]; omega)
end
/-- just the fields that a kind names -/
def bareR (o : OpS) : OpS :=
  if o.kind = 3 then { kind := o.kind, path := o.path, to_ := [], data := o.data, at_ := o.at_, size := 0 }
  else if o.kind = 4 then { kind := o.kind, path := o.path, to_ := [], data := [], at_ := 0, size := o.size }
  else if o.kind = 7 then { kind := o.kind, path := o.path, to_ := o.to_, data := [], at_ := 0, size := 0 }
  else if o.kind = 8 then { kind := o.kind, path := o.path, to_ := [], data := [], at_ := o.at_, size := o.size }
  else if o.kind = 11 then { kind := o.kind, path := [], to_ := [], data := [], at_ := o.at_, size := 0 }
  else { kind := o.kind, path := o.path, to_ := [], data := [], at_ := 0, size := 0 }
def zeroOp : OpS := { kind := 0, path := [], to_ := [], data := [], at_ := 0, size := 0 }
/-- may an operation be? -/
def chkOp (o : OpS) : Int :=
  if ¬ (1 ≤ o.kind ∧ o.kind ≤ 11) then 100
  else if bareR o ≠ o ∨ o.at_ < 0 ∨ o.size < 0 ∨ (o.kind = 11 ∧ (o.at_ < 1 ∨ 8 < o.at_)) then 1
  else if 1024 < o.data.length ∨ 1024 < o.at_ ∨ 1024 < o.size then 134
  else if o.kind = 11 then 0
  else if (parseR o.path).2 ≠ 0 then (parseR o.path).2
  else if o.kind ≠ 7 then 0 else (parseR o.to_).2
/-- what the reference asks first -/
def refBad (o : OpS) : Prop := (o.kind = 11 ∧ o.path ≠ [] ∨ o.kind ≠ 7 ∧ o.to_ ≠ []) ∨ o.kind ≠ 3 ∧ o.data ≠ []
def refBad2 (o : OpS) : Prop := (((o.kind ≠ 3 ∧ o.kind ≠ 8) ∧ o.kind ≠ 11) ∧ o.at_ ≠ 0) ∨ (o.kind ≠ 4 ∧ o.kind ≠ 8) ∧ o.size ≠ 0
theorem ref_bare (o : OpS) : bareR o ≠ o ↔ refBad o ∨ refBad2 o := by
  obtain ⟨kind, path, to_, data, at_, size⟩ := o
  unfold bareR refBad refBad2
  dsimp only
  have e1 : ∀ l : List UInt8, ([] = l) ↔ l = [] := fun l => eq_comm
  have e2 : ∀ z : Int, (0 = z) ↔ z = 0 := fun z => eq_comm
  by_cases h3 : kind = 3
  · subst h3; simp [e1, e2]; by_cases a : to_ = [] <;> by_cases b : size = 0 <;> simp_all
  by_cases h4 : kind = 4
  · subst h4; simp [e1, e2]; by_cases a : to_ = [] <;> by_cases b : data = [] <;> by_cases c : at_ = 0 <;> simp_all
  by_cases h7 : kind = 7
  · subst h7; simp [e1, e2]; by_cases a : data = [] <;> by_cases b : at_ = 0 <;> by_cases c : size = 0 <;> simp_all
  by_cases h8 : kind = 8
  · subst h8; simp [e1, e2]; by_cases a : data = [] <;> by_cases b : to_ = [] <;> simp_all
  by_cases h11 : kind = 11
  · subst h11; simp [e1, e2]; by_cases a : path = [] <;> by_cases b : to_ = [] <;> by_cases c : data = [] <;> by_cases d : size = 0 <;> simp_all
  · simp [h3, h4, h7, h8, h11, e1, e2]; by_cases b : to_ = [] <;> by_cases c : data = [] <;> by_cases d : size = 0 <;> by_cases e : at_ = 0 <;> simp_all
end VK
