/- A seat of the table, and what the table has in memory. Conditions: none. -/
import Derived.Test.YtcbhnagihkcafaaT
import Derived.Test.YtcbhnagihkcafaaV2
namespace VK
open Go Go.Proofs
set_option linter.unusedSimpArgs false
set_option linter.unusedVariables false
set_option maxRecDepth 100000
set_option maxHeartbeats 40000000
/-- api.Seat -/
structure Seat where
  client : Int
  number : Int
  at_ : Int
  kept : Bool
  reply : List UInt8
  deriving DecidableEq, Inhabited
def seatC (a : Seat) : List Value := [.int .i64 a.client, .int .i64 a.number, .int .i64 a.at_, .bool a.kept, str a.reply]
theorem seatC_len (a : Seat) : (seatC a).length = 5 := rfl
instance (L : List Atom) (a : Seat) : AllOne L (seatC a) := ⟨fun _ _ _ u hu => by
  simp only [seatC, List.mem_cons, List.mem_append, List.not_mem_nil, or_false] at hu
  rcases hu with rfl | rfl | rfl | rfl | rfl <;> rfl⟩
instance : LenC seatC 5 := ⟨fun _ => rfl⟩
instance : TyC Try.prog 34 seatC := ⟨trivial⟩
def Seat.ok (a : Seat) : Prop := inR .i64 a.client ∧ inR .i64 a.number ∧ inR .i64 a.at_ ∧ True ∧ a.reply.length ≤ maxLen
def Seat.wt (a : Seat) : Nat := 1 + 1 + 1 + 1 + (a.reply.length + 1) + 1
instance (a : Seat) (v : Int) : SetF seatC a 0 (.int .i64 v) { a with client := v } := ⟨rfl⟩
instance (a : Seat) (v : Int) : SetF seatC a 1 (.int .i64 v) { a with number := v } := ⟨rfl⟩
instance (a : Seat) (v : Int) : SetF seatC a 2 (.int .i64 v) { a with at_ := v } := ⟨rfl⟩
instance (a : Seat) (v : Bool) : SetF seatC a 3 (.bool v) { a with kept := v } := ⟨rfl⟩
instance (a : Seat) (v : Value) (l : List UInt8) [h : AsStr v l] : SetF seatC a 4 v { a with reply := l } := ⟨by rw [h.h]; rfl⟩
instance (x0 : Int) (x1 : Int) (x2 : Int) (x3 : Bool) (x4 : Value) (y4 : List UInt8) [h4 : AsStr x4 y4] : OfC seatC [.int .i64 x0, .int .i64 x1, .int .i64 x2, .bool x3, x4] ⟨x0, x1, x2, x3, y4⟩ := ⟨by rw [h4.h]; rfl⟩
theorem seatC_ext (a b : Seat) : (a.client = b.client ∧ a.number = b.number ∧ a.at_ = b.at_ ∧ a.kept = b.kept ∧ a.reply = b.reply ∧ True) ↔ a = b := by
  cases a; cases b; simp
instance : EqS Try.prog 34 seatC := ⟨fun d a b w => by
  have h := run_equalIn_struct (P := Try.prog) w (d + 7) 34 (seatC a).toArray (seatC b).toArray (by kernel_rfl) (by kernel_rfl)
  rw [show (agg (seatC a)) = .agg (seatC a).toArray from rfl, show (agg (seatC b)) = .agg (seatC b).toArray from rfl, h, show (Try.prog.fieldsOf 34).toList = [{ name := "Client", type := 3, offset := 0, embedded := false, tag := "", pkgPath := "", byteOffset := 0 }, { name := "Number", type := 2, offset := 1, embedded := false, tag := "", pkgPath := "", byteOffset := 8 }, { name := "At", type := 2, offset := 2, embedded := false, tag := "", pkgPath := "", byteOffset := 16 }, { name := "Kept", type := 4, offset := 3, embedded := false, tag := "", pkgPath := "", byteOffset := 24 }, { name := "Reply", type := 9, offset := 4, embedded := false, tag := "", pkgPath := "", byteOffset := 32 }] from by kernel_rfl]
  refine Eq.trans (b := .ok (decide (a.client = b.client ∧ a.number = b.number ∧ a.at_ = b.at_ ∧ a.kept = b.kept ∧ a.reply = b.reply ∧ True)) w) ?_ (by congr 1; exact decide_eq_decide.2 (seatC_ext a b))
  refine eqF_cons (by decide) (part_one rfl rfl) (part_one rfl rfl) (eq_int _ _ _ w) ?_
  refine eqF_cons (by decide) (part_one rfl rfl) (part_one rfl rfl) (eq_int _ _ _ w) ?_
  refine eqF_cons (by decide) (part_one rfl rfl) (part_one rfl rfl) (eq_int _ _ _ w) ?_
  refine eqF_cons (by decide) (part_one rfl rfl) (part_one rfl rfl) (eq_bool _ _ _ w) ?_
  refine eqF_cons (by decide) (part_one rfl rfl) (part_one rfl rfl) (eq_str _ _ _ w) ?_
  exact eqF_nil'⟩
/-- veneerlaw14.Act -/
structure Act where
  forget : Bool
  client : Int
  number : Int
  at_ : Int
  reply : List UInt8
  deriving DecidableEq, Inhabited
def actC (a : Act) : List Value := [.bool a.forget, .int .i64 a.client, .int .i64 a.number, .int .i64 a.at_, str a.reply]
theorem actC_len (a : Act) : (actC a).length = 5 := rfl
instance (L : List Atom) (a : Act) : AllOne L (actC a) := ⟨fun _ _ _ u hu => by
  simp only [actC, List.mem_cons, List.mem_append, List.not_mem_nil, or_false] at hu
  rcases hu with rfl | rfl | rfl | rfl | rfl <;> rfl⟩
instance : LenC actC 5 := ⟨fun _ => rfl⟩
instance : TyC Try.prog 30 actC := ⟨trivial⟩
def Act.ok (a : Act) : Prop := True ∧ inR .i64 a.client ∧ inR .i64 a.number ∧ inR .i64 a.at_ ∧ a.reply.length ≤ maxLen
def Act.wt (a : Act) : Nat := 1 + 1 + 1 + 1 + (a.reply.length + 1) + 1
instance (a : Act) (v : Bool) : SetF actC a 0 (.bool v) { a with forget := v } := ⟨rfl⟩
instance (a : Act) (v : Int) : SetF actC a 1 (.int .i64 v) { a with client := v } := ⟨rfl⟩
instance (a : Act) (v : Int) : SetF actC a 2 (.int .i64 v) { a with number := v } := ⟨rfl⟩
instance (a : Act) (v : Int) : SetF actC a 3 (.int .i64 v) { a with at_ := v } := ⟨rfl⟩
instance (a : Act) (v : Value) (l : List UInt8) [h : AsStr v l] : SetF actC a 4 v { a with reply := l } := ⟨by rw [h.h]; rfl⟩
instance (x0 : Bool) (x1 : Int) (x2 : Int) (x3 : Int) (x4 : Value) (y4 : List UInt8) [h4 : AsStr x4 y4] : OfC actC [.bool x0, .int .i64 x1, .int .i64 x2, .int .i64 x3, x4] ⟨x0, x1, x2, x3, y4⟩ := ⟨by rw [h4.h]; rfl⟩
theorem actC_ext (a b : Act) : (a.forget = b.forget ∧ a.client = b.client ∧ a.number = b.number ∧ a.at_ = b.at_ ∧ a.reply = b.reply ∧ True) ↔ a = b := by
  cases a; cases b; simp
instance : EqS Try.prog 30 actC := ⟨fun d a b w => by
  have h := run_equalIn_struct (P := Try.prog) w (d + 7) 30 (actC a).toArray (actC b).toArray (by kernel_rfl) (by kernel_rfl)
  rw [show (agg (actC a)) = .agg (actC a).toArray from rfl, show (agg (actC b)) = .agg (actC b).toArray from rfl, h, show (Try.prog.fieldsOf 30).toList = [{ name := "Forget", type := 4, offset := 0, embedded := false, tag := "", pkgPath := "", byteOffset := 0 }, { name := "Client", type := 3, offset := 1, embedded := false, tag := "", pkgPath := "", byteOffset := 8 }, { name := "Number", type := 2, offset := 2, embedded := false, tag := "", pkgPath := "", byteOffset := 16 }, { name := "At", type := 2, offset := 3, embedded := false, tag := "", pkgPath := "", byteOffset := 24 }, { name := "Reply", type := 9, offset := 4, embedded := false, tag := "", pkgPath := "", byteOffset := 32 }] from by kernel_rfl]
  refine Eq.trans (b := .ok (decide (a.forget = b.forget ∧ a.client = b.client ∧ a.number = b.number ∧ a.at_ = b.at_ ∧ a.reply = b.reply ∧ True)) w) ?_ (by congr 1; exact decide_eq_decide.2 (actC_ext a b))
  refine eqF_cons (by decide) (part_one rfl rfl) (part_one rfl rfl) (eq_bool _ _ _ w) ?_
  refine eqF_cons (by decide) (part_one rfl rfl) (part_one rfl rfl) (eq_int _ _ _ w) ?_
  refine eqF_cons (by decide) (part_one rfl rfl) (part_one rfl rfl) (eq_int _ _ _ w) ?_
  refine eqF_cons (by decide) (part_one rfl rfl) (part_one rfl rfl) (eq_int _ _ _ w) ?_
  refine eqF_cons (by decide) (part_one rfl rfl) (part_one rfl rfl) (eq_str _ _ _ w) ?_
  exact eqF_nil'⟩
section
variable {B : {H : Type} → DataW H → Nat} {BA : {H : Type} → List (DataW H) → Nat} (bc : BulkC B BA)
include bc
theorem decSeat (W : World) : Dec B Try.prog W 34 seatC 5 Seat.ok Seat.wt :=
  (Dec.struct bc Try.underlying34 (by kernel_rfl) (DecF.cons bc rfl (Dec.int bc Try.underlying3 (by kernel_rfl)) (DecF.cons bc rfl (Dec.int bc Try.underlying2 (by kernel_rfl)) (DecF.cons bc rfl (Dec.int bc Try.underlying2 (by kernel_rfl)) (DecF.cons bc rfl (Dec.bool bc Try.underlying4 (by kernel_rfl)) (DecF.cons bc rfl (Dec.str bc Try.underlying9 (by kernel_rfl)) (DecF.nil))))))).map
    (fun p => ⟨p.1, p.2.1, p.2.2.1, p.2.2.2.1, p.2.2.2.2.1⟩) (fun _ => rfl) (fun a ha u hu => by
      simp only [seatC, List.mem_cons, List.mem_append, List.mem_singleton, List.not_mem_nil, or_false] at hu
      rcases hu with rfl | rfl | rfl | rfl | rfl <;> rfl)
    (fun p hp => by first | rfl | (simp [seatC]; done)) (fun p hp => ⟨hp.1, hp.2.1, hp.2.2.1, hp.2.2.2.1, hp.2.2.2.2.1⟩) (fun p => by simp only [Seat.wt]; omega)
end
section
variable {B : {H : Type} → DataW H → Nat} {BA : {H : Type} → List (DataW H) → Nat} (bc : BulkC B BA)
include bc
theorem decAct (W : World) : Dec B Try.prog W 30 actC 5 Act.ok Act.wt :=
  (Dec.struct bc Try.underlying30 (by kernel_rfl) (DecF.cons bc rfl (Dec.bool bc Try.underlying4 (by kernel_rfl)) (DecF.cons bc rfl (Dec.int bc Try.underlying3 (by kernel_rfl)) (DecF.cons bc rfl (Dec.int bc Try.underlying2 (by kernel_rfl)) (DecF.cons bc rfl (Dec.int bc Try.underlying2 (by kernel_rfl)) (DecF.cons bc rfl (Dec.str bc Try.underlying9 (by kernel_rfl)) (DecF.nil))))))).map
    (fun p => ⟨p.1, p.2.1, p.2.2.1, p.2.2.2.1, p.2.2.2.2.1⟩) (fun _ => rfl) (fun a ha u hu => by
      simp only [actC, List.mem_cons, List.mem_append, List.mem_singleton, List.not_mem_nil, or_false] at hu
      rcases hu with rfl | rfl | rfl | rfl | rfl <;> rfl)
    (fun p hp => by first | rfl | (simp [actC]; done)) (fun p hp => ⟨hp.1, hp.2.1, hp.2.2.1, hp.2.2.2.1, hp.2.2.2.2.1⟩) (fun p => by simp only [Act.wt]; omega)
end
end VK
