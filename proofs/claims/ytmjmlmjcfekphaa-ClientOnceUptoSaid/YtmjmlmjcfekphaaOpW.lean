/- Words of kinds; four laws on operations, walked. Conditions: texts of a machine's size. -/
import Derived.Test.YtmjmlmjcfekphaaOpE
namespace VK
open Go Go.Proofs
set_option linter.unusedSimpArgs false
set_option linter.unusedVariables false
set_option maxRecDepth 100000
set_option maxHeartbeats 40000000
def strsOf : List Value → List (List UInt8)
  | [] => []
  | .string b :: r => b.data.toList :: strsOf r
  | _ :: r => strsOf r
theorem catF_str : ∀ l : List (List UInt8), catF 1 (l.map str) = some (l.map str)
  | [] => rfl
  | a :: l => by simp [catF, cellsL, Value.cells, rngF, catF_str l, str]
theorem o_litTs {c : Cx} {k : List KI} {E : Env} {L : List Atom} {all rest : List Oper} {d : Nat} {ty : TypeId} {pos : String} {aft : Array Edge} {t e : TypeId} {i : TI} {n : Nat} {parts : Array (Nat × Operand)} {vs : List Value} [tu : TyU c.P t (.slice e)] [ti : TyI c.P e i]
    (hi : parts.toList.map (·.1) = List.range n) (hx : evs E (parts.toList.map (·.2)) = some vs) (hv : vs = (strsOf vs).map str) (hl : vs.length = n) (hsz : i.size = 1) (hn' : Nat.ble n 65536 = true) (hd : Nat.blt d c.n = true)
    (hk : ∀ v, Ops c all rest k ((d, .v v) :: E) (sl v (mrow str e (strsOf vs)) :: L)) : Ops c all (⟨some d, .buildSlice t n parts, ty, pos, aft, none⟩ :: rest) k E L := by
  have hl2 : (strsOf vs).length = n := by rw [hv] at hl; simpa using hl
  refine o_lit (i := i) (xs := (strsOf vs).map str) hi hx (by rw [hsz]; conv => lhs; rw [hv]
                                                              exact catF_str _) (by intro _ _ _ u hu; simp at hu; obtain ⟨a, _, rfl⟩ := hu; rfl) (by rw [hsz, Nat.mul_one]; exact hn') hn' hd fun v => ?_
  have : (⟨e, i.size, n, (strsOf vs).map str⟩ : Row) = mrow str e (strsOf vs) := by rw [hsz, ← hl2]; rfl
  rw [this]
  exact hk v
def wordsL : List (List UInt8) := [[], [109, 107, 100, 105, 114], [99, 114, 101, 97, 116, 101], [119, 114, 105, 116, 101], [116, 114, 117, 110, 99, 97, 116, 101], [117, 110, 108, 105, 110, 107], [114, 109, 100, 105, 114], [114, 101, 110, 97, 109, 101], [114, 101, 97, 100], [108, 105, 115, 116], [115, 116, 97, 116], [102, 111, 114, 103, 101, 116]]
def wordR (k : Int) : List UInt8 := if 0 ≤ k ∧ k < 12 then wordsL.getD k.toNat [] else []
theorem words_apart : ∀ i j : Fin 12, 1 ≤ i.val → 1 ≤ j.val → wordsL.getD i.val [] = wordsL.getD j.val [] → i = j := by decide
theorem word_inj {i j : Int} (hi : 1 ≤ i ∧ i ≤ 11) (hj : 1 ≤ j ∧ j ≤ 11) (h : wordR i = wordR j) : i = j := by
  unfold wordR at h
  rw [if_pos (by omega), if_pos (by omega)] at h
  have := words_apart ⟨i.toNat, by omega⟩ ⟨j.toNat, by omega⟩ (by simp; omega) (by simp; omega) h
  have := congrArg Fin.val this
  simp only at this
  omega
end VK
