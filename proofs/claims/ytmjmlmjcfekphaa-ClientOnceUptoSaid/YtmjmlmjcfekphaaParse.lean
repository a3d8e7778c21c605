/- Parse, walked: the code's, over its iterator, and the reference's. Conditions: texts of a machine's size. -/
import Derived.Test.YtmjmlmjcfekphaaParseL
namespace VK
open Go Go.Proofs
set_option linter.unusedSimpArgs false
set_option linter.unusedVariables false
set_option maxRecDepth 100000
set_option maxHeartbeats 40000000
theorem Ent.slTake {α : Type} {f : α → Value} {e : TypeId} {v : Value} {l : List α} {k : Nat} {L : List Atom} (hk : k ≤ l.length) : Ent (sl v (mrow f e l) :: L) (sl (subV 1 v 0 k) (mrow f e (l.take k)) :: L) := Ent.atom fun h q => by
  unfold sl subV at *
  obtain ⟨h1, h2, h3⟩ := q
  refine ⟨by simp [mrow], fun u hu => h2 u ?_, ?_⟩
  · simp only [mrow, List.map_take] at hu ⊢
    exact List.mem_of_mem_take hu
  · rcases h3 with ⟨rfl, hn⟩ | ⟨b, cap, cur, fr, rfl, h4, h5, h6, h7, h8, h9⟩
    · have hl : l.length = 0 := hn
      have : k = 0 := by omega
      subst this
      exact .inl ⟨rfl, by simp [mrow]⟩
    · have hl : (mrow f e l).n = l.length := rfl
      have hs : (mrow f e l).sz = 1 := rfl
      refine .inr ⟨b, cap, cur, fr, ?_, h4, h5, ?_, h7, h8, ?_⟩
      · simp only [Nat.zero_le, Nat.min_eq_left, Nat.sub_zero, hl, Nat.min_eq_left hk, Nat.zero_mul, Option.map_some, Addr.add]
        simp [mrow, Nat.min_eq_left hk]
      · simp only [mrow, List.length_take] at h6 ⊢; omega
      · rw [hl, hs] at h9
        simp only [mrow, List.length_take, Nat.min_eq_left hk, Nat.mul_one] at h9 ⊢
        rw [List.map_take, ← h9, List.take_take, Nat.min_eq_left hk]
def foldO {σ : Type} (step : σ → List UInt8 → Option σ) : σ → List (List UInt8) → Option σ
  | u, [] => some u
  | u, p :: ps => match step u p with
    | none => none
    | some u' => foldO step u' ps
theorem Fn.post {P : Program} {f : FuncId} {args : List Value} {L : List Atom} {R R' : Value → List Atom → Prop} (h : Fn P f args L R) (hr : ∀ v L', R v L' → ∃ L'', Ent L' L'' ∧ R' v L'') : Fn P f args L R' := by
  unfold Fn at *
  intro W0 w hs
  refine (h W0 w hs).mono ?_
  rintro e w' ⟨v, L', rfl, hR, hS⟩
  obtain ⟨L'', h1, h2⟩ := hr v L' hR
  exact ⟨v, L'', rfl, h2, hS.ent h1⟩
/-- the names so far, in their box, and the boxes of the results -/
def namesX (b2 b3 b5 : Nat) (l : List (List UInt8)) (v : Value) : List Atom := [blk b5 ⟨[v], 33⟩, sl v (mrow str 9 l), blk b3 ⟨[.int .i64 0], 25⟩, blk b2 ⟨[.slice none 0 0], 33⟩]
def namesA (b2 b3 b5 : Nat) (l : List (List UInt8)) : Atom := exA (namesX b2 b3 b5 l)
def badX (b2 b3 : Nat) (_ : Unit) : List Atom := [blk b3 ⟨[.int .i64 41], 25⟩, blk b2 ⟨[.slice none 0 0], 33⟩]
def badA (b2 b3 : Nat) : Atom := exA (badX b2 b3)
theorem fold_eq : ∀ (ps : List (List UInt8)) (acc : List (List UInt8)), foldO stepN acc ps = foldN acc ps
  | [], _ => rfl
  | p :: ps, acc => by
    simp only [foldO, foldN]
    cases stepN acc p with
    | none => rfl
    | some u => exact fold_eq ps u
end VK
