/- What In reads: texts, flags, digests. Conditions: none. -/
import Derived.Test.YtmjmlmjcfekphaaIn2
namespace VK
open Go Go.Proofs
set_option linter.unusedSimpArgs false
set_option linter.unusedVariables false
set_option maxRecDepth 100000
set_option maxHeartbeats 40000000

def takeR (n : Nat) (s : InS) : List UInt8 × InS := if s.err = 0 then (if s.bs.length < n then ([], ⟨[], 20⟩) else (s.bs.take n, ⟨s.bs.drop n, 0⟩)) else ([], s)
def textR (most : Int) (s : InS) : List UInt8 × InS := if (numR s).2.err = 0 then (if max most 0 < (numR s).1 then ([], ⟨[], 2⟩) else takeR (numR s).1 (numR s).2) else ([], (numR s).2)
def flagR (s : InS) : Bool × InS := if s.err = 0 then (match s.bs with | [] => (false, ⟨[], 20⟩) | c :: r => if 1 < c.toNat then (false, ⟨[], 21⟩) else (decide (c.toNat = 1), ⟨r, 0⟩)) else (false, s)
def pad32 (l : List UInt8) : List UInt8 := l ++ List.replicate (32 - l.length) 0
def digestR (s : InS) : List UInt8 × InS := (pad32 (takeR 32 s).1, (takeR 32 s).2)
theorem takeR_len (n : Nat) (s : InS) : (takeR n s).1.length ≤ n := by
  unfold takeR
  split
  · split <;> simp
    omega
  · simp
theorem digestR_len (s : InS) : (digestR s).1.length = 32 := by have := takeR_len 32 s; simp [digestR, pad32]; omega
instance (s : InS) : LenIs (digestR s).1 32 := ⟨digestR_len s, by decide⟩
end VK
