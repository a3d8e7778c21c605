/-
  No cell of these rows narrows 'for every input' (looked for: loops, veiled, ifaces, maps, wideKeys, modest, calm, conditions, laid).
  DERIVED. THE GIVEN ROWS OF THIS SEAT. 4 by the template 'for every input the law returns true; each argument reads behind the call as it read before'; 0 by the template 'total and deterministic' (their statements: YtbhlcncfpkfopaaTotals.lean).
  GIVEN WITH THE SEED: the statements are not yours to turn. If you find one false, say at which input.
  Laid BY PROGRAM, IN A SANDBOX (cutbox-rows.mjs): the forced cells as the released guide's own fill.sh prints them over the translation 933ace4962aca2f5… (all of the seat's roots in one cut). By AI agents, Wed Nov 11 2026. No macro, syntax, notation, axiom, sorry.
-/
import Derived.Test.YtbhlcncfpkfopaaChecked
import GoSem.Claim
import GoSem.ClaimJoined
import GoSem.ClaimMapViews
import Derived.JoinedTies
import Derived.KernelRfl
namespace Go.Proofs.Ytbhlcncfpkfopaa
/- THE CELL 'sum', in the pinned program and in every row, IS THE sha256 OF THE DUMP (.gsa) THAT YtbhlcncfpkfopaaProg.lean LOADS. Nothing in Lean hashes anything: it is a label: what it is worth is what the hold of that sum in a sandbox is worth. -/
noncomputable def Try.pinned : Pinned := { name := "ytbhlcncfpkfopaa", sum := "933ace4962aca2f5a2897ba93b11b2b0d8ee871c213705d49666c39d911c07da", checked := Try.checked }
namespace Rows
def none {H : Type} : Left H := { results := [], args := [] }

/-- 'veneerlaw17.PlatterLasts': WHATEVER THE INPUT: true; the input reads as it did. -/
def platterLastsSpec : ChangeSpec := { name := "platterLasts", fn := fun _ => fun
  | [d1, d2, d3, d4] => { results := [.lit (.bool true)], args := [d1, d2, d3, d4] }
  | _ => none }
def platterLastsRow : OpenClaim := { program := "ytbhlcncfpkfopaa", sum := "933ace4962aca2f5a2897ba93b11b2b0d8ee871c213705d49666c39d911c07da", func := "veneer/veneerlaw17.PlatterLasts", spec := "platterLasts", apart := false }
def PlatterLastsSaid : Prop := platterLastsRow.holds Try.pinned (OpenSpec.ofChange platterLastsSpec)

/-- ITS FALSE NEIGHBOUR: 'it returns false'. Refute it at one input. -/
def platterLastsWrong : ChangeSpec := { name := "platterLasts", fn := fun _ => fun
  | [d1, d2, d3, d4] => { results := [.lit (.bool false)], args := [d1, d2, d3, d4] }
  | _ => none }
def PlatterLastsWrongFalsely : Prop := platterLastsRow.holds Try.pinned (OpenSpec.ofChange platterLastsWrong)

/-- 'veneerlaw17.PlatterPlays': WHATEVER THE INPUT: true; the input reads as it did. -/
def platterPlaysSpec : ChangeSpec := { name := "platterPlays", fn := fun _ => fun
  | [d] => { results := [.lit (.bool true)], args := [d] }
  | _ => none }
def platterPlaysRow : OpenClaim := { program := "ytbhlcncfpkfopaa", sum := "933ace4962aca2f5a2897ba93b11b2b0d8ee871c213705d49666c39d911c07da", func := "veneer/veneerlaw17.PlatterPlays", spec := "platterPlays", apart := false }
def PlatterPlaysSaid : Prop := platterPlaysRow.holds Try.pinned (OpenSpec.ofChange platterPlaysSpec)

/-- ITS FALSE NEIGHBOUR: 'it returns false'. Refute it at one input. -/
def platterPlaysWrong : ChangeSpec := { name := "platterPlays", fn := fun _ => fun
  | [d] => { results := [.lit (.bool false)], args := [d] }
  | _ => none }
def PlatterPlaysWrongFalsely : Prop := platterPlaysRow.holds Try.pinned (OpenSpec.ofChange platterPlaysWrong)

/-- 'veneerlaw17.PlatterFlips': WHATEVER THE INPUT: true; the input reads as it did. -/
def platterFlipsSpec : ChangeSpec := { name := "platterFlips", fn := fun _ => fun
  | [d1, d2, d3, d4] => { results := [.lit (.bool true)], args := [d1, d2, d3, d4] }
  | _ => none }
def platterFlipsRow : OpenClaim := { program := "ytbhlcncfpkfopaa", sum := "933ace4962aca2f5a2897ba93b11b2b0d8ee871c213705d49666c39d911c07da", func := "veneer/veneerlaw17.PlatterFlips", spec := "platterFlips", apart := false }
def PlatterFlipsSaid : Prop := platterFlipsRow.holds Try.pinned (OpenSpec.ofChange platterFlipsSpec)

/-- ITS FALSE NEIGHBOUR: 'it returns false'. Refute it at one input. -/
def platterFlipsWrong : ChangeSpec := { name := "platterFlips", fn := fun _ => fun
  | [d1, d2, d3, d4] => { results := [.lit (.bool false)], args := [d1, d2, d3, d4] }
  | _ => none }
def PlatterFlipsWrongFalsely : Prop := platterFlipsRow.holds Try.pinned (OpenSpec.ofChange platterFlipsWrong)

/-- 'veneerlaw17.PlatterApart': WHATEVER THE INPUT: true; the input reads as it did. -/
def platterApartSpec : ChangeSpec := { name := "platterApart", fn := fun _ => fun
  | [d1, d2] => { results := [.lit (.bool true)], args := [d1, d2] }
  | _ => none }
def platterApartRow : OpenClaim := { program := "ytbhlcncfpkfopaa", sum := "933ace4962aca2f5a2897ba93b11b2b0d8ee871c213705d49666c39d911c07da", func := "veneer/veneerlaw17.PlatterApart", spec := "platterApart", apart := false }
def PlatterApartSaid : Prop := platterApartRow.holds Try.pinned (OpenSpec.ofChange platterApartSpec)

/-- ITS FALSE NEIGHBOUR: 'it returns false'. Refute it at one input. -/
def platterApartWrong : ChangeSpec := { name := "platterApart", fn := fun _ => fun
  | [d1, d2] => { results := [.lit (.bool false)], args := [d1, d2] }
  | _ => none }
def PlatterApartWrongFalsely : Prop := platterApartRow.holds Try.pinned (OpenSpec.ofChange platterApartWrong)

/- THE SECOND FORM. 'bulk': how many values and letters a reading holds, each counted each time it is reached (what is shared counts as often as it is met; a slice's spare places count too). A statement '..UptoSaid' is the law's where the arguments, and the package variables that the reading takes, are together of bulk at most 1048576: NARROWER than '..Said'. Prove '..Said' where nothing that the law and all that it calls make is longer than what came in: it says more and counts as full. Else prove '..UptoSaid'. A law counts once. -/
mutual
def uptoBulk {H : Type} : DataW H → Nat
  | .lit (.string bytes) => bytes.length + 1
  | .lit _ => 1
  | .nil => 1
  | .ptr d => uptoBulk d + 1
  | .slice elems spare => uptoBulkAll elems + uptoBulkAll spare + 1
  | .agg parts => uptoBulkAll parts + 1
  | .iface _ d => uptoBulk d + 1
  | .map entries => uptoBulkEntries entries + 1
  | .held _ => 1
def uptoBulkAll {H : Type} : List (DataW H) → Nat
  | [] => 0
  | d :: r => uptoBulk d + uptoBulkAll r
def uptoBulkEntries {H : Type} : List (Lit × DataW H) → Nat
  | [] => 0
  | x :: r => uptoBulkEntry x + uptoBulkEntries r
def uptoBulkEntry {H : Type} : Lit × DataW H → Nat
  | (.string bytes, d) => bytes.length + uptoBulk d + 1
  | (_, d) => uptoBulk d + 1
 end
def uptoSmall : (H : Type) → List (DataW H) → Bool := fun _ ds => decide (uptoBulkAll ds ≤ 1048576)
def OpenSpec.upto (s : _root_.Go.ChangeSpec) : _root_.Go.OpenSpec := { _root_.Go.OpenSpec.ofChange s with cond := some uptoSmall }

/-- 'veneerlaw17.PlatterLasts', WHERE WHAT IT READS IS OF BULK AT MOST 1048576: true; the input reads as it did. -/
def platterLastsUptoRow : OpenClaim := { program := "ytbhlcncfpkfopaa", sum := "933ace4962aca2f5a2897ba93b11b2b0d8ee871c213705d49666c39d911c07da", func := "veneer/veneerlaw17.PlatterLasts", spec := "platterLasts", apart := false, narrowed := true }
def PlatterLastsUptoSaid : Prop := platterLastsUptoRow.holds Try.pinned (OpenSpec.upto platterLastsSpec)

/-- 'veneerlaw17.PlatterPlays', WHERE WHAT IT READS IS OF BULK AT MOST 1048576: true; the input reads as it did. -/
def platterPlaysUptoRow : OpenClaim := { program := "ytbhlcncfpkfopaa", sum := "933ace4962aca2f5a2897ba93b11b2b0d8ee871c213705d49666c39d911c07da", func := "veneer/veneerlaw17.PlatterPlays", spec := "platterPlays", apart := false, narrowed := true }
def PlatterPlaysUptoSaid : Prop := platterPlaysUptoRow.holds Try.pinned (OpenSpec.upto platterPlaysSpec)

/-- 'veneerlaw17.PlatterFlips', WHERE WHAT IT READS IS OF BULK AT MOST 1048576: true; the input reads as it did. -/
def platterFlipsUptoRow : OpenClaim := { program := "ytbhlcncfpkfopaa", sum := "933ace4962aca2f5a2897ba93b11b2b0d8ee871c213705d49666c39d911c07da", func := "veneer/veneerlaw17.PlatterFlips", spec := "platterFlips", apart := false, narrowed := true }
def PlatterFlipsUptoSaid : Prop := platterFlipsUptoRow.holds Try.pinned (OpenSpec.upto platterFlipsSpec)

/-- 'veneerlaw17.PlatterApart', WHERE WHAT IT READS IS OF BULK AT MOST 1048576: true; the input reads as it did. -/
def platterApartUptoRow : OpenClaim := { program := "ytbhlcncfpkfopaa", sum := "933ace4962aca2f5a2897ba93b11b2b0d8ee871c213705d49666c39d911c07da", func := "veneer/veneerlaw17.PlatterApart", spec := "platterApart", apart := false, narrowed := true }
def PlatterApartUptoSaid : Prop := platterApartUptoRow.holds Try.pinned (OpenSpec.upto platterApartSpec)

end Rows
end Go.Proofs.Ytbhlcncfpkfopaa
