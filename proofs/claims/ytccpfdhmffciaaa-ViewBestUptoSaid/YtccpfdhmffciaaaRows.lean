/-
  No cell of these rows narrows 'for every input' (looked for: loops, veiled, ifaces, maps, wideKeys, modest, calm, conditions, laid).
  DERIVED. THE GIVEN ROWS OF THIS SEAT. 5 by the template 'for every input the law returns true; each argument reads behind the call as it read before'; 0 by the template 'total and deterministic' (their statements: YtccpfdhmffciaaaTotals.lean).
  GIVEN WITH THE SEED: the statements are not yours to turn. If you find one false, say at which input.
  Laid BY PROGRAM, IN A SANDBOX (cutbox-rows.mjs): the forced cells as the released guide's own fill.sh prints them over the translation 88b019897bd65253… (all of the seat's roots in one cut). By AI agents, Wed Nov 11 2026. No macro, syntax, notation, axiom, sorry.
-/
import Derived.Test.YtccpfdhmffciaaaChecked
import GoSem.Claim
import GoSem.ClaimJoined
import GoSem.ClaimMapViews
import Derived.JoinedTies
import Derived.KernelRfl
namespace Go.Proofs.Ytccpfdhmffciaaa
/- THE CELL 'sum', in the pinned program and in every row, IS THE sha256 OF THE DUMP (.gsa) THAT YtccpfdhmffciaaaProg.lean LOADS. Nothing in Lean hashes anything: it is a label: what it is worth is what the hold of that sum in a sandbox is worth. -/
noncomputable def Try.pinned : Pinned := { name := "ytccpfdhmffciaaa", sum := "88b019897bd652534bf8727ebac13845dd2fee98a025a3ced76a31b586a811b3", checked := Try.checked }
namespace Rows
def none {H : Type} : Left H := { results := [], args := [] }

/-- 'veneerlaw19.ViewLeads': WHATEVER THE INPUT: true; the input reads as it did. -/
def viewLeadsSpec : ChangeSpec := { name := "viewLeads", fn := fun _ => fun
  | [d1, d2, d3] => { results := [.lit (.bool true)], args := [d1, d2, d3] }
  | _ => none }
def viewLeadsRow : OpenClaim := { program := "ytccpfdhmffciaaa", sum := "88b019897bd652534bf8727ebac13845dd2fee98a025a3ced76a31b586a811b3", func := "veneer/veneerlaw19.ViewLeads", spec := "viewLeads", unfollowed := true, recurses := true, apart := false }
def ViewLeadsSaid : Prop := viewLeadsRow.holds Try.pinned (OpenSpec.ofChange viewLeadsSpec)

/-- ITS FALSE NEIGHBOUR: 'it returns false'. Refute it at one input. -/
def viewLeadsWrong : ChangeSpec := { name := "viewLeads", fn := fun _ => fun
  | [d1, d2, d3] => { results := [.lit (.bool false)], args := [d1, d2, d3] }
  | _ => none }
def ViewLeadsWrongFalsely : Prop := viewLeadsRow.holds Try.pinned (OpenSpec.ofChange viewLeadsWrong)

/-- 'veneerlaw19.ViewTurns': WHATEVER THE INPUT: true; the input reads as it did. -/
def viewTurnsSpec : ChangeSpec := { name := "viewTurns", fn := fun _ => fun
  | [d1, d2, d3] => { results := [.lit (.bool true)], args := [d1, d2, d3] }
  | _ => none }
def viewTurnsRow : OpenClaim := { program := "ytccpfdhmffciaaa", sum := "88b019897bd652534bf8727ebac13845dd2fee98a025a3ced76a31b586a811b3", func := "veneer/veneerlaw19.ViewTurns", spec := "viewTurns", unfollowed := true, recurses := true, apart := false }
def ViewTurnsSaid : Prop := viewTurnsRow.holds Try.pinned (OpenSpec.ofChange viewTurnsSpec)

/-- ITS FALSE NEIGHBOUR: 'it returns false'. Refute it at one input. -/
def viewTurnsWrong : ChangeSpec := { name := "viewTurns", fn := fun _ => fun
  | [d1, d2, d3] => { results := [.lit (.bool false)], args := [d1, d2, d3] }
  | _ => none }
def ViewTurnsWrongFalsely : Prop := viewTurnsRow.holds Try.pinned (OpenSpec.ofChange viewTurnsWrong)

/-- 'veneerlaw19.ViewBest': WHATEVER THE INPUT: true; the input reads as it did. -/
def viewBestSpec : ChangeSpec := { name := "viewBest", fn := fun _ => fun
  | [d1, d2] => { results := [.lit (.bool true)], args := [d1, d2] }
  | _ => none }
def viewBestRow : OpenClaim := { program := "ytccpfdhmffciaaa", sum := "88b019897bd652534bf8727ebac13845dd2fee98a025a3ced76a31b586a811b3", func := "veneer/veneerlaw19.ViewBest", spec := "viewBest", unfollowed := true, recurses := true, apart := false }
def ViewBestSaid : Prop := viewBestRow.holds Try.pinned (OpenSpec.ofChange viewBestSpec)

/-- ITS FALSE NEIGHBOUR: 'it returns false'. Refute it at one input. -/
def viewBestWrong : ChangeSpec := { name := "viewBest", fn := fun _ => fun
  | [d1, d2] => { results := [.lit (.bool false)], args := [d1, d2] }
  | _ => none }
def ViewBestWrongFalsely : Prop := viewBestRow.holds Try.pinned (OpenSpec.ofChange viewBestWrong)

/-- 'veneerlaw19.ViewReached': WHATEVER THE INPUT: true; the input reads as it did. -/
def viewReachedSpec : ChangeSpec := { name := "viewReached", fn := fun _ => fun
  | [d1, d2] => { results := [.lit (.bool true)], args := [d1, d2] }
  | _ => none }
def viewReachedRow : OpenClaim := { program := "ytccpfdhmffciaaa", sum := "88b019897bd652534bf8727ebac13845dd2fee98a025a3ced76a31b586a811b3", func := "veneer/veneerlaw19.ViewReached", spec := "viewReached", unfollowed := true, recurses := true, apart := false }
def ViewReachedSaid : Prop := viewReachedRow.holds Try.pinned (OpenSpec.ofChange viewReachedSpec)

/-- ITS FALSE NEIGHBOUR: 'it returns false'. Refute it at one input. -/
def viewReachedWrong : ChangeSpec := { name := "viewReached", fn := fun _ => fun
  | [d1, d2] => { results := [.lit (.bool false)], args := [d1, d2] }
  | _ => none }
def ViewReachedWrongFalsely : Prop := viewReachedRow.holds Try.pinned (OpenSpec.ofChange viewReachedWrong)

/-- 'veneerlaw19.ViewMeets': WHATEVER THE INPUT: true; the input reads as it did. -/
def viewMeetsSpec : ChangeSpec := { name := "viewMeets", fn := fun _ => fun
  | [d1, d2] => { results := [.lit (.bool true)], args := [d1, d2] }
  | _ => none }
def viewMeetsRow : OpenClaim := { program := "ytccpfdhmffciaaa", sum := "88b019897bd652534bf8727ebac13845dd2fee98a025a3ced76a31b586a811b3", func := "veneer/veneerlaw19.ViewMeets", spec := "viewMeets", unfollowed := true, recurses := true, apart := false }
def ViewMeetsSaid : Prop := viewMeetsRow.holds Try.pinned (OpenSpec.ofChange viewMeetsSpec)

/-- ITS FALSE NEIGHBOUR: 'it returns false'. Refute it at one input. -/
def viewMeetsWrong : ChangeSpec := { name := "viewMeets", fn := fun _ => fun
  | [d1, d2] => { results := [.lit (.bool false)], args := [d1, d2] }
  | _ => none }
def ViewMeetsWrongFalsely : Prop := viewMeetsRow.holds Try.pinned (OpenSpec.ofChange viewMeetsWrong)

/- THE SECOND FORM. 'bulk': how many values and letters a reading holds, each counted each time it is reached (what is shared counts as often as it is met; a slice's spare places count too). A statement '..UptoSaid' is the law's where the arguments, and the package variables that the reading takes, are together of bulk at most 1048576: NARROWER than '..Said'. Prove '..Said' where nothing that the law and all that it calls make is longer than what came in: it says more and counts as full. Else prove '..UptoSaid'. A law counts once. -/
mutual
def uptoBulk {H : Type} : DataW H → Nat
  | .lit (.string bytes) => bytes.length + 1
  | .lit _ => 1
  | .nil => 1
  | .ptr d => uptoBulk d + 1
  | .slice elems spare => uptoBulkAll elems + uptoBulkAll spare + 1
  | .agg parts => uptoBulkAll parts + 1
  | .iface _ d => uptoBulk d + 1
  | .map entries => uptoBulkEntries entries + 1
  | .held _ => 1
def uptoBulkAll {H : Type} : List (DataW H) → Nat
  | [] => 0
  | d :: r => uptoBulk d + uptoBulkAll r
def uptoBulkEntries {H : Type} : List (Lit × DataW H) → Nat
  | [] => 0
  | x :: r => uptoBulkEntry x + uptoBulkEntries r
def uptoBulkEntry {H : Type} : Lit × DataW H → Nat
  | (.string bytes, d) => bytes.length + uptoBulk d + 1
  | (_, d) => uptoBulk d + 1
 end
def uptoSmall : (H : Type) → List (DataW H) → Bool := fun _ ds => decide (uptoBulkAll ds ≤ 1048576)
def OpenSpec.upto (s : _root_.Go.ChangeSpec) : _root_.Go.OpenSpec := { _root_.Go.OpenSpec.ofChange s with cond := some uptoSmall }

/-- 'veneerlaw19.ViewLeads', WHERE WHAT IT READS IS OF BULK AT MOST 1048576: true; the input reads as it did. -/
def viewLeadsUptoRow : OpenClaim := { program := "ytccpfdhmffciaaa", sum := "88b019897bd652534bf8727ebac13845dd2fee98a025a3ced76a31b586a811b3", func := "veneer/veneerlaw19.ViewLeads", spec := "viewLeads", unfollowed := true, recurses := true, apart := false, narrowed := true }
def ViewLeadsUptoSaid : Prop := viewLeadsUptoRow.holds Try.pinned (OpenSpec.upto viewLeadsSpec)

/-- 'veneerlaw19.ViewTurns', WHERE WHAT IT READS IS OF BULK AT MOST 1048576: true; the input reads as it did. -/
def viewTurnsUptoRow : OpenClaim := { program := "ytccpfdhmffciaaa", sum := "88b019897bd652534bf8727ebac13845dd2fee98a025a3ced76a31b586a811b3", func := "veneer/veneerlaw19.ViewTurns", spec := "viewTurns", unfollowed := true, recurses := true, apart := false, narrowed := true }
def ViewTurnsUptoSaid : Prop := viewTurnsUptoRow.holds Try.pinned (OpenSpec.upto viewTurnsSpec)

/-- 'veneerlaw19.ViewBest', WHERE WHAT IT READS IS OF BULK AT MOST 1048576: true; the input reads as it did. -/
def viewBestUptoRow : OpenClaim := { program := "ytccpfdhmffciaaa", sum := "88b019897bd652534bf8727ebac13845dd2fee98a025a3ced76a31b586a811b3", func := "veneer/veneerlaw19.ViewBest", spec := "viewBest", unfollowed := true, recurses := true, apart := false, narrowed := true }
def ViewBestUptoSaid : Prop := viewBestUptoRow.holds Try.pinned (OpenSpec.upto viewBestSpec)

/-- 'veneerlaw19.ViewReached', WHERE WHAT IT READS IS OF BULK AT MOST 1048576: true; the input reads as it did. -/
def viewReachedUptoRow : OpenClaim := { program := "ytccpfdhmffciaaa", sum := "88b019897bd652534bf8727ebac13845dd2fee98a025a3ced76a31b586a811b3", func := "veneer/veneerlaw19.ViewReached", spec := "viewReached", unfollowed := true, recurses := true, apart := false, narrowed := true }
def ViewReachedUptoSaid : Prop := viewReachedUptoRow.holds Try.pinned (OpenSpec.upto viewReachedSpec)

/-- 'veneerlaw19.ViewMeets', WHERE WHAT IT READS IS OF BULK AT MOST 1048576: true; the input reads as it did. -/
def viewMeetsUptoRow : OpenClaim := { program := "ytccpfdhmffciaaa", sum := "88b019897bd652534bf8727ebac13845dd2fee98a025a3ced76a31b586a811b3", func := "veneer/veneerlaw19.ViewMeets", spec := "viewMeets", unfollowed := true, recurses := true, apart := false, narrowed := true }
def ViewMeetsUptoSaid : Prop := viewMeetsUptoRow.holds Try.pinned (OpenSpec.upto viewMeetsSpec)

end Rows
end Go.Proofs.Ytccpfdhmffciaaa
