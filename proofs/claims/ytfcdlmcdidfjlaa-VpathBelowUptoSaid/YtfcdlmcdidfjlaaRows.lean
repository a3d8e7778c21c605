/-
  No cell of these rows narrows 'for every input' (looked for: loops, veiled, ifaces, maps, wideKeys, modest, calm, conditions, laid).
  DERIVED. THE GIVEN ROWS OF THIS SEAT. 5 by the template 'for every input the law returns true; each argument reads behind the call as it read before'; 0 by the template 'total and deterministic' (their statements: YtfcdlmcdidfjlaaTotals.lean).
  GIVEN WITH THE SEED: the statements are not yours to turn. If you find one false, say at which input.
  Laid BY PROGRAM, IN A SANDBOX (cutbox-rows.mjs): the forced cells as the released guide's own fill.sh prints them over the translation 50697cf300ed3dcd… (all of the seat's roots in one cut). By AI agents, Wed Nov 11 2026. No macro, syntax, notation, axiom, sorry.
-/
import Derived.Test.YtfcdlmcdidfjlaaChecked
import GoSem.Claim
import GoSem.ClaimJoined
import GoSem.ClaimMapViews
import Derived.JoinedTies
import Derived.KernelRfl
namespace Go.Proofs.Ytfcdlmcdidfjlaa
/- THE CELL 'sum', in the pinned program and in every row, IS THE sha256 OF THE DUMP (.gsa) THAT YtfcdlmcdidfjlaaProg.lean LOADS. Nothing in Lean hashes anything: it is a label: what it is worth is what the hold of that sum in a sandbox is worth. -/
noncomputable def Try.pinned : Pinned := { name := "ytfcdlmcdidfjlaa", sum := "50697cf300ed3dcdf548bb2d9be0913881e0ba509dd7d02d95c212ba8af25702", checked := Try.checked }
namespace Rows
def none {H : Type} : Left H := { results := [], args := [] }

/-- 'veneerlaw04.VpathParses': WHATEVER THE INPUT: true; the input reads as it did. -/
def vpathParsesSpec : ChangeSpec := { name := "vpathParses", fn := fun _ => fun
  | [d] => { results := [.lit (.bool true)], args := [d] }
  | _ => none }
def vpathParsesRow : OpenClaim := { program := "ytfcdlmcdidfjlaa", sum := "50697cf300ed3dcdf548bb2d9be0913881e0ba509dd7d02d95c212ba8af25702", func := "veneer/veneerlaw04.VpathParses", spec := "vpathParses", inPlace := ["internal/bytealg.IndexByteString", "internal/bytealg.IndexString", "internal/abi.NoEscape", "internal/bytealg.MakeNoZero"], unfollowed := true, recurses := true, named := ["internal/bytealg.MaxLen"], apart := false }
def VpathParsesSaid : Prop := vpathParsesRow.holds Try.pinned (OpenSpec.ofChange vpathParsesSpec)

/-- ITS FALSE NEIGHBOUR: 'it returns false'. Refute it at one input. -/
def vpathParsesWrong : ChangeSpec := { name := "vpathParses", fn := fun _ => fun
  | [d] => { results := [.lit (.bool false)], args := [d] }
  | _ => none }
def VpathParsesWrongFalsely : Prop := vpathParsesRow.holds Try.pinned (OpenSpec.ofChange vpathParsesWrong)

/-- 'veneerlaw04.VpathBack': WHATEVER THE INPUT: true; the input reads as it did. -/
def vpathBackSpec : ChangeSpec := { name := "vpathBack", fn := fun _ => fun
  | [d1, d2] => { results := [.lit (.bool true)], args := [d1, d2] }
  | _ => none }
def vpathBackRow : OpenClaim := { program := "ytfcdlmcdidfjlaa", sum := "50697cf300ed3dcdf548bb2d9be0913881e0ba509dd7d02d95c212ba8af25702", func := "veneer/veneerlaw04.VpathBack", spec := "vpathBack", inPlace := ["internal/bytealg.IndexByteString", "internal/bytealg.IndexString", "internal/abi.NoEscape", "internal/bytealg.MakeNoZero"], unfollowed := true, recurses := true, named := ["internal/bytealg.MaxLen"], apart := false }
def VpathBackSaid : Prop := vpathBackRow.holds Try.pinned (OpenSpec.ofChange vpathBackSpec)

/-- ITS FALSE NEIGHBOUR: 'it returns false'. Refute it at one input. -/
def vpathBackWrong : ChangeSpec := { name := "vpathBack", fn := fun _ => fun
  | [d1, d2] => { results := [.lit (.bool false)], args := [d1, d2] }
  | _ => none }
def VpathBackWrongFalsely : Prop := vpathBackRow.holds Try.pinned (OpenSpec.ofChange vpathBackWrong)

/-- 'veneerlaw04.VpathNames': WHATEVER THE INPUT: true; the input reads as it did. -/
def vpathNamesSpec : ChangeSpec := { name := "vpathNames", fn := fun _ => fun
  | [d] => { results := [.lit (.bool true)], args := [d] }
  | _ => none }
def vpathNamesRow : OpenClaim := { program := "ytfcdlmcdidfjlaa", sum := "50697cf300ed3dcdf548bb2d9be0913881e0ba509dd7d02d95c212ba8af25702", func := "veneer/veneerlaw04.VpathNames", spec := "vpathNames", inPlace := ["internal/bytealg.IndexByteString", "internal/bytealg.IndexString", "internal/abi.NoEscape", "internal/bytealg.MakeNoZero"], unfollowed := true, recurses := true, named := ["internal/bytealg.MaxLen"], apart := false }
def VpathNamesSaid : Prop := vpathNamesRow.holds Try.pinned (OpenSpec.ofChange vpathNamesSpec)

/-- ITS FALSE NEIGHBOUR: 'it returns false'. Refute it at one input. -/
def vpathNamesWrong : ChangeSpec := { name := "vpathNames", fn := fun _ => fun
  | [d] => { results := [.lit (.bool false)], args := [d] }
  | _ => none }
def VpathNamesWrongFalsely : Prop := vpathNamesRow.holds Try.pinned (OpenSpec.ofChange vpathNamesWrong)

/-- 'veneerlaw04.VpathOrders': WHATEVER THE INPUT: true; the input reads as it did. -/
def vpathOrdersSpec : ChangeSpec := { name := "vpathOrders", fn := fun _ => fun
  | [d1, d2, d3] => { results := [.lit (.bool true)], args := [d1, d2, d3] }
  | _ => none }
def vpathOrdersRow : OpenClaim := { program := "ytfcdlmcdidfjlaa", sum := "50697cf300ed3dcdf548bb2d9be0913881e0ba509dd7d02d95c212ba8af25702", func := "veneer/veneerlaw04.VpathOrders", spec := "vpathOrders", inPlace := ["internal/bytealg.IndexByteString", "internal/bytealg.IndexString", "internal/abi.NoEscape", "internal/bytealg.MakeNoZero"], unfollowed := true, recurses := true, named := ["internal/bytealg.MaxLen"], apart := false }
def VpathOrdersSaid : Prop := vpathOrdersRow.holds Try.pinned (OpenSpec.ofChange vpathOrdersSpec)

/-- ITS FALSE NEIGHBOUR: 'it returns false'. Refute it at one input. -/
def vpathOrdersWrong : ChangeSpec := { name := "vpathOrders", fn := fun _ => fun
  | [d1, d2, d3] => { results := [.lit (.bool false)], args := [d1, d2, d3] }
  | _ => none }
def VpathOrdersWrongFalsely : Prop := vpathOrdersRow.holds Try.pinned (OpenSpec.ofChange vpathOrdersWrong)

/-- 'veneerlaw04.VpathBelow': WHATEVER THE INPUT: true; the input reads as it did. -/
def vpathBelowSpec : ChangeSpec := { name := "vpathBelow", fn := fun _ => fun
  | [d1, d2] => { results := [.lit (.bool true)], args := [d1, d2] }
  | _ => none }
def vpathBelowRow : OpenClaim := { program := "ytfcdlmcdidfjlaa", sum := "50697cf300ed3dcdf548bb2d9be0913881e0ba509dd7d02d95c212ba8af25702", func := "veneer/veneerlaw04.VpathBelow", spec := "vpathBelow", inPlace := ["internal/bytealg.IndexByteString", "internal/bytealg.IndexString", "internal/abi.NoEscape", "internal/bytealg.MakeNoZero"], unfollowed := true, recurses := true, named := ["internal/bytealg.MaxLen"], apart := false }
def VpathBelowSaid : Prop := vpathBelowRow.holds Try.pinned (OpenSpec.ofChange vpathBelowSpec)

/-- ITS FALSE NEIGHBOUR: 'it returns false'. Refute it at one input. -/
def vpathBelowWrong : ChangeSpec := { name := "vpathBelow", fn := fun _ => fun
  | [d1, d2] => { results := [.lit (.bool false)], args := [d1, d2] }
  | _ => none }
def VpathBelowWrongFalsely : Prop := vpathBelowRow.holds Try.pinned (OpenSpec.ofChange vpathBelowWrong)

/- THE SECOND FORM. 'bulk': how many values and letters a reading holds, each counted each time it is reached (what is shared counts as often as it is met; a slice's spare places count too). A statement '..UptoSaid' is the law's where the arguments, and the package variables that the reading takes, are together of bulk at most 1048576: NARROWER than '..Said'. Prove '..Said' where nothing that the law and all that it calls make is longer than what came in: it says more and counts as full. Else prove '..UptoSaid'. A law counts once. -/
mutual
def uptoBulk {H : Type} : DataW H → Nat
  | .lit (.string bytes) => bytes.length + 1
  | .lit _ => 1
  | .nil => 1
  | .ptr d => uptoBulk d + 1
  | .slice elems spare => uptoBulkAll elems + uptoBulkAll spare + 1
  | .agg parts => uptoBulkAll parts + 1
  | .iface _ d => uptoBulk d + 1
  | .map entries => uptoBulkEntries entries + 1
  | .held _ => 1
def uptoBulkAll {H : Type} : List (DataW H) → Nat
  | [] => 0
  | d :: r => uptoBulk d + uptoBulkAll r
def uptoBulkEntries {H : Type} : List (Lit × DataW H) → Nat
  | [] => 0
  | x :: r => uptoBulkEntry x + uptoBulkEntries r
def uptoBulkEntry {H : Type} : Lit × DataW H → Nat
  | (.string bytes, d) => bytes.length + uptoBulk d + 1
  | (_, d) => uptoBulk d + 1
 end
def uptoSmall : (H : Type) → List (DataW H) → Bool := fun _ ds => decide (uptoBulkAll ds ≤ 1048576)
def OpenSpec.upto (s : _root_.Go.ChangeSpec) : _root_.Go.OpenSpec := { _root_.Go.OpenSpec.ofChange s with cond := some uptoSmall }

/-- 'veneerlaw04.VpathParses', WHERE WHAT IT READS IS OF BULK AT MOST 1048576: true; the input reads as it did. -/
def vpathParsesUptoRow : OpenClaim := { program := "ytfcdlmcdidfjlaa", sum := "50697cf300ed3dcdf548bb2d9be0913881e0ba509dd7d02d95c212ba8af25702", func := "veneer/veneerlaw04.VpathParses", spec := "vpathParses", inPlace := ["internal/bytealg.IndexByteString", "internal/bytealg.IndexString", "internal/abi.NoEscape", "internal/bytealg.MakeNoZero"], unfollowed := true, recurses := true, named := ["internal/bytealg.MaxLen"], apart := false, narrowed := true }
def VpathParsesUptoSaid : Prop := vpathParsesUptoRow.holds Try.pinned (OpenSpec.upto vpathParsesSpec)

/-- 'veneerlaw04.VpathBack', WHERE WHAT IT READS IS OF BULK AT MOST 1048576: true; the input reads as it did. -/
def vpathBackUptoRow : OpenClaim := { program := "ytfcdlmcdidfjlaa", sum := "50697cf300ed3dcdf548bb2d9be0913881e0ba509dd7d02d95c212ba8af25702", func := "veneer/veneerlaw04.VpathBack", spec := "vpathBack", inPlace := ["internal/bytealg.IndexByteString", "internal/bytealg.IndexString", "internal/abi.NoEscape", "internal/bytealg.MakeNoZero"], unfollowed := true, recurses := true, named := ["internal/bytealg.MaxLen"], apart := false, narrowed := true }
def VpathBackUptoSaid : Prop := vpathBackUptoRow.holds Try.pinned (OpenSpec.upto vpathBackSpec)

/-- 'veneerlaw04.VpathNames', WHERE WHAT IT READS IS OF BULK AT MOST 1048576: true; the input reads as it did. -/
def vpathNamesUptoRow : OpenClaim := { program := "ytfcdlmcdidfjlaa", sum := "50697cf300ed3dcdf548bb2d9be0913881e0ba509dd7d02d95c212ba8af25702", func := "veneer/veneerlaw04.VpathNames", spec := "vpathNames", inPlace := ["internal/bytealg.IndexByteString", "internal/bytealg.IndexString", "internal/abi.NoEscape", "internal/bytealg.MakeNoZero"], unfollowed := true, recurses := true, named := ["internal/bytealg.MaxLen"], apart := false, narrowed := true }
def VpathNamesUptoSaid : Prop := vpathNamesUptoRow.holds Try.pinned (OpenSpec.upto vpathNamesSpec)

/-- 'veneerlaw04.VpathOrders', WHERE WHAT IT READS IS OF BULK AT MOST 1048576: true; the input reads as it did. -/
def vpathOrdersUptoRow : OpenClaim := { program := "ytfcdlmcdidfjlaa", sum := "50697cf300ed3dcdf548bb2d9be0913881e0ba509dd7d02d95c212ba8af25702", func := "veneer/veneerlaw04.VpathOrders", spec := "vpathOrders", inPlace := ["internal/bytealg.IndexByteString", "internal/bytealg.IndexString", "internal/abi.NoEscape", "internal/bytealg.MakeNoZero"], unfollowed := true, recurses := true, named := ["internal/bytealg.MaxLen"], apart := false, narrowed := true }
def VpathOrdersUptoSaid : Prop := vpathOrdersUptoRow.holds Try.pinned (OpenSpec.upto vpathOrdersSpec)

/-- 'veneerlaw04.VpathBelow', WHERE WHAT IT READS IS OF BULK AT MOST 1048576: true; the input reads as it did. -/
def vpathBelowUptoRow : OpenClaim := { program := "ytfcdlmcdidfjlaa", sum := "50697cf300ed3dcdf548bb2d9be0913881e0ba509dd7d02d95c212ba8af25702", func := "veneer/veneerlaw04.VpathBelow", spec := "vpathBelow", inPlace := ["internal/bytealg.IndexByteString", "internal/bytealg.IndexString", "internal/abi.NoEscape", "internal/bytealg.MakeNoZero"], unfollowed := true, recurses := true, named := ["internal/bytealg.MaxLen"], apart := false, narrowed := true }
def VpathBelowUptoSaid : Prop := vpathBelowUptoRow.holds Try.pinned (OpenSpec.upto vpathBelowSpec)

end Rows
end Go.Proofs.Ytfcdlmcdidfjlaa
