/-
  No cell of these rows narrows 'for every input' (looked for: loops, veiled, ifaces, maps, wideKeys, modest, calm, conditions, laid).
  DERIVED. THE GIVEN ROWS OF THIS SEAT. 3 by the template 'for every input the law returns true; each argument reads behind the call as it read before'; 0 by the template 'total and deterministic' (their statements: YtmelbommnopmaaaGreatTotals.lean).
  GIVEN WITH THE SEED: the statements are not yours to turn. If you find one false, say at which input.
  Laid BY PROGRAM, IN A SANDBOX (cutbox-rows.mjs): the forced cells as the released guide's own fill.sh prints them over the translation 450ba9c645226ee0… (all of the seat's roots in one cut). By AI agents, Wed Nov 11 2026. No macro, syntax, notation, axiom, sorry.
-/
import Derived.Test.YtmelbommnopmaaaGreatChecked
import GoSem.Claim
import GoSem.ClaimJoined
import GoSem.ClaimMapViews
import Derived.JoinedTies
import Derived.KernelRfl
namespace Go.Proofs.YtmelbommnopmaaaGreat
/- THE CELL 'sum', in the pinned program and in every row, IS THE sha256 OF THE DUMP (.gsa) THAT YtmelbommnopmaaaGreatProg.lean LOADS. Nothing in Lean hashes anything: it is a label: what it is worth is what the hold of that sum in a sandbox is worth. -/
noncomputable def Tryz.pinned : Pinned := { name := "ytmelbommnopmaaagreat", sum := "450ba9c645226ee07d3ed2b153267cd1718f7bfbd3b0681641e36ad974fd3af4", checked := Tryz.checked }
namespace Rows
def none {H : Type} : Left H := { results := [], args := [] }

/-- 'laws.FnExactSubmoduleOf': WHATEVER THE INPUT: true; the input reads as it did. -/
def fnExactSubmoduleOfSpec : ChangeSpec := { name := "fnExactSubmoduleOf", fn := fun _ => fun
  | [d1, d2, d3] => { results := [.lit (.bool true)], args := [d1, d2, d3] }
  | _ => none }
def fnExactSubmoduleOfRow : OpenClaim := { program := "ytmelbommnopmaaagreat", sum := "450ba9c645226ee07d3ed2b153267cd1718f7bfbd3b0681641e36ad974fd3af4", func := "loop.example/g01230/laws.FnExactSubmoduleOf", spec := "fnExactSubmoduleOf", unfollowed := true, recurses := true, apart := false }
def FnExactSubmoduleOfSaid : Prop := fnExactSubmoduleOfRow.holds Tryz.pinned (OpenSpec.ofChange fnExactSubmoduleOfSpec)

/-- ITS FALSE NEIGHBOUR: 'it returns false'. Refute it at one input. -/
def fnExactSubmoduleOfWrong : ChangeSpec := { name := "fnExactSubmoduleOf", fn := fun _ => fun
  | [d1, d2, d3] => { results := [.lit (.bool false)], args := [d1, d2, d3] }
  | _ => none }
def FnExactSubmoduleOfWrongFalsely : Prop := fnExactSubmoduleOfRow.holds Tryz.pinned (OpenSpec.ofChange fnExactSubmoduleOfWrong)

/-- 'laws.FnExactIsSubmodule': WHATEVER THE INPUT: true; the input reads as it did. -/
def fnExactIsSubmoduleSpec : ChangeSpec := { name := "fnExactIsSubmodule", fn := fun _ => fun
  | [d1, d2, d3] => { results := [.lit (.bool true)], args := [d1, d2, d3] }
  | _ => none }
def fnExactIsSubmoduleRow : OpenClaim := { program := "ytmelbommnopmaaagreat", sum := "450ba9c645226ee07d3ed2b153267cd1718f7bfbd3b0681641e36ad974fd3af4", func := "loop.example/g01230/laws.FnExactIsSubmodule", spec := "fnExactIsSubmodule", unfollowed := true, recurses := true, apart := false }
def FnExactIsSubmoduleSaid : Prop := fnExactIsSubmoduleRow.holds Tryz.pinned (OpenSpec.ofChange fnExactIsSubmoduleSpec)

/-- ITS FALSE NEIGHBOUR: 'it returns false'. Refute it at one input. -/
def fnExactIsSubmoduleWrong : ChangeSpec := { name := "fnExactIsSubmodule", fn := fun _ => fun
  | [d1, d2, d3] => { results := [.lit (.bool false)], args := [d1, d2, d3] }
  | _ => none }
def FnExactIsSubmoduleWrongFalsely : Prop := fnExactIsSubmoduleRow.holds Tryz.pinned (OpenSpec.ofChange fnExactIsSubmoduleWrong)

/-- 'laws.FnExactDimensionOfMaps': WHATEVER THE INPUT: true; the input reads as it did. -/
def fnExactDimensionOfMapsSpec : ChangeSpec := { name := "fnExactDimensionOfMaps", fn := fun _ => fun
  | [d1, d2, d3] => { results := [.lit (.bool true)], args := [d1, d2, d3] }
  | _ => none }
def fnExactDimensionOfMapsRow : OpenClaim := { program := "ytmelbommnopmaaagreat", sum := "450ba9c645226ee07d3ed2b153267cd1718f7bfbd3b0681641e36ad974fd3af4", func := "loop.example/g01230/laws.FnExactDimensionOfMaps", spec := "fnExactDimensionOfMaps", unfollowed := true, recurses := true, apart := false }
def FnExactDimensionOfMapsSaid : Prop := fnExactDimensionOfMapsRow.holds Tryz.pinned (OpenSpec.ofChange fnExactDimensionOfMapsSpec)

/-- ITS FALSE NEIGHBOUR: 'it returns false'. Refute it at one input. -/
def fnExactDimensionOfMapsWrong : ChangeSpec := { name := "fnExactDimensionOfMaps", fn := fun _ => fun
  | [d1, d2, d3] => { results := [.lit (.bool false)], args := [d1, d2, d3] }
  | _ => none }
def FnExactDimensionOfMapsWrongFalsely : Prop := fnExactDimensionOfMapsRow.holds Tryz.pinned (OpenSpec.ofChange fnExactDimensionOfMapsWrong)

/- THE SECOND FORM. 'bulk': how many values and letters a reading holds, each counted each time it is reached (what is shared counts as often as it is met; a slice's spare places count too). A statement '..UptoSaid' is the law's where the arguments, and the package variables that the reading takes, are together of bulk at most 1048576: NARROWER than '..Said'. Prove '..Said' where nothing that the law and all that it calls make is longer than what came in: it says more and counts as full. Else prove '..UptoSaid'. A law counts once. -/
mutual
def uptoBulk {H : Type} : DataW H → Nat
  | .lit (.string bytes) => bytes.length + 1
  | .lit _ => 1
  | .nil => 1
  | .ptr d => uptoBulk d + 1
  | .slice elems spare => uptoBulkAll elems + uptoBulkAll spare + 1
  | .agg parts => uptoBulkAll parts + 1
  | .iface _ d => uptoBulk d + 1
  | .map entries => uptoBulkEntries entries + 1
  | .held _ => 1
def uptoBulkAll {H : Type} : List (DataW H) → Nat
  | [] => 0
  | d :: r => uptoBulk d + uptoBulkAll r
def uptoBulkEntries {H : Type} : List (Lit × DataW H) → Nat
  | [] => 0
  | x :: r => uptoBulkEntry x + uptoBulkEntries r
def uptoBulkEntry {H : Type} : Lit × DataW H → Nat
  | (.string bytes, d) => bytes.length + uptoBulk d + 1
  | (_, d) => uptoBulk d + 1
 end
def uptoSmall : (H : Type) → List (DataW H) → Bool := fun _ ds => decide (uptoBulkAll ds ≤ 1048576)
def OpenSpec.upto (s : _root_.Go.ChangeSpec) : _root_.Go.OpenSpec := { _root_.Go.OpenSpec.ofChange s with cond := some uptoSmall }

/-- 'laws.FnExactSubmoduleOf', WHERE WHAT IT READS IS OF BULK AT MOST 1048576: true; the input reads as it did. -/
def fnExactSubmoduleOfUptoRow : OpenClaim := { program := "ytmelbommnopmaaagreat", sum := "450ba9c645226ee07d3ed2b153267cd1718f7bfbd3b0681641e36ad974fd3af4", func := "loop.example/g01230/laws.FnExactSubmoduleOf", spec := "fnExactSubmoduleOf", unfollowed := true, recurses := true, apart := false, narrowed := true }
def FnExactSubmoduleOfUptoSaid : Prop := fnExactSubmoduleOfUptoRow.holds Tryz.pinned (OpenSpec.upto fnExactSubmoduleOfSpec)

/-- 'laws.FnExactIsSubmodule', WHERE WHAT IT READS IS OF BULK AT MOST 1048576: true; the input reads as it did. -/
def fnExactIsSubmoduleUptoRow : OpenClaim := { program := "ytmelbommnopmaaagreat", sum := "450ba9c645226ee07d3ed2b153267cd1718f7bfbd3b0681641e36ad974fd3af4", func := "loop.example/g01230/laws.FnExactIsSubmodule", spec := "fnExactIsSubmodule", unfollowed := true, recurses := true, apart := false, narrowed := true }
def FnExactIsSubmoduleUptoSaid : Prop := fnExactIsSubmoduleUptoRow.holds Tryz.pinned (OpenSpec.upto fnExactIsSubmoduleSpec)

/-- 'laws.FnExactDimensionOfMaps', WHERE WHAT IT READS IS OF BULK AT MOST 1048576: true; the input reads as it did. -/
def fnExactDimensionOfMapsUptoRow : OpenClaim := { program := "ytmelbommnopmaaagreat", sum := "450ba9c645226ee07d3ed2b153267cd1718f7bfbd3b0681641e36ad974fd3af4", func := "loop.example/g01230/laws.FnExactDimensionOfMaps", spec := "fnExactDimensionOfMaps", unfollowed := true, recurses := true, apart := false, narrowed := true }
def FnExactDimensionOfMapsUptoSaid : Prop := fnExactDimensionOfMapsUptoRow.holds Tryz.pinned (OpenSpec.upto fnExactDimensionOfMapsSpec)

end Rows
end Go.Proofs.YtmelbommnopmaaaGreat
