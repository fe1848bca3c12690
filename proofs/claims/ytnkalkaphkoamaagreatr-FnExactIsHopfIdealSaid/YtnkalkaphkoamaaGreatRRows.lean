/-
  No cell of these rows narrows 'for every input' (looked for: loops, veiled, ifaces, maps, wideKeys, modest, calm, conditions, laid).
  DERIVED. THE GIVEN ROWS OF THIS SEAT. 4 by the template 'for every input the law returns true; each argument reads behind the call as it read before'; 0 by the template 'total and deterministic' (their statements: YtnkalkaphkoamaaGreatRTotals.lean).
  GIVEN WITH THE SEED: the statements are not yours to turn. If you find one false, say at which input.
  Laid BY PROGRAM, IN A SANDBOX (cutbox-rows.mjs): the forced cells as the released guide's own fill.sh prints them over the translation b70ba3b425b0af36… (all of the seat's roots in one cut). By AI agents, Wed Nov 11 2026. No macro, syntax, notation, axiom, sorry.
-/
import Derived.Test.YtnkalkaphkoamaaGreatRChecked
import GoSem.Claim
import GoSem.ClaimJoined
import GoSem.ClaimMapViews
import Derived.JoinedTies
import Derived.KernelRfl
namespace Go.Proofs.YtnkalkaphkoamaaGreatR
/- THE CELL 'sum', in the pinned program and in every row, IS THE sha256 OF THE DUMP (.gsa) THAT YtnkalkaphkoamaaGreatRProg.lean LOADS. Nothing in Lean hashes anything: it is a label: what it is worth is what the hold of that sum in a sandbox is worth. -/
noncomputable def Tryz.pinned : Pinned := { name := "ytnkalkaphkoamaagreatr", sum := "b70ba3b425b0af369d98664bd7f5458041b4ecdb664fa1588752a8994b7ab13d", checked := Tryz.checked }
namespace Rows
def none {H : Type} : Left H := { results := [], args := [] }

/-- 'laws.FnExactIsSubHopf': WHATEVER THE INPUT: true; the input reads as it did. -/
def fnExactIsSubHopfSpec : ChangeSpec := { name := "fnExactIsSubHopf", fn := fun _ => fun
  | [d1, d2] => { results := [.lit (.bool true)], args := [d1, d2] }
  | _ => none }
def fnExactIsSubHopfRow : OpenClaim := { program := "ytnkalkaphkoamaagreatr", sum := "b70ba3b425b0af369d98664bd7f5458041b4ecdb664fa1588752a8994b7ab13d", func := "loop.example/g01230/laws.FnExactIsSubHopf", spec := "fnExactIsSubHopf", unfollowed := true, recurses := true, apart := false }
def FnExactIsSubHopfSaid : Prop := fnExactIsSubHopfRow.holds Tryz.pinned (OpenSpec.ofChange fnExactIsSubHopfSpec)

/-- ITS FALSE NEIGHBOUR: 'it returns false'. Refute it at one input. -/
def fnExactIsSubHopfWrong : ChangeSpec := { name := "fnExactIsSubHopf", fn := fun _ => fun
  | [d1, d2] => { results := [.lit (.bool false)], args := [d1, d2] }
  | _ => none }
def FnExactIsSubHopfWrongFalsely : Prop := fnExactIsSubHopfRow.holds Tryz.pinned (OpenSpec.ofChange fnExactIsSubHopfWrong)

/-- 'laws.FnExactGeneratedSub': WHATEVER THE INPUT: true; the input reads as it did. -/
def fnExactGeneratedSubSpec : ChangeSpec := { name := "fnExactGeneratedSub", fn := fun _ => fun
  | [d1, d2] => { results := [.lit (.bool true)], args := [d1, d2] }
  | _ => none }
def fnExactGeneratedSubRow : OpenClaim := { program := "ytnkalkaphkoamaagreatr", sum := "b70ba3b425b0af369d98664bd7f5458041b4ecdb664fa1588752a8994b7ab13d", func := "loop.example/g01230/laws.FnExactGeneratedSub", spec := "fnExactGeneratedSub", unfollowed := true, recurses := true, apart := false }
def FnExactGeneratedSubSaid : Prop := fnExactGeneratedSubRow.holds Tryz.pinned (OpenSpec.ofChange fnExactGeneratedSubSpec)

/-- ITS FALSE NEIGHBOUR: 'it returns false'. Refute it at one input. -/
def fnExactGeneratedSubWrong : ChangeSpec := { name := "fnExactGeneratedSub", fn := fun _ => fun
  | [d1, d2] => { results := [.lit (.bool false)], args := [d1, d2] }
  | _ => none }
def FnExactGeneratedSubWrongFalsely : Prop := fnExactGeneratedSubRow.holds Tryz.pinned (OpenSpec.ofChange fnExactGeneratedSubWrong)

/-- 'laws.FnExactIsHopfIdeal': WHATEVER THE INPUT: true; the input reads as it did. -/
def fnExactIsHopfIdealSpec : ChangeSpec := { name := "fnExactIsHopfIdeal", fn := fun _ => fun
  | [d1, d2] => { results := [.lit (.bool true)], args := [d1, d2] }
  | _ => none }
def fnExactIsHopfIdealRow : OpenClaim := { program := "ytnkalkaphkoamaagreatr", sum := "b70ba3b425b0af369d98664bd7f5458041b4ecdb664fa1588752a8994b7ab13d", func := "loop.example/g01230/laws.FnExactIsHopfIdeal", spec := "fnExactIsHopfIdeal", unfollowed := true, recurses := true, apart := false }
def FnExactIsHopfIdealSaid : Prop := fnExactIsHopfIdealRow.holds Tryz.pinned (OpenSpec.ofChange fnExactIsHopfIdealSpec)

/-- ITS FALSE NEIGHBOUR: 'it returns false'. Refute it at one input. -/
def fnExactIsHopfIdealWrong : ChangeSpec := { name := "fnExactIsHopfIdeal", fn := fun _ => fun
  | [d1, d2] => { results := [.lit (.bool false)], args := [d1, d2] }
  | _ => none }
def FnExactIsHopfIdealWrongFalsely : Prop := fnExactIsHopfIdealRow.holds Tryz.pinned (OpenSpec.ofChange fnExactIsHopfIdealWrong)

/-- 'laws.FnExactIsNormalSub': WHATEVER THE INPUT: true; the input reads as it did. -/
def fnExactIsNormalSubSpec : ChangeSpec := { name := "fnExactIsNormalSub", fn := fun _ => fun
  | [d1, d2] => { results := [.lit (.bool true)], args := [d1, d2] }
  | _ => none }
def fnExactIsNormalSubRow : OpenClaim := { program := "ytnkalkaphkoamaagreatr", sum := "b70ba3b425b0af369d98664bd7f5458041b4ecdb664fa1588752a8994b7ab13d", func := "loop.example/g01230/laws.FnExactIsNormalSub", spec := "fnExactIsNormalSub", unfollowed := true, recurses := true, apart := false }
def FnExactIsNormalSubSaid : Prop := fnExactIsNormalSubRow.holds Tryz.pinned (OpenSpec.ofChange fnExactIsNormalSubSpec)

/-- ITS FALSE NEIGHBOUR: 'it returns false'. Refute it at one input. -/
def fnExactIsNormalSubWrong : ChangeSpec := { name := "fnExactIsNormalSub", fn := fun _ => fun
  | [d1, d2] => { results := [.lit (.bool false)], args := [d1, d2] }
  | _ => none }
def FnExactIsNormalSubWrongFalsely : Prop := fnExactIsNormalSubRow.holds Tryz.pinned (OpenSpec.ofChange fnExactIsNormalSubWrong)

/- THE SECOND FORM. 'bulk': how many values and letters a reading holds, each counted each time it is reached (what is shared counts as often as it is met; a slice's spare places count too). A statement '..UptoSaid' is the law's where the arguments, and the package variables that the reading takes, are together of bulk at most 1048576: NARROWER than '..Said'. Prove '..Said' where nothing that the law and all that it calls make is longer than what came in: it says more and counts as full. Else prove '..UptoSaid'. A law counts once. -/
mutual
def uptoBulk {H : Type} : DataW H → Nat
  | .lit (.string bytes) => bytes.length + 1
  | .lit _ => 1
  | .nil => 1
  | .ptr d => uptoBulk d + 1
  | .slice elems spare => uptoBulkAll elems + uptoBulkAll spare + 1
  | .agg parts => uptoBulkAll parts + 1
  | .iface _ d => uptoBulk d + 1
  | .map entries => uptoBulkEntries entries + 1
  | .held _ => 1
def uptoBulkAll {H : Type} : List (DataW H) → Nat
  | [] => 0
  | d :: r => uptoBulk d + uptoBulkAll r
def uptoBulkEntries {H : Type} : List (Lit × DataW H) → Nat
  | [] => 0
  | x :: r => uptoBulkEntry x + uptoBulkEntries r
def uptoBulkEntry {H : Type} : Lit × DataW H → Nat
  | (.string bytes, d) => bytes.length + uptoBulk d + 1
  | (_, d) => uptoBulk d + 1
 end
def uptoSmall : (H : Type) → List (DataW H) → Bool := fun _ ds => decide (uptoBulkAll ds ≤ 1048576)
def OpenSpec.upto (s : _root_.Go.ChangeSpec) : _root_.Go.OpenSpec := { _root_.Go.OpenSpec.ofChange s with cond := some uptoSmall }

/-- 'laws.FnExactIsSubHopf', WHERE WHAT IT READS IS OF BULK AT MOST 1048576: true; the input reads as it did. -/
def fnExactIsSubHopfUptoRow : OpenClaim := { program := "ytnkalkaphkoamaagreatr", sum := "b70ba3b425b0af369d98664bd7f5458041b4ecdb664fa1588752a8994b7ab13d", func := "loop.example/g01230/laws.FnExactIsSubHopf", spec := "fnExactIsSubHopf", unfollowed := true, recurses := true, apart := false, narrowed := true }
def FnExactIsSubHopfUptoSaid : Prop := fnExactIsSubHopfUptoRow.holds Tryz.pinned (OpenSpec.upto fnExactIsSubHopfSpec)

/-- 'laws.FnExactGeneratedSub', WHERE WHAT IT READS IS OF BULK AT MOST 1048576: true; the input reads as it did. -/
def fnExactGeneratedSubUptoRow : OpenClaim := { program := "ytnkalkaphkoamaagreatr", sum := "b70ba3b425b0af369d98664bd7f5458041b4ecdb664fa1588752a8994b7ab13d", func := "loop.example/g01230/laws.FnExactGeneratedSub", spec := "fnExactGeneratedSub", unfollowed := true, recurses := true, apart := false, narrowed := true }
def FnExactGeneratedSubUptoSaid : Prop := fnExactGeneratedSubUptoRow.holds Tryz.pinned (OpenSpec.upto fnExactGeneratedSubSpec)

/-- 'laws.FnExactIsHopfIdeal', WHERE WHAT IT READS IS OF BULK AT MOST 1048576: true; the input reads as it did. -/
def fnExactIsHopfIdealUptoRow : OpenClaim := { program := "ytnkalkaphkoamaagreatr", sum := "b70ba3b425b0af369d98664bd7f5458041b4ecdb664fa1588752a8994b7ab13d", func := "loop.example/g01230/laws.FnExactIsHopfIdeal", spec := "fnExactIsHopfIdeal", unfollowed := true, recurses := true, apart := false, narrowed := true }
def FnExactIsHopfIdealUptoSaid : Prop := fnExactIsHopfIdealUptoRow.holds Tryz.pinned (OpenSpec.upto fnExactIsHopfIdealSpec)

/-- 'laws.FnExactIsNormalSub', WHERE WHAT IT READS IS OF BULK AT MOST 1048576: true; the input reads as it did. -/
def fnExactIsNormalSubUptoRow : OpenClaim := { program := "ytnkalkaphkoamaagreatr", sum := "b70ba3b425b0af369d98664bd7f5458041b4ecdb664fa1588752a8994b7ab13d", func := "loop.example/g01230/laws.FnExactIsNormalSub", spec := "fnExactIsNormalSub", unfollowed := true, recurses := true, apart := false, narrowed := true }
def FnExactIsNormalSubUptoSaid : Prop := fnExactIsNormalSubUptoRow.holds Tryz.pinned (OpenSpec.upto fnExactIsNormalSubSpec)

end Rows
end Go.Proofs.YtnkalkaphkoamaaGreatR
