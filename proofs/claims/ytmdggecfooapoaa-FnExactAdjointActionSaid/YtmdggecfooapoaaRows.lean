/-
  No cell of these rows narrows 'for every input' (looked for: loops, veiled, ifaces, maps, wideKeys, modest, calm, conditions, laid).
  DERIVED. THE GIVEN ROWS OF THIS SEAT. 6 by the template 'for every input the law returns true; each argument reads behind the call as it read before'; 0 by the template 'total and deterministic' (their statements: YtmdggecfooapoaaTotals.lean).
  GIVEN WITH THE SEED: the statements are not yours to turn. If you find one false, say at which input.
  Laid BY PROGRAM, IN A SANDBOX (cutbox-rows.mjs): the forced cells as the released guide's own fill.sh prints them over the translation b8fa4084d31101dc… (all of the seat's roots in one cut). By AI agents, Wed Nov 11 2026. No macro, syntax, notation, axiom, sorry.
-/
import Derived.Test.YtmdggecfooapoaaChecked
import GoSem.Claim
import GoSem.ClaimJoined
import GoSem.ClaimMapViews
import Derived.JoinedTies
import Derived.KernelRfl
namespace Go.Proofs.Ytmdggecfooapoaa
/- THE CELL 'sum', in the pinned program and in every row, IS THE sha256 OF THE DUMP (.gsa) THAT YtmdggecfooapoaaProg.lean LOADS. Nothing in Lean hashes anything: it is a label: what it is worth is what the hold of that sum in a sandbox is worth. -/
noncomputable def Try.pinned : Pinned := { name := "ytmdggecfooapoaa", sum := "b8fa4084d31101dcd55b5a62c038e35a8cded563b52f889ab4a956da5539e3c5", checked := Try.checked }
namespace Rows
def none {H : Type} : Left H := { results := [], args := [] }

/-- 'laws.FnExactRegularModule': WHATEVER THE INPUT: true; the input reads as it did. -/
def fnExactRegularModuleSpec : ChangeSpec := { name := "fnExactRegularModule", fn := fun _ => fun
  | [d] => { results := [.lit (.bool true)], args := [d] }
  | _ => none }
def fnExactRegularModuleRow : OpenClaim := { program := "ytmdggecfooapoaa", sum := "b8fa4084d31101dcd55b5a62c038e35a8cded563b52f889ab4a956da5539e3c5", func := "loop.example/g01230/laws.FnExactRegularModule", spec := "fnExactRegularModule", unfollowed := true, recurses := true, apart := false }
def FnExactRegularModuleSaid : Prop := fnExactRegularModuleRow.holds Try.pinned (OpenSpec.ofChange fnExactRegularModuleSpec)

/-- ITS FALSE NEIGHBOUR: 'it returns false'. Refute it at one input. -/
def fnExactRegularModuleWrong : ChangeSpec := { name := "fnExactRegularModule", fn := fun _ => fun
  | [d] => { results := [.lit (.bool false)], args := [d] }
  | _ => none }
def FnExactRegularModuleWrongFalsely : Prop := fnExactRegularModuleRow.holds Try.pinned (OpenSpec.ofChange fnExactRegularModuleWrong)

/-- 'laws.FnExactTraceOfSquare': WHATEVER THE INPUT: true; the input reads as it did. -/
def fnExactTraceOfSquareSpec : ChangeSpec := { name := "fnExactTraceOfSquare", fn := fun _ => fun
  | [d] => { results := [.lit (.bool true)], args := [d] }
  | _ => none }
def fnExactTraceOfSquareRow : OpenClaim := { program := "ytmdggecfooapoaa", sum := "b8fa4084d31101dcd55b5a62c038e35a8cded563b52f889ab4a956da5539e3c5", func := "loop.example/g01230/laws.FnExactTraceOfSquare", spec := "fnExactTraceOfSquare", unfollowed := true, recurses := true, apart := false }
def FnExactTraceOfSquareSaid : Prop := fnExactTraceOfSquareRow.holds Try.pinned (OpenSpec.ofChange fnExactTraceOfSquareSpec)

/-- ITS FALSE NEIGHBOUR: 'it returns false'. Refute it at one input. -/
def fnExactTraceOfSquareWrong : ChangeSpec := { name := "fnExactTraceOfSquare", fn := fun _ => fun
  | [d] => { results := [.lit (.bool false)], args := [d] }
  | _ => none }
def FnExactTraceOfSquareWrongFalsely : Prop := fnExactTraceOfSquareRow.holds Try.pinned (OpenSpec.ofChange fnExactTraceOfSquareWrong)

/-- 'laws.FnExactAlgebraOf': WHATEVER THE INPUT: true; the input reads as it did. -/
def fnExactAlgebraOfSpec : ChangeSpec := { name := "fnExactAlgebraOf", fn := fun _ => fun
  | [d] => { results := [.lit (.bool true)], args := [d] }
  | _ => none }
def fnExactAlgebraOfRow : OpenClaim := { program := "ytmdggecfooapoaa", sum := "b8fa4084d31101dcd55b5a62c038e35a8cded563b52f889ab4a956da5539e3c5", func := "loop.example/g01230/laws.FnExactAlgebraOf", spec := "fnExactAlgebraOf", unfollowed := true, recurses := true, apart := false }
def FnExactAlgebraOfSaid : Prop := fnExactAlgebraOfRow.holds Try.pinned (OpenSpec.ofChange fnExactAlgebraOfSpec)

/-- ITS FALSE NEIGHBOUR: 'it returns false'. Refute it at one input. -/
def fnExactAlgebraOfWrong : ChangeSpec := { name := "fnExactAlgebraOf", fn := fun _ => fun
  | [d] => { results := [.lit (.bool false)], args := [d] }
  | _ => none }
def FnExactAlgebraOfWrongFalsely : Prop := fnExactAlgebraOfRow.holds Try.pinned (OpenSpec.ofChange fnExactAlgebraOfWrong)

/-- 'laws.FnExactCoalgebraOf': WHATEVER THE INPUT: true; the input reads as it did. -/
def fnExactCoalgebraOfSpec : ChangeSpec := { name := "fnExactCoalgebraOf", fn := fun _ => fun
  | [d] => { results := [.lit (.bool true)], args := [d] }
  | _ => none }
def fnExactCoalgebraOfRow : OpenClaim := { program := "ytmdggecfooapoaa", sum := "b8fa4084d31101dcd55b5a62c038e35a8cded563b52f889ab4a956da5539e3c5", func := "loop.example/g01230/laws.FnExactCoalgebraOf", spec := "fnExactCoalgebraOf", unfollowed := true, recurses := true, apart := false }
def FnExactCoalgebraOfSaid : Prop := fnExactCoalgebraOfRow.holds Try.pinned (OpenSpec.ofChange fnExactCoalgebraOfSpec)

/-- ITS FALSE NEIGHBOUR: 'it returns false'. Refute it at one input. -/
def fnExactCoalgebraOfWrong : ChangeSpec := { name := "fnExactCoalgebraOf", fn := fun _ => fun
  | [d] => { results := [.lit (.bool false)], args := [d] }
  | _ => none }
def FnExactCoalgebraOfWrongFalsely : Prop := fnExactCoalgebraOfRow.holds Try.pinned (OpenSpec.ofChange fnExactCoalgebraOfWrong)

/-- 'laws.FnExactAdjointAction': WHATEVER THE INPUT: true; the input reads as it did. -/
def fnExactAdjointActionSpec : ChangeSpec := { name := "fnExactAdjointAction", fn := fun _ => fun
  | [d1, d2, d3, d4] => { results := [.lit (.bool true)], args := [d1, d2, d3, d4] }
  | _ => none }
def fnExactAdjointActionRow : OpenClaim := { program := "ytmdggecfooapoaa", sum := "b8fa4084d31101dcd55b5a62c038e35a8cded563b52f889ab4a956da5539e3c5", func := "loop.example/g01230/laws.FnExactAdjointAction", spec := "fnExactAdjointAction", unfollowed := true, recurses := true, apart := false }
def FnExactAdjointActionSaid : Prop := fnExactAdjointActionRow.holds Try.pinned (OpenSpec.ofChange fnExactAdjointActionSpec)

/-- ITS FALSE NEIGHBOUR: 'it returns false'. Refute it at one input. -/
def fnExactAdjointActionWrong : ChangeSpec := { name := "fnExactAdjointAction", fn := fun _ => fun
  | [d1, d2, d3, d4] => { results := [.lit (.bool false)], args := [d1, d2, d3, d4] }
  | _ => none }
def FnExactAdjointActionWrongFalsely : Prop := fnExactAdjointActionRow.holds Try.pinned (OpenSpec.ofChange fnExactAdjointActionWrong)

/-- 'laws.FnExactOrderOfAntipode': WHATEVER THE INPUT: true; the input reads as it did. -/
def fnExactOrderOfAntipodeSpec : ChangeSpec := { name := "fnExactOrderOfAntipode", fn := fun _ => fun
  | [d] => { results := [.lit (.bool true)], args := [d] }
  | _ => none }
def fnExactOrderOfAntipodeRow : OpenClaim := { program := "ytmdggecfooapoaa", sum := "b8fa4084d31101dcd55b5a62c038e35a8cded563b52f889ab4a956da5539e3c5", func := "loop.example/g01230/laws.FnExactOrderOfAntipode", spec := "fnExactOrderOfAntipode", unfollowed := true, recurses := true, apart := false }
def FnExactOrderOfAntipodeSaid : Prop := fnExactOrderOfAntipodeRow.holds Try.pinned (OpenSpec.ofChange fnExactOrderOfAntipodeSpec)

/-- ITS FALSE NEIGHBOUR: 'it returns false'. Refute it at one input. -/
def fnExactOrderOfAntipodeWrong : ChangeSpec := { name := "fnExactOrderOfAntipode", fn := fun _ => fun
  | [d] => { results := [.lit (.bool false)], args := [d] }
  | _ => none }
def FnExactOrderOfAntipodeWrongFalsely : Prop := fnExactOrderOfAntipodeRow.holds Try.pinned (OpenSpec.ofChange fnExactOrderOfAntipodeWrong)

/- THE SECOND FORM. 'bulk': how many values and letters a reading holds, each counted each time it is reached (what is shared counts as often as it is met; a slice's spare places count too). A statement '..UptoSaid' is the law's where the arguments, and the package variables that the reading takes, are together of bulk at most 1048576: NARROWER than '..Said'. Prove '..Said' where nothing that the law and all that it calls make is longer than what came in: it says more and counts as full. Else prove '..UptoSaid'. A law counts once. -/
mutual
def uptoBulk {H : Type} : DataW H → Nat
  | .lit (.string bytes) => bytes.length + 1
  | .lit _ => 1
  | .nil => 1
  | .ptr d => uptoBulk d + 1
  | .slice elems spare => uptoBulkAll elems + uptoBulkAll spare + 1
  | .agg parts => uptoBulkAll parts + 1
  | .iface _ d => uptoBulk d + 1
  | .map entries => uptoBulkEntries entries + 1
  | .held _ => 1
def uptoBulkAll {H : Type} : List (DataW H) → Nat
  | [] => 0
  | d :: r => uptoBulk d + uptoBulkAll r
def uptoBulkEntries {H : Type} : List (Lit × DataW H) → Nat
  | [] => 0
  | x :: r => uptoBulkEntry x + uptoBulkEntries r
def uptoBulkEntry {H : Type} : Lit × DataW H → Nat
  | (.string bytes, d) => bytes.length + uptoBulk d + 1
  | (_, d) => uptoBulk d + 1
 end
def uptoSmall : (H : Type) → List (DataW H) → Bool := fun _ ds => decide (uptoBulkAll ds ≤ 1048576)
def OpenSpec.upto (s : _root_.Go.ChangeSpec) : _root_.Go.OpenSpec := { _root_.Go.OpenSpec.ofChange s with cond := some uptoSmall }

/-- 'laws.FnExactRegularModule', WHERE WHAT IT READS IS OF BULK AT MOST 1048576: true; the input reads as it did. -/
def fnExactRegularModuleUptoRow : OpenClaim := { program := "ytmdggecfooapoaa", sum := "b8fa4084d31101dcd55b5a62c038e35a8cded563b52f889ab4a956da5539e3c5", func := "loop.example/g01230/laws.FnExactRegularModule", spec := "fnExactRegularModule", unfollowed := true, recurses := true, apart := false, narrowed := true }
def FnExactRegularModuleUptoSaid : Prop := fnExactRegularModuleUptoRow.holds Try.pinned (OpenSpec.upto fnExactRegularModuleSpec)

/-- 'laws.FnExactTraceOfSquare', WHERE WHAT IT READS IS OF BULK AT MOST 1048576: true; the input reads as it did. -/
def fnExactTraceOfSquareUptoRow : OpenClaim := { program := "ytmdggecfooapoaa", sum := "b8fa4084d31101dcd55b5a62c038e35a8cded563b52f889ab4a956da5539e3c5", func := "loop.example/g01230/laws.FnExactTraceOfSquare", spec := "fnExactTraceOfSquare", unfollowed := true, recurses := true, apart := false, narrowed := true }
def FnExactTraceOfSquareUptoSaid : Prop := fnExactTraceOfSquareUptoRow.holds Try.pinned (OpenSpec.upto fnExactTraceOfSquareSpec)

/-- 'laws.FnExactAlgebraOf', WHERE WHAT IT READS IS OF BULK AT MOST 1048576: true; the input reads as it did. -/
def fnExactAlgebraOfUptoRow : OpenClaim := { program := "ytmdggecfooapoaa", sum := "b8fa4084d31101dcd55b5a62c038e35a8cded563b52f889ab4a956da5539e3c5", func := "loop.example/g01230/laws.FnExactAlgebraOf", spec := "fnExactAlgebraOf", unfollowed := true, recurses := true, apart := false, narrowed := true }
def FnExactAlgebraOfUptoSaid : Prop := fnExactAlgebraOfUptoRow.holds Try.pinned (OpenSpec.upto fnExactAlgebraOfSpec)

/-- 'laws.FnExactCoalgebraOf', WHERE WHAT IT READS IS OF BULK AT MOST 1048576: true; the input reads as it did. -/
def fnExactCoalgebraOfUptoRow : OpenClaim := { program := "ytmdggecfooapoaa", sum := "b8fa4084d31101dcd55b5a62c038e35a8cded563b52f889ab4a956da5539e3c5", func := "loop.example/g01230/laws.FnExactCoalgebraOf", spec := "fnExactCoalgebraOf", unfollowed := true, recurses := true, apart := false, narrowed := true }
def FnExactCoalgebraOfUptoSaid : Prop := fnExactCoalgebraOfUptoRow.holds Try.pinned (OpenSpec.upto fnExactCoalgebraOfSpec)

/-- 'laws.FnExactAdjointAction', WHERE WHAT IT READS IS OF BULK AT MOST 1048576: true; the input reads as it did. -/
def fnExactAdjointActionUptoRow : OpenClaim := { program := "ytmdggecfooapoaa", sum := "b8fa4084d31101dcd55b5a62c038e35a8cded563b52f889ab4a956da5539e3c5", func := "loop.example/g01230/laws.FnExactAdjointAction", spec := "fnExactAdjointAction", unfollowed := true, recurses := true, apart := false, narrowed := true }
def FnExactAdjointActionUptoSaid : Prop := fnExactAdjointActionUptoRow.holds Try.pinned (OpenSpec.upto fnExactAdjointActionSpec)

/-- 'laws.FnExactOrderOfAntipode', WHERE WHAT IT READS IS OF BULK AT MOST 1048576: true; the input reads as it did. -/
def fnExactOrderOfAntipodeUptoRow : OpenClaim := { program := "ytmdggecfooapoaa", sum := "b8fa4084d31101dcd55b5a62c038e35a8cded563b52f889ab4a956da5539e3c5", func := "loop.example/g01230/laws.FnExactOrderOfAntipode", spec := "fnExactOrderOfAntipode", unfollowed := true, recurses := true, apart := false, narrowed := true }
def FnExactOrderOfAntipodeUptoSaid : Prop := fnExactOrderOfAntipodeUptoRow.holds Try.pinned (OpenSpec.upto fnExactOrderOfAntipodeSpec)

end Rows
end Go.Proofs.Ytmdggecfooapoaa
