/-
  No cell of these rows narrows 'for every input' (looked for: loops, veiled, ifaces, maps, wideKeys, modest, calm, conditions, laid).
  DERIVED. THE GIVEN ROWS OF THIS SEAT. 5 by the template 'for every input the law returns true; each argument reads behind the call as it read before'; 0 by the template 'total and deterministic' (their statements: YtnfgffimhflnbaaGreatTotals.lean).
  GIVEN WITH THE SEED: the statements are not yours to turn. If you find one false, say at which input.
  Laid BY PROGRAM, IN A SANDBOX (cutbox-rows.mjs): the forced cells as the released guide's own fill.sh prints them over the translation a9cd39c2c6e8b0c1… (all of the seat's roots in one cut). By AI agents, Wed Nov 11 2026. No macro, syntax, notation, axiom, sorry.
-/
import Derived.Test.YtnfgffimhflnbaaGreatChecked
import GoSem.Claim
import GoSem.ClaimJoined
import GoSem.ClaimMapViews
import Derived.JoinedTies
import Derived.KernelRfl
namespace Go.Proofs.YtnfgffimhflnbaaGreat
/- THE CELL 'sum', in the pinned program and in every row, IS THE sha256 OF THE DUMP (.gsa) THAT YtnfgffimhflnbaaGreatProg.lean LOADS. Nothing in Lean hashes anything: it is a label: what it is worth is what the hold of that sum in a sandbox is worth. -/
noncomputable def Tryz.pinned : Pinned := { name := "ytnfgffimhflnbaagreat", sum := "a9cd39c2c6e8b0c1f3dbbb43add8423e88aee970493651e2e48b1fa9cf899dc3", checked := Tryz.checked }
namespace Rows
def none {H : Type} : Left H := { results := [], args := [] }

/-- 'laws.FnExactDualModule': WHATEVER THE INPUT: true; the input reads as it did. -/
def fnExactDualModuleSpec : ChangeSpec := { name := "fnExactDualModule", fn := fun _ => fun
  | [d1, d2] => { results := [.lit (.bool true)], args := [d1, d2] }
  | _ => none }
def fnExactDualModuleRow : OpenClaim := { program := "ytnfgffimhflnbaagreat", sum := "a9cd39c2c6e8b0c1f3dbbb43add8423e88aee970493651e2e48b1fa9cf899dc3", func := "loop.example/g01230/laws.FnExactDualModule", spec := "fnExactDualModule", unfollowed := true, recurses := true, apart := false }
def FnExactDualModuleSaid : Prop := fnExactDualModuleRow.holds Tryz.pinned (OpenSpec.ofChange fnExactDualModuleSpec)

/-- ITS FALSE NEIGHBOUR: 'it returns false'. Refute it at one input. -/
def fnExactDualModuleWrong : ChangeSpec := { name := "fnExactDualModule", fn := fun _ => fun
  | [d1, d2] => { results := [.lit (.bool false)], args := [d1, d2] }
  | _ => none }
def FnExactDualModuleWrongFalsely : Prop := fnExactDualModuleRow.holds Tryz.pinned (OpenSpec.ofChange fnExactDualModuleWrong)

/-- 'laws.FnExactSumModule': WHATEVER THE INPUT: true; the input reads as it did. -/
def fnExactSumModuleSpec : ChangeSpec := { name := "fnExactSumModule", fn := fun _ => fun
  | [d1, d2, d3] => { results := [.lit (.bool true)], args := [d1, d2, d3] }
  | _ => none }
def fnExactSumModuleRow : OpenClaim := { program := "ytnfgffimhflnbaagreat", sum := "a9cd39c2c6e8b0c1f3dbbb43add8423e88aee970493651e2e48b1fa9cf899dc3", func := "loop.example/g01230/laws.FnExactSumModule", spec := "fnExactSumModule", unfollowed := true, recurses := true, apart := false }
def FnExactSumModuleSaid : Prop := fnExactSumModuleRow.holds Tryz.pinned (OpenSpec.ofChange fnExactSumModuleSpec)

/-- ITS FALSE NEIGHBOUR: 'it returns false'. Refute it at one input. -/
def fnExactSumModuleWrong : ChangeSpec := { name := "fnExactSumModule", fn := fun _ => fun
  | [d1, d2, d3] => { results := [.lit (.bool false)], args := [d1, d2, d3] }
  | _ => none }
def FnExactSumModuleWrongFalsely : Prop := fnExactSumModuleRow.holds Tryz.pinned (OpenSpec.ofChange fnExactSumModuleWrong)

/-- 'laws.FnExactIsModuleAlgebra': WHATEVER THE INPUT: true; the input reads as it did. -/
def fnExactIsModuleAlgebraSpec : ChangeSpec := { name := "fnExactIsModuleAlgebra", fn := fun _ => fun
  | [d1, d2, d3] => { results := [.lit (.bool true)], args := [d1, d2, d3] }
  | _ => none }
def fnExactIsModuleAlgebraRow : OpenClaim := { program := "ytnfgffimhflnbaagreat", sum := "a9cd39c2c6e8b0c1f3dbbb43add8423e88aee970493651e2e48b1fa9cf899dc3", func := "loop.example/g01230/laws.FnExactIsModuleAlgebra", spec := "fnExactIsModuleAlgebra", unfollowed := true, recurses := true, apart := false }
def FnExactIsModuleAlgebraSaid : Prop := fnExactIsModuleAlgebraRow.holds Tryz.pinned (OpenSpec.ofChange fnExactIsModuleAlgebraSpec)

/-- ITS FALSE NEIGHBOUR: 'it returns false'. Refute it at one input. -/
def fnExactIsModuleAlgebraWrong : ChangeSpec := { name := "fnExactIsModuleAlgebra", fn := fun _ => fun
  | [d1, d2, d3] => { results := [.lit (.bool false)], args := [d1, d2, d3] }
  | _ => none }
def FnExactIsModuleAlgebraWrongFalsely : Prop := fnExactIsModuleAlgebraRow.holds Tryz.pinned (OpenSpec.ofChange fnExactIsModuleAlgebraWrong)

/-- 'laws.FnExactTensorModule': WHATEVER THE INPUT: true; the input reads as it did. -/
def fnExactTensorModuleSpec : ChangeSpec := { name := "fnExactTensorModule", fn := fun _ => fun
  | [d1, d2, d3] => { results := [.lit (.bool true)], args := [d1, d2, d3] }
  | _ => none }
def fnExactTensorModuleRow : OpenClaim := { program := "ytnfgffimhflnbaagreat", sum := "a9cd39c2c6e8b0c1f3dbbb43add8423e88aee970493651e2e48b1fa9cf899dc3", func := "loop.example/g01230/laws.FnExactTensorModule", spec := "fnExactTensorModule", unfollowed := true, recurses := true, apart := false }
def FnExactTensorModuleSaid : Prop := fnExactTensorModuleRow.holds Tryz.pinned (OpenSpec.ofChange fnExactTensorModuleSpec)

/-- ITS FALSE NEIGHBOUR: 'it returns false'. Refute it at one input. -/
def fnExactTensorModuleWrong : ChangeSpec := { name := "fnExactTensorModule", fn := fun _ => fun
  | [d1, d2, d3] => { results := [.lit (.bool false)], args := [d1, d2, d3] }
  | _ => none }
def FnExactTensorModuleWrongFalsely : Prop := fnExactTensorModuleRow.holds Tryz.pinned (OpenSpec.ofChange fnExactTensorModuleWrong)

/-- 'laws.FnExactSmashProduct': WHATEVER THE INPUT: true; the input reads as it did. -/
def fnExactSmashProductSpec : ChangeSpec := { name := "fnExactSmashProduct", fn := fun _ => fun
  | [d1, d2, d3] => { results := [.lit (.bool true)], args := [d1, d2, d3] }
  | _ => none }
def fnExactSmashProductRow : OpenClaim := { program := "ytnfgffimhflnbaagreat", sum := "a9cd39c2c6e8b0c1f3dbbb43add8423e88aee970493651e2e48b1fa9cf899dc3", func := "loop.example/g01230/laws.FnExactSmashProduct", spec := "fnExactSmashProduct", unfollowed := true, recurses := true, apart := false }
def FnExactSmashProductSaid : Prop := fnExactSmashProductRow.holds Tryz.pinned (OpenSpec.ofChange fnExactSmashProductSpec)

/-- ITS FALSE NEIGHBOUR: 'it returns false'. Refute it at one input. -/
def fnExactSmashProductWrong : ChangeSpec := { name := "fnExactSmashProduct", fn := fun _ => fun
  | [d1, d2, d3] => { results := [.lit (.bool false)], args := [d1, d2, d3] }
  | _ => none }
def FnExactSmashProductWrongFalsely : Prop := fnExactSmashProductRow.holds Tryz.pinned (OpenSpec.ofChange fnExactSmashProductWrong)

/- THE SECOND FORM. 'bulk': how many values and letters a reading holds, each counted each time it is reached (what is shared counts as often as it is met; a slice's spare places count too). A statement '..UptoSaid' is the law's where the arguments, and the package variables that the reading takes, are together of bulk at most 1048576: NARROWER than '..Said'. Prove '..Said' where nothing that the law and all that it calls make is longer than what came in: it says more and counts as full. Else prove '..UptoSaid'. A law counts once. -/
mutual
def uptoBulk {H : Type} : DataW H → Nat
  | .lit (.string bytes) => bytes.length + 1
  | .lit _ => 1
  | .nil => 1
  | .ptr d => uptoBulk d + 1
  | .slice elems spare => uptoBulkAll elems + uptoBulkAll spare + 1
  | .agg parts => uptoBulkAll parts + 1
  | .iface _ d => uptoBulk d + 1
  | .map entries => uptoBulkEntries entries + 1
  | .held _ => 1
def uptoBulkAll {H : Type} : List (DataW H) → Nat
  | [] => 0
  | d :: r => uptoBulk d + uptoBulkAll r
def uptoBulkEntries {H : Type} : List (Lit × DataW H) → Nat
  | [] => 0
  | x :: r => uptoBulkEntry x + uptoBulkEntries r
def uptoBulkEntry {H : Type} : Lit × DataW H → Nat
  | (.string bytes, d) => bytes.length + uptoBulk d + 1
  | (_, d) => uptoBulk d + 1
 end
def uptoSmall : (H : Type) → List (DataW H) → Bool := fun _ ds => decide (uptoBulkAll ds ≤ 1048576)
def OpenSpec.upto (s : _root_.Go.ChangeSpec) : _root_.Go.OpenSpec := { _root_.Go.OpenSpec.ofChange s with cond := some uptoSmall }

/-- 'laws.FnExactDualModule', WHERE WHAT IT READS IS OF BULK AT MOST 1048576: true; the input reads as it did. -/
def fnExactDualModuleUptoRow : OpenClaim := { program := "ytnfgffimhflnbaagreat", sum := "a9cd39c2c6e8b0c1f3dbbb43add8423e88aee970493651e2e48b1fa9cf899dc3", func := "loop.example/g01230/laws.FnExactDualModule", spec := "fnExactDualModule", unfollowed := true, recurses := true, apart := false, narrowed := true }
def FnExactDualModuleUptoSaid : Prop := fnExactDualModuleUptoRow.holds Tryz.pinned (OpenSpec.upto fnExactDualModuleSpec)

/-- 'laws.FnExactSumModule', WHERE WHAT IT READS IS OF BULK AT MOST 1048576: true; the input reads as it did. -/
def fnExactSumModuleUptoRow : OpenClaim := { program := "ytnfgffimhflnbaagreat", sum := "a9cd39c2c6e8b0c1f3dbbb43add8423e88aee970493651e2e48b1fa9cf899dc3", func := "loop.example/g01230/laws.FnExactSumModule", spec := "fnExactSumModule", unfollowed := true, recurses := true, apart := false, narrowed := true }
def FnExactSumModuleUptoSaid : Prop := fnExactSumModuleUptoRow.holds Tryz.pinned (OpenSpec.upto fnExactSumModuleSpec)

/-- 'laws.FnExactIsModuleAlgebra', WHERE WHAT IT READS IS OF BULK AT MOST 1048576: true; the input reads as it did. -/
def fnExactIsModuleAlgebraUptoRow : OpenClaim := { program := "ytnfgffimhflnbaagreat", sum := "a9cd39c2c6e8b0c1f3dbbb43add8423e88aee970493651e2e48b1fa9cf899dc3", func := "loop.example/g01230/laws.FnExactIsModuleAlgebra", spec := "fnExactIsModuleAlgebra", unfollowed := true, recurses := true, apart := false, narrowed := true }
def FnExactIsModuleAlgebraUptoSaid : Prop := fnExactIsModuleAlgebraUptoRow.holds Tryz.pinned (OpenSpec.upto fnExactIsModuleAlgebraSpec)

/-- 'laws.FnExactTensorModule', WHERE WHAT IT READS IS OF BULK AT MOST 1048576: true; the input reads as it did. -/
def fnExactTensorModuleUptoRow : OpenClaim := { program := "ytnfgffimhflnbaagreat", sum := "a9cd39c2c6e8b0c1f3dbbb43add8423e88aee970493651e2e48b1fa9cf899dc3", func := "loop.example/g01230/laws.FnExactTensorModule", spec := "fnExactTensorModule", unfollowed := true, recurses := true, apart := false, narrowed := true }
def FnExactTensorModuleUptoSaid : Prop := fnExactTensorModuleUptoRow.holds Tryz.pinned (OpenSpec.upto fnExactTensorModuleSpec)

/-- 'laws.FnExactSmashProduct', WHERE WHAT IT READS IS OF BULK AT MOST 1048576: true; the input reads as it did. -/
def fnExactSmashProductUptoRow : OpenClaim := { program := "ytnfgffimhflnbaagreat", sum := "a9cd39c2c6e8b0c1f3dbbb43add8423e88aee970493651e2e48b1fa9cf899dc3", func := "loop.example/g01230/laws.FnExactSmashProduct", spec := "fnExactSmashProduct", unfollowed := true, recurses := true, apart := false, narrowed := true }
def FnExactSmashProductUptoSaid : Prop := fnExactSmashProductUptoRow.holds Tryz.pinned (OpenSpec.upto fnExactSmashProductSpec)

end Rows
end Go.Proofs.YtnfgffimhflnbaaGreat
