/-
  No cell of these rows narrows 'for every input' (looked for: loops, veiled, ifaces, maps, wideKeys, modest, calm, conditions, laid).
  DERIVED. THE GIVEN ROWS OF THIS SEAT. 6 by the template 'for every input the law returns true; each argument reads behind the call as it read before'; 0 by the template 'total and deterministic' (their statements: YthdbminhgcebgaaGreatTotals.lean).
  GIVEN WITH THE SEED: the statements are not yours to turn. If you find one false, say at which input.
  Laid BY PROGRAM, IN A SANDBOX (cutbox-rows.mjs): the forced cells as the released guide's own fill.sh prints them over the translation 369e93840863582d… (all of the seat's roots in one cut). By AI agents, Wed Nov 11 2026. No macro, syntax, notation, axiom, sorry.
-/
import Derived.Test.YthdbminhgcebgaaGreatChecked
import GoSem.Claim
import GoSem.ClaimJoined
import GoSem.ClaimMapViews
import Derived.JoinedTies
import Derived.KernelRfl
namespace Go.Proofs.YthdbminhgcebgaaGreat
/- THE CELL 'sum', in the pinned program and in every row, IS THE sha256 OF THE DUMP (.gsa) THAT YthdbminhgcebgaaGreatProg.lean LOADS. Nothing in Lean hashes anything: it is a label: what it is worth is what the hold of that sum in a sandbox is worth. -/
noncomputable def Tryz.pinned : Pinned := { name := "ythdbminhgcebgaagreat", sum := "369e93840863582de490db43f3e06ab0d36b3e780d4e5477ef3604e82fe17540", checked := Tryz.checked }
namespace Rows
def none {H : Type} : Left H := { results := [], args := [] }

/-- 'laws.FnExactLeftIntegral': WHATEVER THE INPUT: true; the input reads as it did. -/
def fnExactLeftIntegralSpec : ChangeSpec := { name := "fnExactLeftIntegral", fn := fun _ => fun
  | [d] => { results := [.lit (.bool true)], args := [d] }
  | _ => none }
def fnExactLeftIntegralRow : OpenClaim := { program := "ythdbminhgcebgaagreat", sum := "369e93840863582de490db43f3e06ab0d36b3e780d4e5477ef3604e82fe17540", func := "loop.example/g01230/laws.FnExactLeftIntegral", spec := "fnExactLeftIntegral", unfollowed := true, recurses := true, apart := false }
def FnExactLeftIntegralSaid : Prop := fnExactLeftIntegralRow.holds Tryz.pinned (OpenSpec.ofChange fnExactLeftIntegralSpec)

/-- ITS FALSE NEIGHBOUR: 'it returns false'. Refute it at one input. -/
def fnExactLeftIntegralWrong : ChangeSpec := { name := "fnExactLeftIntegral", fn := fun _ => fun
  | [d] => { results := [.lit (.bool false)], args := [d] }
  | _ => none }
def FnExactLeftIntegralWrongFalsely : Prop := fnExactLeftIntegralRow.holds Tryz.pinned (OpenSpec.ofChange fnExactLeftIntegralWrong)

/-- 'laws.FnExactRightIntegral': WHATEVER THE INPUT: true; the input reads as it did. -/
def fnExactRightIntegralSpec : ChangeSpec := { name := "fnExactRightIntegral", fn := fun _ => fun
  | [d] => { results := [.lit (.bool true)], args := [d] }
  | _ => none }
def fnExactRightIntegralRow : OpenClaim := { program := "ythdbminhgcebgaagreat", sum := "369e93840863582de490db43f3e06ab0d36b3e780d4e5477ef3604e82fe17540", func := "loop.example/g01230/laws.FnExactRightIntegral", spec := "fnExactRightIntegral", unfollowed := true, recurses := true, apart := false }
def FnExactRightIntegralSaid : Prop := fnExactRightIntegralRow.holds Tryz.pinned (OpenSpec.ofChange fnExactRightIntegralSpec)

/-- ITS FALSE NEIGHBOUR: 'it returns false'. Refute it at one input. -/
def fnExactRightIntegralWrong : ChangeSpec := { name := "fnExactRightIntegral", fn := fun _ => fun
  | [d] => { results := [.lit (.bool false)], args := [d] }
  | _ => none }
def FnExactRightIntegralWrongFalsely : Prop := fnExactRightIntegralRow.holds Tryz.pinned (OpenSpec.ofChange fnExactRightIntegralWrong)

/-- 'laws.FnExactIsUnimodular': WHATEVER THE INPUT: true; the input reads as it did. -/
def fnExactIsUnimodularSpec : ChangeSpec := { name := "fnExactIsUnimodular", fn := fun _ => fun
  | [d] => { results := [.lit (.bool true)], args := [d] }
  | _ => none }
def fnExactIsUnimodularRow : OpenClaim := { program := "ythdbminhgcebgaagreat", sum := "369e93840863582de490db43f3e06ab0d36b3e780d4e5477ef3604e82fe17540", func := "loop.example/g01230/laws.FnExactIsUnimodular", spec := "fnExactIsUnimodular", unfollowed := true, recurses := true, apart := false }
def FnExactIsUnimodularSaid : Prop := fnExactIsUnimodularRow.holds Tryz.pinned (OpenSpec.ofChange fnExactIsUnimodularSpec)

/-- ITS FALSE NEIGHBOUR: 'it returns false'. Refute it at one input. -/
def fnExactIsUnimodularWrong : ChangeSpec := { name := "fnExactIsUnimodular", fn := fun _ => fun
  | [d] => { results := [.lit (.bool false)], args := [d] }
  | _ => none }
def FnExactIsUnimodularWrongFalsely : Prop := fnExactIsUnimodularRow.holds Tryz.pinned (OpenSpec.ofChange fnExactIsUnimodularWrong)

/-- 'laws.FnExactIsSemisimple': WHATEVER THE INPUT: true; the input reads as it did. -/
def fnExactIsSemisimpleSpec : ChangeSpec := { name := "fnExactIsSemisimple", fn := fun _ => fun
  | [d] => { results := [.lit (.bool true)], args := [d] }
  | _ => none }
def fnExactIsSemisimpleRow : OpenClaim := { program := "ythdbminhgcebgaagreat", sum := "369e93840863582de490db43f3e06ab0d36b3e780d4e5477ef3604e82fe17540", func := "loop.example/g01230/laws.FnExactIsSemisimple", spec := "fnExactIsSemisimple", unfollowed := true, recurses := true, apart := false }
def FnExactIsSemisimpleSaid : Prop := fnExactIsSemisimpleRow.holds Tryz.pinned (OpenSpec.ofChange fnExactIsSemisimpleSpec)

/-- ITS FALSE NEIGHBOUR: 'it returns false'. Refute it at one input. -/
def fnExactIsSemisimpleWrong : ChangeSpec := { name := "fnExactIsSemisimple", fn := fun _ => fun
  | [d] => { results := [.lit (.bool false)], args := [d] }
  | _ => none }
def FnExactIsSemisimpleWrongFalsely : Prop := fnExactIsSemisimpleRow.holds Tryz.pinned (OpenSpec.ofChange fnExactIsSemisimpleWrong)

/-- 'laws.FnExactNormedIntegral': WHATEVER THE INPUT: true; the input reads as it did. -/
def fnExactNormedIntegralSpec : ChangeSpec := { name := "fnExactNormedIntegral", fn := fun _ => fun
  | [d] => { results := [.lit (.bool true)], args := [d] }
  | _ => none }
def fnExactNormedIntegralRow : OpenClaim := { program := "ythdbminhgcebgaagreat", sum := "369e93840863582de490db43f3e06ab0d36b3e780d4e5477ef3604e82fe17540", func := "loop.example/g01230/laws.FnExactNormedIntegral", spec := "fnExactNormedIntegral", unfollowed := true, recurses := true, apart := false }
def FnExactNormedIntegralSaid : Prop := fnExactNormedIntegralRow.holds Tryz.pinned (OpenSpec.ofChange fnExactNormedIntegralSpec)

/-- ITS FALSE NEIGHBOUR: 'it returns false'. Refute it at one input. -/
def fnExactNormedIntegralWrong : ChangeSpec := { name := "fnExactNormedIntegral", fn := fun _ => fun
  | [d] => { results := [.lit (.bool false)], args := [d] }
  | _ => none }
def FnExactNormedIntegralWrongFalsely : Prop := fnExactNormedIntegralRow.holds Tryz.pinned (OpenSpec.ofChange fnExactNormedIntegralWrong)

/-- 'laws.FnExactModularForm': WHATEVER THE INPUT: true; the input reads as it did. -/
def fnExactModularFormSpec : ChangeSpec := { name := "fnExactModularForm", fn := fun _ => fun
  | [d] => { results := [.lit (.bool true)], args := [d] }
  | _ => none }
def fnExactModularFormRow : OpenClaim := { program := "ythdbminhgcebgaagreat", sum := "369e93840863582de490db43f3e06ab0d36b3e780d4e5477ef3604e82fe17540", func := "loop.example/g01230/laws.FnExactModularForm", spec := "fnExactModularForm", unfollowed := true, recurses := true, apart := false }
def FnExactModularFormSaid : Prop := fnExactModularFormRow.holds Tryz.pinned (OpenSpec.ofChange fnExactModularFormSpec)

/-- ITS FALSE NEIGHBOUR: 'it returns false'. Refute it at one input. -/
def fnExactModularFormWrong : ChangeSpec := { name := "fnExactModularForm", fn := fun _ => fun
  | [d] => { results := [.lit (.bool false)], args := [d] }
  | _ => none }
def FnExactModularFormWrongFalsely : Prop := fnExactModularFormRow.holds Tryz.pinned (OpenSpec.ofChange fnExactModularFormWrong)

/- THE SECOND FORM. 'bulk': how many values and letters a reading holds, each counted each time it is reached (what is shared counts as often as it is met; a slice's spare places count too). A statement '..UptoSaid' is the law's where the arguments, and the package variables that the reading takes, are together of bulk at most 1048576: NARROWER than '..Said'. Prove '..Said' where nothing that the law and all that it calls make is longer than what came in: it says more and counts as full. Else prove '..UptoSaid'. A law counts once. -/
mutual
def uptoBulk {H : Type} : DataW H → Nat
  | .lit (.string bytes) => bytes.length + 1
  | .lit _ => 1
  | .nil => 1
  | .ptr d => uptoBulk d + 1
  | .slice elems spare => uptoBulkAll elems + uptoBulkAll spare + 1
  | .agg parts => uptoBulkAll parts + 1
  | .iface _ d => uptoBulk d + 1
  | .map entries => uptoBulkEntries entries + 1
  | .held _ => 1
def uptoBulkAll {H : Type} : List (DataW H) → Nat
  | [] => 0
  | d :: r => uptoBulk d + uptoBulkAll r
def uptoBulkEntries {H : Type} : List (Lit × DataW H) → Nat
  | [] => 0
  | x :: r => uptoBulkEntry x + uptoBulkEntries r
def uptoBulkEntry {H : Type} : Lit × DataW H → Nat
  | (.string bytes, d) => bytes.length + uptoBulk d + 1
  | (_, d) => uptoBulk d + 1
 end
def uptoSmall : (H : Type) → List (DataW H) → Bool := fun _ ds => decide (uptoBulkAll ds ≤ 1048576)
def OpenSpec.upto (s : _root_.Go.ChangeSpec) : _root_.Go.OpenSpec := { _root_.Go.OpenSpec.ofChange s with cond := some uptoSmall }

/-- 'laws.FnExactLeftIntegral', WHERE WHAT IT READS IS OF BULK AT MOST 1048576: true; the input reads as it did. -/
def fnExactLeftIntegralUptoRow : OpenClaim := { program := "ythdbminhgcebgaagreat", sum := "369e93840863582de490db43f3e06ab0d36b3e780d4e5477ef3604e82fe17540", func := "loop.example/g01230/laws.FnExactLeftIntegral", spec := "fnExactLeftIntegral", unfollowed := true, recurses := true, apart := false, narrowed := true }
def FnExactLeftIntegralUptoSaid : Prop := fnExactLeftIntegralUptoRow.holds Tryz.pinned (OpenSpec.upto fnExactLeftIntegralSpec)

/-- 'laws.FnExactRightIntegral', WHERE WHAT IT READS IS OF BULK AT MOST 1048576: true; the input reads as it did. -/
def fnExactRightIntegralUptoRow : OpenClaim := { program := "ythdbminhgcebgaagreat", sum := "369e93840863582de490db43f3e06ab0d36b3e780d4e5477ef3604e82fe17540", func := "loop.example/g01230/laws.FnExactRightIntegral", spec := "fnExactRightIntegral", unfollowed := true, recurses := true, apart := false, narrowed := true }
def FnExactRightIntegralUptoSaid : Prop := fnExactRightIntegralUptoRow.holds Tryz.pinned (OpenSpec.upto fnExactRightIntegralSpec)

/-- 'laws.FnExactIsUnimodular', WHERE WHAT IT READS IS OF BULK AT MOST 1048576: true; the input reads as it did. -/
def fnExactIsUnimodularUptoRow : OpenClaim := { program := "ythdbminhgcebgaagreat", sum := "369e93840863582de490db43f3e06ab0d36b3e780d4e5477ef3604e82fe17540", func := "loop.example/g01230/laws.FnExactIsUnimodular", spec := "fnExactIsUnimodular", unfollowed := true, recurses := true, apart := false, narrowed := true }
def FnExactIsUnimodularUptoSaid : Prop := fnExactIsUnimodularUptoRow.holds Tryz.pinned (OpenSpec.upto fnExactIsUnimodularSpec)

/-- 'laws.FnExactIsSemisimple', WHERE WHAT IT READS IS OF BULK AT MOST 1048576: true; the input reads as it did. -/
def fnExactIsSemisimpleUptoRow : OpenClaim := { program := "ythdbminhgcebgaagreat", sum := "369e93840863582de490db43f3e06ab0d36b3e780d4e5477ef3604e82fe17540", func := "loop.example/g01230/laws.FnExactIsSemisimple", spec := "fnExactIsSemisimple", unfollowed := true, recurses := true, apart := false, narrowed := true }
def FnExactIsSemisimpleUptoSaid : Prop := fnExactIsSemisimpleUptoRow.holds Tryz.pinned (OpenSpec.upto fnExactIsSemisimpleSpec)

/-- 'laws.FnExactNormedIntegral', WHERE WHAT IT READS IS OF BULK AT MOST 1048576: true; the input reads as it did. -/
def fnExactNormedIntegralUptoRow : OpenClaim := { program := "ythdbminhgcebgaagreat", sum := "369e93840863582de490db43f3e06ab0d36b3e780d4e5477ef3604e82fe17540", func := "loop.example/g01230/laws.FnExactNormedIntegral", spec := "fnExactNormedIntegral", unfollowed := true, recurses := true, apart := false, narrowed := true }
def FnExactNormedIntegralUptoSaid : Prop := fnExactNormedIntegralUptoRow.holds Tryz.pinned (OpenSpec.upto fnExactNormedIntegralSpec)

/-- 'laws.FnExactModularForm', WHERE WHAT IT READS IS OF BULK AT MOST 1048576: true; the input reads as it did. -/
def fnExactModularFormUptoRow : OpenClaim := { program := "ythdbminhgcebgaagreat", sum := "369e93840863582de490db43f3e06ab0d36b3e780d4e5477ef3604e82fe17540", func := "loop.example/g01230/laws.FnExactModularForm", spec := "fnExactModularForm", unfollowed := true, recurses := true, apart := false, narrowed := true }
def FnExactModularFormUptoSaid : Prop := fnExactModularFormUptoRow.holds Tryz.pinned (OpenSpec.upto fnExactModularFormSpec)

end Rows
end Go.Proofs.YthdbminhgcebgaaGreat
