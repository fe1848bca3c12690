/-
  No cell of these rows narrows 'for every input' (looked for: loops, veiled, ifaces, maps, wideKeys, modest, calm, conditions, laid).
  DERIVED. THE GIVEN ROWS OF THIS SEAT. 5 by the template 'for every input the law returns true; each argument reads behind the call as it read before'; 0 by the template 'total and deterministic' (their statements: YtmkglhbdhhomhaaTotals.lean).
  GIVEN WITH THE SEED: the statements are not yours to turn. If you find one false, say at which input.
  Laid BY PROGRAM, IN A SANDBOX (cutbox-rows.mjs): the forced cells as the released guide's own fill.sh prints them over the translation 7693744cce89e11f… (all of the seat's roots in one cut). By AI agents, Wed Nov 11 2026. No macro, syntax, notation, axiom, sorry.
-/
import Derived.Test.YtmkglhbdhhomhaaChecked
import GoSem.Claim
import GoSem.ClaimJoined
import GoSem.ClaimMapViews
import Derived.JoinedTies
import Derived.KernelRfl
namespace Go.Proofs.Ytmkglhbdhhomhaa
/- THE CELL 'sum', in the pinned program and in every row, IS THE sha256 OF THE DUMP (.gsa) THAT YtmkglhbdhhomhaaProg.lean LOADS. Nothing in Lean hashes anything: it is a label: what it is worth is what the hold of that sum in a sandbox is worth. -/
noncomputable def Try.pinned : Pinned := { name := "ytmkglhbdhhomhaa", sum := "7693744cce89e11f0f149d773de9b680c02f9fbd7da71f5db1048664183c722b", checked := Try.checked }
namespace Rows
def none {H : Type} : Left H := { results := [], args := [] }

/-- 'laws.FnExactTrivialComodule': WHATEVER THE INPUT: true; the input reads as it did. -/
def fnExactTrivialComoduleSpec : ChangeSpec := { name := "fnExactTrivialComodule", fn := fun _ => fun
  | [d1, d2] => { results := [.lit (.bool true)], args := [d1, d2] }
  | _ => none }
def fnExactTrivialComoduleRow : OpenClaim := { program := "ytmkglhbdhhomhaa", sum := "7693744cce89e11f0f149d773de9b680c02f9fbd7da71f5db1048664183c722b", func := "loop.example/g01230/laws.FnExactTrivialComodule", spec := "fnExactTrivialComodule", unfollowed := true, recurses := true, apart := false }
def FnExactTrivialComoduleSaid : Prop := fnExactTrivialComoduleRow.holds Try.pinned (OpenSpec.ofChange fnExactTrivialComoduleSpec)

/-- ITS FALSE NEIGHBOUR: 'it returns false'. Refute it at one input. -/
def fnExactTrivialComoduleWrong : ChangeSpec := { name := "fnExactTrivialComodule", fn := fun _ => fun
  | [d1, d2] => { results := [.lit (.bool false)], args := [d1, d2] }
  | _ => none }
def FnExactTrivialComoduleWrongFalsely : Prop := fnExactTrivialComoduleRow.holds Try.pinned (OpenSpec.ofChange fnExactTrivialComoduleWrong)

/-- 'laws.FnExactTrivialModule': WHATEVER THE INPUT: true; the input reads as it did. -/
def fnExactTrivialModuleSpec : ChangeSpec := { name := "fnExactTrivialModule", fn := fun _ => fun
  | [d1, d2] => { results := [.lit (.bool true)], args := [d1, d2] }
  | _ => none }
def fnExactTrivialModuleRow : OpenClaim := { program := "ytmkglhbdhhomhaa", sum := "7693744cce89e11f0f149d773de9b680c02f9fbd7da71f5db1048664183c722b", func := "loop.example/g01230/laws.FnExactTrivialModule", spec := "fnExactTrivialModule", unfollowed := true, recurses := true, apart := false }
def FnExactTrivialModuleSaid : Prop := fnExactTrivialModuleRow.holds Try.pinned (OpenSpec.ofChange fnExactTrivialModuleSpec)

/-- ITS FALSE NEIGHBOUR: 'it returns false'. Refute it at one input. -/
def fnExactTrivialModuleWrong : ChangeSpec := { name := "fnExactTrivialModule", fn := fun _ => fun
  | [d1, d2] => { results := [.lit (.bool false)], args := [d1, d2] }
  | _ => none }
def FnExactTrivialModuleWrongFalsely : Prop := fnExactTrivialModuleRow.holds Try.pinned (OpenSpec.ofChange fnExactTrivialModuleWrong)

/-- 'laws.FnExactIsComodule': WHATEVER THE INPUT: true; the input reads as it did. -/
def fnExactIsComoduleSpec : ChangeSpec := { name := "fnExactIsComodule", fn := fun _ => fun
  | [d1, d2] => { results := [.lit (.bool true)], args := [d1, d2] }
  | _ => none }
def fnExactIsComoduleRow : OpenClaim := { program := "ytmkglhbdhhomhaa", sum := "7693744cce89e11f0f149d773de9b680c02f9fbd7da71f5db1048664183c722b", func := "loop.example/g01230/laws.FnExactIsComodule", spec := "fnExactIsComodule", unfollowed := true, recurses := true, apart := false }
def FnExactIsComoduleSaid : Prop := fnExactIsComoduleRow.holds Try.pinned (OpenSpec.ofChange fnExactIsComoduleSpec)

/-- ITS FALSE NEIGHBOUR: 'it returns false'. Refute it at one input. -/
def fnExactIsComoduleWrong : ChangeSpec := { name := "fnExactIsComodule", fn := fun _ => fun
  | [d1, d2] => { results := [.lit (.bool false)], args := [d1, d2] }
  | _ => none }
def FnExactIsComoduleWrongFalsely : Prop := fnExactIsComoduleRow.holds Try.pinned (OpenSpec.ofChange fnExactIsComoduleWrong)

/-- 'laws.FnExactIsModule': WHATEVER THE INPUT: true; the input reads as it did. -/
def fnExactIsModuleSpec : ChangeSpec := { name := "fnExactIsModule", fn := fun _ => fun
  | [d1, d2] => { results := [.lit (.bool true)], args := [d1, d2] }
  | _ => none }
def fnExactIsModuleRow : OpenClaim := { program := "ytmkglhbdhhomhaa", sum := "7693744cce89e11f0f149d773de9b680c02f9fbd7da71f5db1048664183c722b", func := "loop.example/g01230/laws.FnExactIsModule", spec := "fnExactIsModule", unfollowed := true, recurses := true, apart := false }
def FnExactIsModuleSaid : Prop := fnExactIsModuleRow.holds Try.pinned (OpenSpec.ofChange fnExactIsModuleSpec)

/-- ITS FALSE NEIGHBOUR: 'it returns false'. Refute it at one input. -/
def fnExactIsModuleWrong : ChangeSpec := { name := "fnExactIsModule", fn := fun _ => fun
  | [d1, d2] => { results := [.lit (.bool false)], args := [d1, d2] }
  | _ => none }
def FnExactIsModuleWrongFalsely : Prop := fnExactIsModuleRow.holds Try.pinned (OpenSpec.ofChange fnExactIsModuleWrong)

/-- 'laws.FnExactAdjointModule': WHATEVER THE INPUT: true; the input reads as it did. -/
def fnExactAdjointModuleSpec : ChangeSpec := { name := "fnExactAdjointModule", fn := fun _ => fun
  | [d] => { results := [.lit (.bool true)], args := [d] }
  | _ => none }
def fnExactAdjointModuleRow : OpenClaim := { program := "ytmkglhbdhhomhaa", sum := "7693744cce89e11f0f149d773de9b680c02f9fbd7da71f5db1048664183c722b", func := "loop.example/g01230/laws.FnExactAdjointModule", spec := "fnExactAdjointModule", unfollowed := true, recurses := true, apart := false }
def FnExactAdjointModuleSaid : Prop := fnExactAdjointModuleRow.holds Try.pinned (OpenSpec.ofChange fnExactAdjointModuleSpec)

/-- ITS FALSE NEIGHBOUR: 'it returns false'. Refute it at one input. -/
def fnExactAdjointModuleWrong : ChangeSpec := { name := "fnExactAdjointModule", fn := fun _ => fun
  | [d] => { results := [.lit (.bool false)], args := [d] }
  | _ => none }
def FnExactAdjointModuleWrongFalsely : Prop := fnExactAdjointModuleRow.holds Try.pinned (OpenSpec.ofChange fnExactAdjointModuleWrong)

/- THE SECOND FORM. 'bulk': how many values and letters a reading holds, each counted each time it is reached (what is shared counts as often as it is met; a slice's spare places count too). A statement '..UptoSaid' is the law's where the arguments, and the package variables that the reading takes, are together of bulk at most 1048576: NARROWER than '..Said'. Prove '..Said' where nothing that the law and all that it calls make is longer than what came in: it says more and counts as full. Else prove '..UptoSaid'. A law counts once. -/
mutual
def uptoBulk {H : Type} : DataW H → Nat
  | .lit (.string bytes) => bytes.length + 1
  | .lit _ => 1
  | .nil => 1
  | .ptr d => uptoBulk d + 1
  | .slice elems spare => uptoBulkAll elems + uptoBulkAll spare + 1
  | .agg parts => uptoBulkAll parts + 1
  | .iface _ d => uptoBulk d + 1
  | .map entries => uptoBulkEntries entries + 1
  | .held _ => 1
def uptoBulkAll {H : Type} : List (DataW H) → Nat
  | [] => 0
  | d :: r => uptoBulk d + uptoBulkAll r
def uptoBulkEntries {H : Type} : List (Lit × DataW H) → Nat
  | [] => 0
  | x :: r => uptoBulkEntry x + uptoBulkEntries r
def uptoBulkEntry {H : Type} : Lit × DataW H → Nat
  | (.string bytes, d) => bytes.length + uptoBulk d + 1
  | (_, d) => uptoBulk d + 1
 end
def uptoSmall : (H : Type) → List (DataW H) → Bool := fun _ ds => decide (uptoBulkAll ds ≤ 1048576)
def OpenSpec.upto (s : _root_.Go.ChangeSpec) : _root_.Go.OpenSpec := { _root_.Go.OpenSpec.ofChange s with cond := some uptoSmall }

/-- 'laws.FnExactTrivialComodule', WHERE WHAT IT READS IS OF BULK AT MOST 1048576: true; the input reads as it did. -/
def fnExactTrivialComoduleUptoRow : OpenClaim := { program := "ytmkglhbdhhomhaa", sum := "7693744cce89e11f0f149d773de9b680c02f9fbd7da71f5db1048664183c722b", func := "loop.example/g01230/laws.FnExactTrivialComodule", spec := "fnExactTrivialComodule", unfollowed := true, recurses := true, apart := false, narrowed := true }
def FnExactTrivialComoduleUptoSaid : Prop := fnExactTrivialComoduleUptoRow.holds Try.pinned (OpenSpec.upto fnExactTrivialComoduleSpec)

/-- 'laws.FnExactTrivialModule', WHERE WHAT IT READS IS OF BULK AT MOST 1048576: true; the input reads as it did. -/
def fnExactTrivialModuleUptoRow : OpenClaim := { program := "ytmkglhbdhhomhaa", sum := "7693744cce89e11f0f149d773de9b680c02f9fbd7da71f5db1048664183c722b", func := "loop.example/g01230/laws.FnExactTrivialModule", spec := "fnExactTrivialModule", unfollowed := true, recurses := true, apart := false, narrowed := true }
def FnExactTrivialModuleUptoSaid : Prop := fnExactTrivialModuleUptoRow.holds Try.pinned (OpenSpec.upto fnExactTrivialModuleSpec)

/-- 'laws.FnExactIsComodule', WHERE WHAT IT READS IS OF BULK AT MOST 1048576: true; the input reads as it did. -/
def fnExactIsComoduleUptoRow : OpenClaim := { program := "ytmkglhbdhhomhaa", sum := "7693744cce89e11f0f149d773de9b680c02f9fbd7da71f5db1048664183c722b", func := "loop.example/g01230/laws.FnExactIsComodule", spec := "fnExactIsComodule", unfollowed := true, recurses := true, apart := false, narrowed := true }
def FnExactIsComoduleUptoSaid : Prop := fnExactIsComoduleUptoRow.holds Try.pinned (OpenSpec.upto fnExactIsComoduleSpec)

/-- 'laws.FnExactIsModule', WHERE WHAT IT READS IS OF BULK AT MOST 1048576: true; the input reads as it did. -/
def fnExactIsModuleUptoRow : OpenClaim := { program := "ytmkglhbdhhomhaa", sum := "7693744cce89e11f0f149d773de9b680c02f9fbd7da71f5db1048664183c722b", func := "loop.example/g01230/laws.FnExactIsModule", spec := "fnExactIsModule", unfollowed := true, recurses := true, apart := false, narrowed := true }
def FnExactIsModuleUptoSaid : Prop := fnExactIsModuleUptoRow.holds Try.pinned (OpenSpec.upto fnExactIsModuleSpec)

/-- 'laws.FnExactAdjointModule', WHERE WHAT IT READS IS OF BULK AT MOST 1048576: true; the input reads as it did. -/
def fnExactAdjointModuleUptoRow : OpenClaim := { program := "ytmkglhbdhhomhaa", sum := "7693744cce89e11f0f149d773de9b680c02f9fbd7da71f5db1048664183c722b", func := "loop.example/g01230/laws.FnExactAdjointModule", spec := "fnExactAdjointModule", unfollowed := true, recurses := true, apart := false, narrowed := true }
def FnExactAdjointModuleUptoSaid : Prop := fnExactAdjointModuleUptoRow.holds Try.pinned (OpenSpec.upto fnExactAdjointModuleSpec)

end Rows
end Go.Proofs.Ytmkglhbdhhomhaa
