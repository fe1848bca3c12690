/-
  No cell of these rows narrows 'for every input' (looked for: loops, veiled, ifaces, maps, wideKeys, modest, calm, conditions, laid).
  DERIVED. THE GIVEN ROWS OF THIS SEAT. 6 by the template 'for every input the law returns true; each argument reads behind the call as it read before'; 0 by the template 'total and deterministic' (their statements: YtobbbolgodmnoaaGreatTotals.lean).
  GIVEN WITH THE SEED: the statements are not yours to turn. If you find one false, say at which input.
  Laid BY PROGRAM, IN A SANDBOX (cutbox-rows.mjs): the forced cells as the released guide's own fill.sh prints them over the translation fca0376ce00ef5b0… (all of the seat's roots in one cut). By AI agents, Wed Nov 11 2026. No macro, syntax, notation, axiom, sorry.
-/
import Derived.Test.YtobbbolgodmnoaaGreatChecked
import GoSem.Claim
import GoSem.ClaimJoined
import GoSem.ClaimMapViews
import Derived.JoinedTies
import Derived.KernelRfl
namespace Go.Proofs.YtobbbolgodmnoaaGreat
/- THE CELL 'sum', in the pinned program and in every row, IS THE sha256 OF THE DUMP (.gsa) THAT YtobbbolgodmnoaaGreatProg.lean LOADS. Nothing in Lean hashes anything: it is a label: what it is worth is what the hold of that sum in a sandbox is worth. -/
noncomputable def Tryz.pinned : Pinned := { name := "ytobbbolgodmnoaagreat", sum := "fca0376ce00ef5b0d60ee9afa0aad7eafdede562b040a82daae374a5ade5fe4f", checked := Tryz.checked }
namespace Rows
def none {H : Type} : Left H := { results := [], args := [] }

/-- 'laws.FnExactIsCosemisimple': WHATEVER THE INPUT: true; the input reads as it did. -/
def fnExactIsCosemisimpleSpec : ChangeSpec := { name := "fnExactIsCosemisimple", fn := fun _ => fun
  | [d] => { results := [.lit (.bool true)], args := [d] }
  | _ => none }
def fnExactIsCosemisimpleRow : OpenClaim := { program := "ytobbbolgodmnoaagreat", sum := "fca0376ce00ef5b0d60ee9afa0aad7eafdede562b040a82daae374a5ade5fe4f", func := "loop.example/g01230/laws.FnExactIsCosemisimple", spec := "fnExactIsCosemisimple", unfollowed := true, recurses := true, apart := false }
def FnExactIsCosemisimpleSaid : Prop := fnExactIsCosemisimpleRow.holds Tryz.pinned (OpenSpec.ofChange fnExactIsCosemisimpleSpec)

/-- ITS FALSE NEIGHBOUR: 'it returns false'. Refute it at one input. -/
def fnExactIsCosemisimpleWrong : ChangeSpec := { name := "fnExactIsCosemisimple", fn := fun _ => fun
  | [d] => { results := [.lit (.bool false)], args := [d] }
  | _ => none }
def FnExactIsCosemisimpleWrongFalsely : Prop := fnExactIsCosemisimpleRow.holds Tryz.pinned (OpenSpec.ofChange fnExactIsCosemisimpleWrong)

/-- 'laws.FnExactCointegral': WHATEVER THE INPUT: true; the input reads as it did. -/
def fnExactCointegralSpec : ChangeSpec := { name := "fnExactCointegral", fn := fun _ => fun
  | [d] => { results := [.lit (.bool true)], args := [d] }
  | _ => none }
def fnExactCointegralRow : OpenClaim := { program := "ytobbbolgodmnoaagreat", sum := "fca0376ce00ef5b0d60ee9afa0aad7eafdede562b040a82daae374a5ade5fe4f", func := "loop.example/g01230/laws.FnExactCointegral", spec := "fnExactCointegral", unfollowed := true, recurses := true, apart := false }
def FnExactCointegralSaid : Prop := fnExactCointegralRow.holds Tryz.pinned (OpenSpec.ofChange fnExactCointegralSpec)

/-- ITS FALSE NEIGHBOUR: 'it returns false'. Refute it at one input. -/
def fnExactCointegralWrong : ChangeSpec := { name := "fnExactCointegral", fn := fun _ => fun
  | [d] => { results := [.lit (.bool false)], args := [d] }
  | _ => none }
def FnExactCointegralWrongFalsely : Prop := fnExactCointegralRow.holds Tryz.pinned (OpenSpec.ofChange fnExactCointegralWrong)

/-- 'laws.FnExactModularElement': WHATEVER THE INPUT: true; the input reads as it did. -/
def fnExactModularElementSpec : ChangeSpec := { name := "fnExactModularElement", fn := fun _ => fun
  | [d] => { results := [.lit (.bool true)], args := [d] }
  | _ => none }
def fnExactModularElementRow : OpenClaim := { program := "ytobbbolgodmnoaagreat", sum := "fca0376ce00ef5b0d60ee9afa0aad7eafdede562b040a82daae374a5ade5fe4f", func := "loop.example/g01230/laws.FnExactModularElement", spec := "fnExactModularElement", unfollowed := true, recurses := true, apart := false }
def FnExactModularElementSaid : Prop := fnExactModularElementRow.holds Tryz.pinned (OpenSpec.ofChange fnExactModularElementSpec)

/-- ITS FALSE NEIGHBOUR: 'it returns false'. Refute it at one input. -/
def fnExactModularElementWrong : ChangeSpec := { name := "fnExactModularElement", fn := fun _ => fun
  | [d] => { results := [.lit (.bool false)], args := [d] }
  | _ => none }
def FnExactModularElementWrongFalsely : Prop := fnExactModularElementRow.holds Tryz.pinned (OpenSpec.ofChange fnExactModularElementWrong)

/-- 'laws.FnExactRankOfForm': WHATEVER THE INPUT: true; the input reads as it did. -/
def fnExactRankOfFormSpec : ChangeSpec := { name := "fnExactRankOfForm", fn := fun _ => fun
  | [d] => { results := [.lit (.bool true)], args := [d] }
  | _ => none }
def fnExactRankOfFormRow : OpenClaim := { program := "ytobbbolgodmnoaagreat", sum := "fca0376ce00ef5b0d60ee9afa0aad7eafdede562b040a82daae374a5ade5fe4f", func := "loop.example/g01230/laws.FnExactRankOfForm", spec := "fnExactRankOfForm", unfollowed := true, recurses := true, apart := false }
def FnExactRankOfFormSaid : Prop := fnExactRankOfFormRow.holds Tryz.pinned (OpenSpec.ofChange fnExactRankOfFormSpec)

/-- ITS FALSE NEIGHBOUR: 'it returns false'. Refute it at one input. -/
def fnExactRankOfFormWrong : ChangeSpec := { name := "fnExactRankOfForm", fn := fun _ => fun
  | [d] => { results := [.lit (.bool false)], args := [d] }
  | _ => none }
def FnExactRankOfFormWrongFalsely : Prop := fnExactRankOfFormRow.holds Tryz.pinned (OpenSpec.ofChange fnExactRankOfFormWrong)

/-- 'laws.FnExactFormOf': WHATEVER THE INPUT: true; the input reads as it did. -/
def fnExactFormOfSpec : ChangeSpec := { name := "fnExactFormOf", fn := fun _ => fun
  | [d] => { results := [.lit (.bool true)], args := [d] }
  | _ => none }
def fnExactFormOfRow : OpenClaim := { program := "ytobbbolgodmnoaagreat", sum := "fca0376ce00ef5b0d60ee9afa0aad7eafdede562b040a82daae374a5ade5fe4f", func := "loop.example/g01230/laws.FnExactFormOf", spec := "fnExactFormOf", unfollowed := true, recurses := true, apart := false }
def FnExactFormOfSaid : Prop := fnExactFormOfRow.holds Tryz.pinned (OpenSpec.ofChange fnExactFormOfSpec)

/-- ITS FALSE NEIGHBOUR: 'it returns false'. Refute it at one input. -/
def fnExactFormOfWrong : ChangeSpec := { name := "fnExactFormOf", fn := fun _ => fun
  | [d] => { results := [.lit (.bool false)], args := [d] }
  | _ => none }
def FnExactFormOfWrongFalsely : Prop := fnExactFormOfRow.holds Tryz.pinned (OpenSpec.ofChange fnExactFormOfWrong)

/-- 'laws.FnExactCoinvariantsOf': WHATEVER THE INPUT: true; the input reads as it did. -/
def fnExactCoinvariantsOfSpec : ChangeSpec := { name := "fnExactCoinvariantsOf", fn := fun _ => fun
  | [d1, d2] => { results := [.lit (.bool true)], args := [d1, d2] }
  | _ => none }
def fnExactCoinvariantsOfRow : OpenClaim := { program := "ytobbbolgodmnoaagreat", sum := "fca0376ce00ef5b0d60ee9afa0aad7eafdede562b040a82daae374a5ade5fe4f", func := "loop.example/g01230/laws.FnExactCoinvariantsOf", spec := "fnExactCoinvariantsOf", unfollowed := true, recurses := true, apart := false }
def FnExactCoinvariantsOfSaid : Prop := fnExactCoinvariantsOfRow.holds Tryz.pinned (OpenSpec.ofChange fnExactCoinvariantsOfSpec)

/-- ITS FALSE NEIGHBOUR: 'it returns false'. Refute it at one input. -/
def fnExactCoinvariantsOfWrong : ChangeSpec := { name := "fnExactCoinvariantsOf", fn := fun _ => fun
  | [d1, d2] => { results := [.lit (.bool false)], args := [d1, d2] }
  | _ => none }
def FnExactCoinvariantsOfWrongFalsely : Prop := fnExactCoinvariantsOfRow.holds Tryz.pinned (OpenSpec.ofChange fnExactCoinvariantsOfWrong)

/- THE SECOND FORM. 'bulk': how many values and letters a reading holds, each counted each time it is reached (what is shared counts as often as it is met; a slice's spare places count too). A statement '..UptoSaid' is the law's where the arguments, and the package variables that the reading takes, are together of bulk at most 1048576: NARROWER than '..Said'. Prove '..Said' where nothing that the law and all that it calls make is longer than what came in: it says more and counts as full. Else prove '..UptoSaid'. A law counts once. -/
mutual
def uptoBulk {H : Type} : DataW H → Nat
  | .lit (.string bytes) => bytes.length + 1
  | .lit _ => 1
  | .nil => 1
  | .ptr d => uptoBulk d + 1
  | .slice elems spare => uptoBulkAll elems + uptoBulkAll spare + 1
  | .agg parts => uptoBulkAll parts + 1
  | .iface _ d => uptoBulk d + 1
  | .map entries => uptoBulkEntries entries + 1
  | .held _ => 1
def uptoBulkAll {H : Type} : List (DataW H) → Nat
  | [] => 0
  | d :: r => uptoBulk d + uptoBulkAll r
def uptoBulkEntries {H : Type} : List (Lit × DataW H) → Nat
  | [] => 0
  | x :: r => uptoBulkEntry x + uptoBulkEntries r
def uptoBulkEntry {H : Type} : Lit × DataW H → Nat
  | (.string bytes, d) => bytes.length + uptoBulk d + 1
  | (_, d) => uptoBulk d + 1
 end
def uptoSmall : (H : Type) → List (DataW H) → Bool := fun _ ds => decide (uptoBulkAll ds ≤ 1048576)
def OpenSpec.upto (s : _root_.Go.ChangeSpec) : _root_.Go.OpenSpec := { _root_.Go.OpenSpec.ofChange s with cond := some uptoSmall }

/-- 'laws.FnExactIsCosemisimple', WHERE WHAT IT READS IS OF BULK AT MOST 1048576: true; the input reads as it did. -/
def fnExactIsCosemisimpleUptoRow : OpenClaim := { program := "ytobbbolgodmnoaagreat", sum := "fca0376ce00ef5b0d60ee9afa0aad7eafdede562b040a82daae374a5ade5fe4f", func := "loop.example/g01230/laws.FnExactIsCosemisimple", spec := "fnExactIsCosemisimple", unfollowed := true, recurses := true, apart := false, narrowed := true }
def FnExactIsCosemisimpleUptoSaid : Prop := fnExactIsCosemisimpleUptoRow.holds Tryz.pinned (OpenSpec.upto fnExactIsCosemisimpleSpec)

/-- 'laws.FnExactCointegral', WHERE WHAT IT READS IS OF BULK AT MOST 1048576: true; the input reads as it did. -/
def fnExactCointegralUptoRow : OpenClaim := { program := "ytobbbolgodmnoaagreat", sum := "fca0376ce00ef5b0d60ee9afa0aad7eafdede562b040a82daae374a5ade5fe4f", func := "loop.example/g01230/laws.FnExactCointegral", spec := "fnExactCointegral", unfollowed := true, recurses := true, apart := false, narrowed := true }
def FnExactCointegralUptoSaid : Prop := fnExactCointegralUptoRow.holds Tryz.pinned (OpenSpec.upto fnExactCointegralSpec)

/-- 'laws.FnExactModularElement', WHERE WHAT IT READS IS OF BULK AT MOST 1048576: true; the input reads as it did. -/
def fnExactModularElementUptoRow : OpenClaim := { program := "ytobbbolgodmnoaagreat", sum := "fca0376ce00ef5b0d60ee9afa0aad7eafdede562b040a82daae374a5ade5fe4f", func := "loop.example/g01230/laws.FnExactModularElement", spec := "fnExactModularElement", unfollowed := true, recurses := true, apart := false, narrowed := true }
def FnExactModularElementUptoSaid : Prop := fnExactModularElementUptoRow.holds Tryz.pinned (OpenSpec.upto fnExactModularElementSpec)

/-- 'laws.FnExactRankOfForm', WHERE WHAT IT READS IS OF BULK AT MOST 1048576: true; the input reads as it did. -/
def fnExactRankOfFormUptoRow : OpenClaim := { program := "ytobbbolgodmnoaagreat", sum := "fca0376ce00ef5b0d60ee9afa0aad7eafdede562b040a82daae374a5ade5fe4f", func := "loop.example/g01230/laws.FnExactRankOfForm", spec := "fnExactRankOfForm", unfollowed := true, recurses := true, apart := false, narrowed := true }
def FnExactRankOfFormUptoSaid : Prop := fnExactRankOfFormUptoRow.holds Tryz.pinned (OpenSpec.upto fnExactRankOfFormSpec)

/-- 'laws.FnExactFormOf', WHERE WHAT IT READS IS OF BULK AT MOST 1048576: true; the input reads as it did. -/
def fnExactFormOfUptoRow : OpenClaim := { program := "ytobbbolgodmnoaagreat", sum := "fca0376ce00ef5b0d60ee9afa0aad7eafdede562b040a82daae374a5ade5fe4f", func := "loop.example/g01230/laws.FnExactFormOf", spec := "fnExactFormOf", unfollowed := true, recurses := true, apart := false, narrowed := true }
def FnExactFormOfUptoSaid : Prop := fnExactFormOfUptoRow.holds Tryz.pinned (OpenSpec.upto fnExactFormOfSpec)

/-- 'laws.FnExactCoinvariantsOf', WHERE WHAT IT READS IS OF BULK AT MOST 1048576: true; the input reads as it did. -/
def fnExactCoinvariantsOfUptoRow : OpenClaim := { program := "ytobbbolgodmnoaagreat", sum := "fca0376ce00ef5b0d60ee9afa0aad7eafdede562b040a82daae374a5ade5fe4f", func := "loop.example/g01230/laws.FnExactCoinvariantsOf", spec := "fnExactCoinvariantsOf", unfollowed := true, recurses := true, apart := false, narrowed := true }
def FnExactCoinvariantsOfUptoSaid : Prop := fnExactCoinvariantsOfUptoRow.holds Tryz.pinned (OpenSpec.upto fnExactCoinvariantsOfSpec)

end Rows
end Go.Proofs.YtobbbolgodmnoaaGreat
