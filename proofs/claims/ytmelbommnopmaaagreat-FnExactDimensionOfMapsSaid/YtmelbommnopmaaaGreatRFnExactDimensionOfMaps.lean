/- 'FnExactDimensionOfMaps': the program's function returns what the reference's returns, for every input: the law's Go text returns true and leaves its arguments as they were. No condition beyond the given row's own. -/
import Derived.Test.YtmelbommnopmaaaGreatT
import Derived.Test.YtmelbommnopmaaaGreatQ
import Derived.Test.YtmelbommnopmaaaGreatRows
namespace Go.Proofs.YtmelbommnopmaaaGreat.fnExactDimensionOfMaps
open Go.ChangeShapes Go.WideShapes Go.ChangeAt Go.RowKit
set_option linter.unusedVariables false

theorem own : ownKnob Tryz.prog.godebug = none := by kernel_rfl
theorem laidOut : laidOutB Tryz.prog = true := by kernel_rfl
theorem flat26 : Hf.flatOk Tryz.prog 26 2 1106 = true := by kernel_rfl
theorem flat28 : Hf.flatOk Tryz.prog 28 1 513 = true := by kernel_rfl
def args0 : Array Value := #[.agg (Hf.zeros 2 1106), .agg (Hf.zeros 1 513), .agg (Hf.zeros 1 513)]
theorem okArgs : Hf.ok2 Tryz.checked.prog Tryz.f5.params.toList args0.toList := by
  show Hf.ok2 Tryz.prog _ [.agg (Hf.zeros 2 1106), .agg (Hf.zeros 1 513), .agg (Hf.zeros 1 513)]
  rw [Tryz.params5]
  exact (Hf.ok2_agg flat26 (Hf.ok2_agg flat28 (Hf.ok2_agg flat28 Hf.ok2_nil)))
theorem wit1 (os : Os) : (World.plainHolding Tryz.checked.prog os ⟨#[], args0, []⟩).variablesB Tryz.checked.prog = true := by kernel_rfl
theorem wit2 (os : Os) : ((World.plainHolding Tryz.checked.prog os ⟨#[], args0, []⟩).heap.toList.drop Tryz.checked.prog.globals.size).take ((begin Tryz.checked.prog (fun _ _ => 0) default).world.heap.size - Tryz.checked.prog.globals.size) = (begin Tryz.checked.prog (fun _ _ => 0) default).world.heap.toList.drop Tryz.checked.prog.globals.size := by kernel_rfl
theorem wit3 (os : Os) (H : Type) (enc : TypeId × Value → H) : Rows.fnExactDimensionOfMapsSpec.preB enc Tryz.checked.prog Tryz.f5 Rows.fnExactDimensionOfMapsRow.domain false (World.plainHolding Tryz.checked.prog os ⟨#[], args0, []⟩).memory args0 8 = true := by kernel_rfl
theorem wit4 (os : Os) (H : Type) (enc : TypeId × Value → H) : Rows.fnExactDimensionOfMapsSpec.sizedB enc Tryz.checked.prog Tryz.f5 false (World.plainHolding Tryz.checked.prog os ⟨#[], args0, []⟩).memory args0 8 = true := by kernel_rfl
theorem wit (os : Os) (H : Type) (enc : TypeId × Value → H) : ∃ (w : World) (tape : Tape) (i : Input), w.os = os ∧ (w.forCall tape i).Shaped Tryz.checked.prog ∧ i.vars = [] ∧ Input.okWide Tryz.checked.prog (w.forCall tape i) .any w.heap.size 5 i ∧
      Rows.fnExactDimensionOfMapsSpec.pre6 enc Tryz.checked.prog Tryz.f5 Rows.fnExactDimensionOfMapsRow.domain false (w.forCall tape i).memory i.args ∧ ({} : Assume).holds Tryz.checked.prog (lone (Frame.enter Tryz.checked.prog 5 i.args .normal) [] (w.forCall tape i)) :=
  Hf.witness_of (enc := enc) (C := Tryz.checked) false args0 8 (wit1 os) (wit2 os) (by kernel_rfl) Tryz.func5 (by kernel_rfl) okArgs (wit3 os H enc) (wit4 os H enc)
set_option maxRecDepth 100000 in
set_option maxHeartbeats 2000000 in
theorem lifted (os : Os) (started : os.Started) (H : Type) (enc : TypeId × Value → H) :
    ReturnsInHanded {} Tryz.checked os 5 .any (Rows.fnExactDimensionOfMapsSpec.pre6 enc Tryz.prog Tryz.f5 Rows.fnExactDimensionOfMapsRow.domain false) (Rows.fnExactDimensionOfMapsSpec.post enc Tryz.prog Tryz.f5 false true false false) := by
  refine returnsInHanded_of_change (C := Tryz.checked) own started (by kernel_rfl) Tryz.func5 (wit os H enc) ?_
  intro W base args ds gs before hval0 hW hcnd _
  have hval : ∀ (j : Nat) t v, Tryz.f5.params[j]? = some t → args[j]? = some v → Value.okWide Tryz.prog W .any base t v := hval0
  have hW' := hW
  obtain ⟨p, q, hA0, hV, rfl, hfz, hnd⟩ := hW
  have hA : DataW.TrodAll enc Tryz.prog W 0 (fun _ => true) true Tryz.f5.params.toList args.toList ds p := hA0
  rw [Tryz.params5] at hA hval
  obtain ⟨v0, vs0, d0, ds0, p0, q0, hargs, rfl, rfl, h0, r0⟩ := trodAll_cons hA
  obtain ⟨v1, vs1, d1, ds1, p1, q1, rfl, rfl, rfl, h1, r1⟩ := trodAll_cons r0
  obtain ⟨v2, vs2, d2, ds2, p2, q2, rfl, rfl, rfl, h2, r2⟩ := trodAll_cons r1
  obtain ⟨rfl, rfl, rfl⟩ := trodAll_nil r2
  obtain rfl : args = #[v0, v1, v2] := by cases args; simp_all
  obtain ⟨rfl, rfl⟩ := trodVars_none hV
  have k0 := h0
  have lt0 : ∀ x ∈ p0, x.block < W.heap.size := by obtain ⟨m, hm⟩ := k0; exact DataW.trod_lt m _ _ _ hm
  have k1 := h1
  have lt1 : ∀ x ∈ p1, x.block < W.heap.size := by obtain ⟨m, hm⟩ := k1; exact DataW.trod_lt m _ _ _ hm
  have k2 := h2
  have lt2 : ∀ x ∈ p2, x.block < W.heap.size := by obtain ⟨m, hm⟩ := k2; exact DataW.trod_lt m _ _ _ hm
  obtain ⟨hd0, f0, hl0, rfl⟩ := Hf.open_flat (h := 2) (n := 1106) flat26 (hval 0 26 v0 rfl rfl)
  obtain ⟨x0_0, x0_1, rfl⟩ := Hf.len2 hl0
  obtain ⟨hd1, f1, hl1, rfl⟩ := Hf.open_flat (h := 1) (n := 513) flat28 (hval 1 28 v1 rfl rfl)
  obtain ⟨x1_0, rfl⟩ := Hf.len1 hl1
  obtain ⟨hd2, f2, hl2, rfl⟩ := Hf.open_flat (h := 1) (n := 513) flat28 (hval 2 28 v2 rfl rfl)
  obtain ⟨x2_0, rfl⟩ := Hf.len1 hl2
  clear hA0 hval0 hargs
  have main := @Hf.law_calls Tryz.prog Hf.rho 389 [.ag [x0_0, x0_1] 1106 f0, .ag [x1_0] 513 f1, .ag [x2_0] 513 f2] (Hf.l_FnExactDimensionOfMaps_ok ⟨Hf.rho_fn, Hf.rho_mo⟩ Hf.e_l_FnExactDimensionOfMaps) W
  rw [show Hf.rho 389 = 5 from by kernel_rfl] at main
  refine Calls.mono main fun e W' he => ?_
  obtain ⟨rfl, bel⟩ := he
  exact ⟨_, rfl, _, _, _, [], _, [], hW', trodAll_mk1 (shut_bool (show Tryz.prog.underlying 4 = some .bool by kernel_rfl) _), (trodAll_cons_mk (Below.trod laidOut (by kernel_rfl) (of_decide_eq_true (by kernel_rfl)) k0 bel lt0) (trodAll_cons_mk (Below.trod laidOut (by kernel_rfl) (of_decide_eq_true (by kernel_rfl)) k1 bel lt1) (trodAll_cons_mk (Below.trod laidOut (by kernel_rfl) (of_decide_eq_true (by kernel_rfl)) k2 bel lt2) trodAll_mk0))), rfl, bel.frame _, fun h => by cases h⟩

theorem over : Rows.fnExactDimensionOfMapsRow.holds Tryz.pinned (OpenSpec.ofChange Rows.fnExactDimensionOfMapsSpec) :=
  OpenClaim.holds_of_wide 5 Tryz.f5 rfl rfl rfl rfl rfl rfl rfl ⟨rfl, rfl, rfl, rfl, rfl⟩ rfl rfl rfl rfl rfl (by kernel_rfl) Tryz.func5 (by kernel_rfl)
    (of_decide_eq_true (by kernel_rfl)) (by unfold Func.isWrapper; first | (rw [if_pos (by decide +kernel)]; kernel_rfl) | (rw [if_neg (by decide +kernel)]; exact ⟨rfl, rfl⟩))
    (fun os started H enc _ => lifted os started H enc)

theorem proved : Rows.FnExactDimensionOfMapsSaid := over
end Go.Proofs.YtmelbommnopmaaaGreat.fnExactDimensionOfMaps
