/- 'FnExactIsModuleMap': the program's function returns what the reference's returns, for every input: the law's Go text returns true and leaves its arguments as they were. No condition beyond the given row's own. -/
import Derived.Test.YtfiiiedgnckppaaT
import Derived.Test.YtfiiiedgnckppaaQ
import Derived.Test.YtfiiiedgnckppaaRows
namespace Go.Proofs.Ytfiiiedgnckppaa.fnExactIsModuleMap
open Go.ChangeShapes Go.WideShapes Go.ChangeAt Go.RowKit
set_option linter.unusedVariables false

theorem own : ownKnob Try.prog.godebug = none := by kernel_rfl
theorem laidOut : laidOutB Try.prog = true := by kernel_rfl
theorem flat26 : Hf.flatOk Try.prog 26 2 1106 = true := by kernel_rfl
theorem flat47 : Hf.flatOk Try.prog 47 1 513 = true := by kernel_rfl
theorem flat23 : Hf.flatOk Try.prog 23 0 64 = true := by kernel_rfl
def args0 : Array Value := #[.agg (Hf.zeros 2 1106), .agg (Hf.zeros 1 513), .agg (Hf.zeros 1 513), .agg (Hf.zeros 0 64)]
theorem okArgs : Hf.ok2 Try.checked.prog Try.f4.params.toList args0.toList := by
  show Hf.ok2 Try.prog _ [.agg (Hf.zeros 2 1106), .agg (Hf.zeros 1 513), .agg (Hf.zeros 1 513), .agg (Hf.zeros 0 64)]
  rw [Try.params4]
  exact (Hf.ok2_agg flat26 (Hf.ok2_agg flat47 (Hf.ok2_agg flat47 (Hf.ok2_agg flat23 Hf.ok2_nil))))
theorem wit1 (os : Os) : (World.plainHolding Try.checked.prog os ⟨#[], args0, []⟩).variablesB Try.checked.prog = true := by kernel_rfl
theorem wit2 (os : Os) : ((World.plainHolding Try.checked.prog os ⟨#[], args0, []⟩).heap.toList.drop Try.checked.prog.globals.size).take ((begin Try.checked.prog (fun _ _ => 0) default).world.heap.size - Try.checked.prog.globals.size) = (begin Try.checked.prog (fun _ _ => 0) default).world.heap.toList.drop Try.checked.prog.globals.size := by kernel_rfl
theorem wit3 (os : Os) (H : Type) (enc : TypeId × Value → H) : Rows.fnExactIsModuleMapSpec.preB enc Try.checked.prog Try.f4 Rows.fnExactIsModuleMapRow.domain false (World.plainHolding Try.checked.prog os ⟨#[], args0, []⟩).memory args0 8 = true := by kernel_rfl
theorem wit4 (os : Os) (H : Type) (enc : TypeId × Value → H) : Rows.fnExactIsModuleMapSpec.sizedB enc Try.checked.prog Try.f4 false (World.plainHolding Try.checked.prog os ⟨#[], args0, []⟩).memory args0 8 = true := by kernel_rfl
theorem wit (os : Os) (H : Type) (enc : TypeId × Value → H) : ∃ (w : World) (tape : Tape) (i : Input), w.os = os ∧ (w.forCall tape i).Shaped Try.checked.prog ∧ i.vars = [] ∧ Input.okWide Try.checked.prog (w.forCall tape i) .any w.heap.size 4 i ∧
      Rows.fnExactIsModuleMapSpec.pre6 enc Try.checked.prog Try.f4 Rows.fnExactIsModuleMapRow.domain false (w.forCall tape i).memory i.args ∧ ({} : Assume).holds Try.checked.prog (lone (Frame.enter Try.checked.prog 4 i.args .normal) [] (w.forCall tape i)) :=
  Hf.witness_of (enc := enc) (C := Try.checked) false args0 8 (wit1 os) (wit2 os) (by kernel_rfl) Try.func4 (by kernel_rfl) okArgs (wit3 os H enc) (wit4 os H enc)
set_option maxRecDepth 100000 in
set_option maxHeartbeats 2000000 in
theorem lifted (os : Os) (started : os.Started) (H : Type) (enc : TypeId × Value → H) :
    ReturnsInHanded {} Try.checked os 4 .any (Rows.fnExactIsModuleMapSpec.pre6 enc Try.prog Try.f4 Rows.fnExactIsModuleMapRow.domain false) (Rows.fnExactIsModuleMapSpec.post enc Try.prog Try.f4 false true false false) := by
  refine returnsInHanded_of_change (C := Try.checked) own started (by kernel_rfl) Try.func4 (wit os H enc) ?_
  intro W base args ds gs before hval0 hW hcnd _
  have hval : ∀ (j : Nat) t v, Try.f4.params[j]? = some t → args[j]? = some v → Value.okWide Try.prog W .any base t v := hval0
  have hW' := hW
  obtain ⟨p, q, hA0, hV, rfl, hfz, hnd⟩ := hW
  have hA : DataW.TrodAll enc Try.prog W 0 (fun _ => true) true Try.f4.params.toList args.toList ds p := hA0
  rw [Try.params4] at hA hval
  obtain ⟨v0, vs0, d0, ds0, p0, q0, hargs, rfl, rfl, h0, r0⟩ := trodAll_cons hA
  obtain ⟨v1, vs1, d1, ds1, p1, q1, rfl, rfl, rfl, h1, r1⟩ := trodAll_cons r0
  obtain ⟨v2, vs2, d2, ds2, p2, q2, rfl, rfl, rfl, h2, r2⟩ := trodAll_cons r1
  obtain ⟨v3, vs3, d3, ds3, p3, q3, rfl, rfl, rfl, h3, r3⟩ := trodAll_cons r2
  obtain ⟨rfl, rfl, rfl⟩ := trodAll_nil r3
  obtain rfl : args = #[v0, v1, v2, v3] := by cases args; simp_all
  obtain ⟨rfl, rfl⟩ := trodVars_none hV
  have k0 := h0
  have lt0 : ∀ x ∈ p0, x.block < W.heap.size := by obtain ⟨m, hm⟩ := k0; exact DataW.trod_lt m _ _ _ hm
  have k1 := h1
  have lt1 : ∀ x ∈ p1, x.block < W.heap.size := by obtain ⟨m, hm⟩ := k1; exact DataW.trod_lt m _ _ _ hm
  have k2 := h2
  have lt2 : ∀ x ∈ p2, x.block < W.heap.size := by obtain ⟨m, hm⟩ := k2; exact DataW.trod_lt m _ _ _ hm
  have k3 := h3
  have lt3 : ∀ x ∈ p3, x.block < W.heap.size := by obtain ⟨m, hm⟩ := k3; exact DataW.trod_lt m _ _ _ hm
  obtain ⟨hd0, f0, hl0, rfl⟩ := Hf.open_flat (h := 2) (n := 1106) flat26 (hval 0 26 v0 rfl rfl)
  obtain ⟨x0_0, x0_1, rfl⟩ := Hf.len2 hl0
  obtain ⟨hd1, f1, hl1, rfl⟩ := Hf.open_flat (h := 1) (n := 513) flat47 (hval 1 47 v1 rfl rfl)
  obtain ⟨x1_0, rfl⟩ := Hf.len1 hl1
  obtain ⟨hd2, f2, hl2, rfl⟩ := Hf.open_flat (h := 1) (n := 513) flat47 (hval 2 47 v2 rfl rfl)
  obtain ⟨x2_0, rfl⟩ := Hf.len1 hl2
  obtain ⟨hd3, f3, hl3, rfl⟩ := Hf.open_flat (h := 0) (n := 64) flat23 (hval 3 23 v3 rfl rfl)
  obtain rfl := Hf.len0 hl3
  clear hA0 hval0 hargs
  have main := @Hf.law_calls Try.prog Hf.rho 161 [.ag [x0_0, x0_1] 1106 f0, .ag [x1_0] 513 f1, .ag [x2_0] 513 f2, .ag [] 64 f3] (Hf.l_FnExactIsModuleMap_ok ⟨Hf.rho_fn, Hf.rho_mo⟩ Hf.e_l_FnExactIsModuleMap) W
  rw [show Hf.rho 161 = 4 from by kernel_rfl] at main
  refine Calls.mono main fun e W' he => ?_
  obtain ⟨rfl, bel⟩ := he
  exact ⟨_, rfl, _, _, _, [], _, [], hW', trodAll_mk1 (shut_bool (show Try.prog.underlying 4 = some .bool by kernel_rfl) _), (trodAll_cons_mk (Below.trod laidOut (by kernel_rfl) (of_decide_eq_true (by kernel_rfl)) k0 bel lt0) (trodAll_cons_mk (Below.trod laidOut (by kernel_rfl) (of_decide_eq_true (by kernel_rfl)) k1 bel lt1) (trodAll_cons_mk (Below.trod laidOut (by kernel_rfl) (of_decide_eq_true (by kernel_rfl)) k2 bel lt2) (trodAll_cons_mk (Below.trod laidOut (by kernel_rfl) (of_decide_eq_true (by kernel_rfl)) k3 bel lt3) trodAll_mk0)))), rfl, bel.frame _, fun h => by cases h⟩

theorem over : Rows.fnExactIsModuleMapRow.holds Try.pinned (OpenSpec.ofChange Rows.fnExactIsModuleMapSpec) :=
  OpenClaim.holds_of_wide 4 Try.f4 rfl rfl rfl rfl rfl rfl rfl ⟨rfl, rfl, rfl, rfl, rfl⟩ rfl rfl rfl rfl rfl (by kernel_rfl) Try.func4 (by kernel_rfl)
    (of_decide_eq_true (by kernel_rfl)) (by unfold Func.isWrapper; first | (rw [if_pos (by decide +kernel)]; kernel_rfl) | (rw [if_neg (by decide +kernel)]; exact ⟨rfl, rfl⟩))
    (fun os started H enc _ => lifted os started H enc)

theorem proved : Rows.FnExactIsModuleMapSaid := over
end Go.Proofs.Ytfiiiedgnckppaa.fnExactIsModuleMap
