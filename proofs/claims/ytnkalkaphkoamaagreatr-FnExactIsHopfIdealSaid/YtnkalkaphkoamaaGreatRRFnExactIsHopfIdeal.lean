/- 'FnExactIsHopfIdeal': the program's function returns what the reference's returns, for every input: the law's Go text returns true and leaves its arguments as they were. No condition beyond the given row's own. -/
import Derived.Test.YtnkalkaphkoamaaGreatRT
import Derived.Test.YtnkalkaphkoamaaGreatRQ
import Derived.Test.YtnkalkaphkoamaaGreatRRows
namespace Go.Proofs.YtnkalkaphkoamaaGreatR.fnExactIsHopfIdeal
open Go.ChangeShapes Go.WideShapes Go.ChangeAt Go.RowKit
set_option linter.unusedVariables false

theorem own : ownKnob Tryz.prog.godebug = none := by kernel_rfl
theorem laidOut : laidOutB Tryz.prog = true := by kernel_rfl
theorem flat26 : Hf.flatOk Tryz.prog 26 2 1106 = true := by kernel_rfl
def args0 : Array Value := #[.agg (Hf.zeros 2 1106), .slice none 0 0]
theorem okArgs : Hf.ok2 Tryz.checked.prog Tryz.f5.params.toList args0.toList := by
  show Hf.ok2 Tryz.prog _ [.agg (Hf.zeros 2 1106), .slice none 0 0]
  rw [Tryz.params5]
  exact (Hf.ok2_agg flat26 (Hf.ok2_snil (show Tryz.prog.underlying 27 = some (.slice 22) by kernel_rfl) Hf.ok2_nil))
theorem wit1 (os : Os) : (World.plainHolding Tryz.checked.prog os ⟨#[], args0, []⟩).variablesB Tryz.checked.prog = true := by kernel_rfl
theorem wit2 (os : Os) : ((World.plainHolding Tryz.checked.prog os ⟨#[], args0, []⟩).heap.toList.drop Tryz.checked.prog.globals.size).take ((begin Tryz.checked.prog (fun _ _ => 0) default).world.heap.size - Tryz.checked.prog.globals.size) = (begin Tryz.checked.prog (fun _ _ => 0) default).world.heap.toList.drop Tryz.checked.prog.globals.size := by kernel_rfl
theorem wit3 (os : Os) (H : Type) (enc : TypeId × Value → H) : Rows.fnExactIsHopfIdealSpec.preB enc Tryz.checked.prog Tryz.f5 Rows.fnExactIsHopfIdealRow.domain false (World.plainHolding Tryz.checked.prog os ⟨#[], args0, []⟩).memory args0 8 = true := by kernel_rfl
theorem wit4 (os : Os) (H : Type) (enc : TypeId × Value → H) : Rows.fnExactIsHopfIdealSpec.sizedB enc Tryz.checked.prog Tryz.f5 false (World.plainHolding Tryz.checked.prog os ⟨#[], args0, []⟩).memory args0 8 = true := by kernel_rfl
theorem wit (os : Os) (H : Type) (enc : TypeId × Value → H) : ∃ (w : World) (tape : Tape) (i : Input), w.os = os ∧ (w.forCall tape i).Shaped Tryz.checked.prog ∧ i.vars = [] ∧ Input.okWide Tryz.checked.prog (w.forCall tape i) .any w.heap.size 5 i ∧
      Rows.fnExactIsHopfIdealSpec.pre6 enc Tryz.checked.prog Tryz.f5 Rows.fnExactIsHopfIdealRow.domain false (w.forCall tape i).memory i.args ∧ ({} : Assume).holds Tryz.checked.prog (lone (Frame.enter Tryz.checked.prog 5 i.args .normal) [] (w.forCall tape i)) :=
  Hf.witness_of (enc := enc) (C := Tryz.checked) false args0 8 (wit1 os) (wit2 os) (by kernel_rfl) Tryz.func5 (by kernel_rfl) okArgs (wit3 os H enc) (wit4 os H enc)
set_option maxRecDepth 100000 in
set_option maxHeartbeats 2000000 in
theorem lifted (os : Os) (started : os.Started) (H : Type) (enc : TypeId × Value → H) :
    ReturnsInHanded {} Tryz.checked os 5 .any (Rows.fnExactIsHopfIdealSpec.pre6 enc Tryz.prog Tryz.f5 Rows.fnExactIsHopfIdealRow.domain false) (Rows.fnExactIsHopfIdealSpec.post enc Tryz.prog Tryz.f5 false true false false) := by
  refine returnsInHanded_of_change (C := Tryz.checked) own started (by kernel_rfl) Tryz.func5 (wit os H enc) ?_
  intro W base args ds gs before hval0 hW hcnd _
  have hval : ∀ (j : Nat) t v, Tryz.f5.params[j]? = some t → args[j]? = some v → Value.okWide Tryz.prog W .any base t v := hval0
  have hW' := hW
  obtain ⟨p, q, hA0, hV, rfl, hfz, hnd⟩ := hW
  have hA : DataW.TrodAll enc Tryz.prog W 0 (fun _ => true) true Tryz.f5.params.toList args.toList ds p := hA0
  rw [Tryz.params5] at hA hval
  obtain ⟨v0, vs0, d0, ds0, p0, q0, hargs, rfl, rfl, h0, r0⟩ := trodAll_cons hA
  obtain ⟨v1, vs1, d1, ds1, p1, q1, rfl, rfl, rfl, h1, r1⟩ := trodAll_cons r0
  obtain ⟨rfl, rfl, rfl⟩ := trodAll_nil r1
  obtain rfl : args = #[v0, v1] := by cases args; simp_all
  obtain ⟨rfl, rfl⟩ := trodVars_none hV
  have k0 := h0
  have lt0 : ∀ x ∈ p0, x.block < W.heap.size := by obtain ⟨m, hm⟩ := k0; exact DataW.trod_lt m _ _ _ hm
  have k1 := h1
  have lt1 : ∀ x ∈ p1, x.block < W.heap.size := by obtain ⟨m, hm⟩ := k1; exact DataW.trod_lt m _ _ _ hm
  obtain ⟨hd0, f0, hl0, rfl⟩ := Hf.open_flat (h := 2) (n := 1106) flat26 (hval 0 26 v0 rfl rfl)
  obtain ⟨x0_0, x0_1, rfl⟩ := Hf.len2 hl0
  clear hA0 hval0 hargs
  have main : Calls Tryz.prog (Hf.rho 359) #[.agg (Hf.cellsOf [x0_0, x0_1] 1106 f0), v1] W fun e W' => e = .returned (.bool true) ∧ Below W.heap.size W W' := by
    rcases Hf.open_vecs (show Tryz.prog.underlying 27 = some (.slice 22) by kernel_rfl) (show Tryz.prog.underlying 22 = some (.array 8 5) by kernel_rfl) (show Tryz.prog.underlying 5 = some (.int .u8) by kernel_rfl) (by kernel_rfl) (by kernel_rfl) (hval 1 27 v1 rfl rfl) h1 with rfl | ⟨b, off, len, cap, C, T, fz, L, rfl, hblk, hLl, hLm, hLz, hLc⟩
    · have m := Hf.law_callsR (W := W) (al := [.ag [x0_0, x0_1] 1106 f0, .sn]) (Hf.hrel_nil (σ := fun _ => 0)) (by simp) (Hf.l_FnExactIsHopfIdeal_ok ⟨Hf.rho_fn, Hf.rho_mo⟩ Hf.e_l_FnExactIsHopfIdeal (L := []) (.inl ⟨rfl, rfl⟩) (by simp) (by simp))
      simp only [List.map_cons, List.map_nil, Hf.ren] at m
      exact m
    · have m := Hf.law_callsR (W := W) (al := [.ag [x0_0, x0_1] 1106 f0, .sl 0 off len cap]) (Hf.hrel_fo hblk) (by simp) (Hf.l_FnExactIsHopfIdeal_ok ⟨Hf.rho_fn, Hf.rho_mo⟩ Hf.e_l_FnExactIsHopfIdeal (.inr ⟨0, off, cap, true, C, fz, by rw [hLl], rfl, hLc⟩) hLz (by omega))
      simp only [List.map_cons, List.map_nil, Hf.ren] at m
      exact m
  rw [show Hf.rho 359 = 5 from by kernel_rfl] at main
  refine Calls.mono main fun e W' he => ?_
  obtain ⟨rfl, bel⟩ := he
  exact ⟨_, rfl, _, _, _, [], _, [], hW', trodAll_mk1 (shut_bool (show Tryz.prog.underlying 4 = some .bool by kernel_rfl) _), (trodAll_cons_mk (Below.trod laidOut (by kernel_rfl) (of_decide_eq_true (by kernel_rfl)) k0 bel lt0) (trodAll_cons_mk (Below.trod laidOut (by kernel_rfl) (of_decide_eq_true (by kernel_rfl)) k1 bel lt1) trodAll_mk0)), rfl, bel.frame _, fun h => by cases h⟩

theorem over : Rows.fnExactIsHopfIdealRow.holds Tryz.pinned (OpenSpec.ofChange Rows.fnExactIsHopfIdealSpec) :=
  OpenClaim.holds_of_wide 5 Tryz.f5 rfl rfl rfl rfl rfl rfl rfl ⟨rfl, rfl, rfl, rfl, rfl⟩ rfl rfl rfl rfl rfl (by kernel_rfl) Tryz.func5 (by kernel_rfl)
    (of_decide_eq_true (by kernel_rfl)) (by unfold Func.isWrapper; first | (rw [if_pos (by decide +kernel)]; kernel_rfl) | (rw [if_neg (by decide +kernel)]; exact ⟨rfl, rfl⟩))
    (fun os started H enc _ => lifted os started H enc)

theorem proved : Rows.FnExactIsHopfIdealSaid := over
end Go.Proofs.YtnkalkaphkoamaaGreatR.fnExactIsHopfIdeal
