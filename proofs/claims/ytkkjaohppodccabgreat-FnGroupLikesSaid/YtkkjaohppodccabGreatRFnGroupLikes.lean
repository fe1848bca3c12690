/- 'FnGroupLikes': the program's function returns what the reference's returns, for every input: the law's Go text returns true and leaves its arguments as they were. No condition beyond the given row's own. -/
import Derived.Test.YtkkjaohppodccabGreatT
import Derived.Test.YtkkjaohppodccabGreatQ
import Derived.Test.YtkkjaohppodccabGreatRows
namespace Go.Proofs.YtkkjaohppodccabGreat.fnGroupLikes
open Go.ChangeShapes Go.WideShapes Go.ChangeAt Go.RowKit
set_option linter.unusedVariables false

theorem own : ownKnob Tryz.prog.godebug = none := by kernel_rfl
theorem laidOut : laidOutB Tryz.prog = true := by kernel_rfl
def args0 : Array Value := #[.slice none 0 0]
theorem okArgs : Hf.ok2 Tryz.checked.prog Tryz.f3.params.toList args0.toList := by
  show Hf.ok2 Tryz.prog _ [.slice none 0 0]
  rw [Tryz.params3]
  exact (Hf.ok2_snil (show Tryz.prog.underlying 22 = some (.slice 5) by kernel_rfl) Hf.ok2_nil)
theorem wit1 (os : Os) : (World.plainHolding Tryz.checked.prog os ⟨#[], args0, []⟩).variablesB Tryz.checked.prog = true := by kernel_rfl
theorem wit2 (os : Os) : ((World.plainHolding Tryz.checked.prog os ⟨#[], args0, []⟩).heap.toList.drop Tryz.checked.prog.globals.size).take ((begin Tryz.checked.prog (fun _ _ => 0) default).world.heap.size - Tryz.checked.prog.globals.size) = (begin Tryz.checked.prog (fun _ _ => 0) default).world.heap.toList.drop Tryz.checked.prog.globals.size := by kernel_rfl
theorem wit3 (os : Os) (H : Type) (enc : TypeId × Value → H) : Rows.fnGroupLikesSpec.preB enc Tryz.checked.prog Tryz.f3 Rows.fnGroupLikesRow.domain false (World.plainHolding Tryz.checked.prog os ⟨#[], args0, []⟩).memory args0 8 = true := by kernel_rfl
theorem wit4 (os : Os) (H : Type) (enc : TypeId × Value → H) : Rows.fnGroupLikesSpec.sizedB enc Tryz.checked.prog Tryz.f3 false (World.plainHolding Tryz.checked.prog os ⟨#[], args0, []⟩).memory args0 8 = true := by kernel_rfl
theorem wit (os : Os) (H : Type) (enc : TypeId × Value → H) : ∃ (w : World) (tape : Tape) (i : Input), w.os = os ∧ (w.forCall tape i).Shaped Tryz.checked.prog ∧ i.vars = [] ∧ Input.okWide Tryz.checked.prog (w.forCall tape i) .any w.heap.size 3 i ∧
      Rows.fnGroupLikesSpec.pre6 enc Tryz.checked.prog Tryz.f3 Rows.fnGroupLikesRow.domain false (w.forCall tape i).memory i.args ∧ ({} : Assume).holds Tryz.checked.prog (lone (Frame.enter Tryz.checked.prog 3 i.args .normal) [] (w.forCall tape i)) :=
  Hf.witness_of (enc := enc) (C := Tryz.checked) false args0 8 (wit1 os) (wit2 os) (by kernel_rfl) Tryz.func3 (by kernel_rfl) okArgs (wit3 os H enc) (wit4 os H enc)
set_option maxRecDepth 100000 in
set_option maxHeartbeats 2000000 in
theorem lifted (os : Os) (started : os.Started) (H : Type) (enc : TypeId × Value → H) :
    ReturnsInHanded {} Tryz.checked os 3 .any (Rows.fnGroupLikesSpec.pre6 enc Tryz.prog Tryz.f3 Rows.fnGroupLikesRow.domain false) (Rows.fnGroupLikesSpec.post enc Tryz.prog Tryz.f3 false true false false) := by
  refine returnsInHanded_of_change (C := Tryz.checked) own started (by kernel_rfl) Tryz.func3 (wit os H enc) ?_
  intro W base args ds gs before hval0 hW hcnd _
  have hval : ∀ (j : Nat) t v, Tryz.f3.params[j]? = some t → args[j]? = some v → Value.okWide Tryz.prog W .any base t v := hval0
  have hW' := hW
  obtain ⟨p, q, hA0, hV, rfl, hfz, hnd⟩ := hW
  have hA : DataW.TrodAll enc Tryz.prog W 0 (fun _ => true) true Tryz.f3.params.toList args.toList ds p := hA0
  rw [Tryz.params3] at hA hval
  obtain ⟨v0, vs0, d0, ds0, p0, q0, hargs, rfl, rfl, h0, r0⟩ := trodAll_cons hA
  obtain ⟨rfl, rfl, rfl⟩ := trodAll_nil r0
  obtain rfl : args = #[v0] := by cases args; simp_all
  obtain ⟨rfl, rfl⟩ := trodVars_none hV
  have k0 := h0
  have lt0 : ∀ x ∈ p0, x.block < W.heap.size := by obtain ⟨m, hm⟩ := k0; exact DataW.trod_lt m _ _ _ hm
  clear hA0 hval0 hargs
  have main : Calls Tryz.prog (Hf.rho 414) #[v0] W fun e W' => e = .returned (.bool true) ∧ Below W.heap.size W W' := by
    rcases Hf.open_bytes (show Tryz.prog.underlying 22 = some (.slice 5) by kernel_rfl) (show Tryz.prog.underlying 5 = some (.int .u8) by kernel_rfl) (by kernel_rfl) (hval 0 22 v0 rfl rfl) h0 with rfl | ⟨b, off, len, cap, C, T, fz, rfl, hblk, hLm, hLc⟩
    · have m := Hf.law_callsR (W := W) (al := [.sn]) (Hf.hrel_nil (σ := fun _ => 0)) (by simp) (Hf.l_FnGroupLikes_ok ⟨Hf.rho_fn, Hf.rho_mo⟩ Hf.e_l_FnGroupLikes (.inl rfl))
      simp only [List.map_cons, List.map_nil, Hf.ren] at m
      exact m
    · have m := Hf.law_callsR (W := W) (al := [.sl 0 off len cap]) (Hf.hrel_fo hblk) (by simp) (Hf.l_FnGroupLikes_ok ⟨Hf.rho_fn, Hf.rho_mo⟩ Hf.e_l_FnGroupLikes (.inr ⟨0, off, len, cap, true, C, fz, rfl, rfl, hLm, hLc⟩))
      simp only [List.map_cons, List.map_nil, Hf.ren] at m
      exact m
  rw [show Hf.rho 414 = 3 from by kernel_rfl] at main
  refine Calls.mono main fun e W' he => ?_
  obtain ⟨rfl, bel⟩ := he
  exact ⟨_, rfl, _, _, _, [], _, [], hW', trodAll_mk1 (shut_bool (show Tryz.prog.underlying 4 = some .bool by kernel_rfl) _), (trodAll_cons_mk (Below.trod laidOut (by kernel_rfl) (of_decide_eq_true (by kernel_rfl)) k0 bel lt0) trodAll_mk0), rfl, bel.frame _, fun h => by cases h⟩

theorem over : Rows.fnGroupLikesRow.holds Tryz.pinned (OpenSpec.ofChange Rows.fnGroupLikesSpec) :=
  OpenClaim.holds_of_wide 3 Tryz.f3 rfl rfl rfl rfl rfl rfl rfl ⟨rfl, rfl, rfl, rfl, rfl⟩ rfl rfl rfl rfl rfl (by kernel_rfl) Tryz.func3 (by kernel_rfl)
    (of_decide_eq_true (by kernel_rfl)) (by unfold Func.isWrapper; first | (rw [if_pos (by decide +kernel)]; kernel_rfl) | (rw [if_neg (by decide +kernel)]; exact ⟨rfl, rfl⟩))
    (fun os started H enc _ => lifted os started H enc)

theorem proved : Rows.FnGroupLikesSaid := over
end Go.Proofs.YtkkjaohppodccabGreat.fnGroupLikes
