/- Contracts of the functions that the law reaches. -/
import Derived.Test.YtnkalkaphkoamaaGreatRC2
set_option linter.unusedVariables false
set_option linter.unusedSimpArgs false
namespace Hf
open Go Classical
variable {P : Program} {ρ : Nat → FuncId}
theorem i_system_solve_ok (B : Bs P ρ) (E : F_i_system_solve P ρ) {m0 : Nat} {H : List Blk} {s m : Nat} {p n0 : Int} {R : List By} {T0 : List Int} (hp : 1 ≤ p) (hp2 : p ≤ 256) (hm : m ≤ 100000) (hS : SY m0 H s p n0 m R T0) (hlen : R.length ≤ 1000000) (hm0 : m0 ≤ H.length) :
    CallR P ρ 287 [.pt s 0] H (fun u G => u = .one (.b (solOK (m + 1) p R m)) ∧ SY m0 G s p n0 m ((solT (m + 1) p R m).1.take (solT (m + 1) p R m).2.length) (solT (m + 1) p R m).2 ∧ Upto m0 H G) := by
  obtain ⟨ra0, As0, pa0, hs0, hra0, hR0, hpa0, hnd0, hge0⟩ := hS
  refine call_of_q B.fn B.mo E.1 rfl (fun hAr hHp => ?_) (by simp [At.lt, lt_of hs0])
  refine ⟨H.length, rfl, ?_⟩
  refine ⟨_, _, get_new, rfl, ?_⟩
  refine ⟨_, _, _, app_old hs0, cput_rw (by simp) rfl, eqBk_rfl, ?_⟩
  refine ⟨_, rfl, ?_⟩
  refine ⟨_, _, _, get_new, cput_vr rfl, eqBk_rfl, ?_⟩
  obtain ⟨hI0, hK0, hU0⟩ := solve_start (B := ⟨false, .vr (.i .i64 ((0 : Nat) : Int))⟩) hs0 hra0 hR0 hpa0 hnd0 hge0 hm0
  refine ⟨At × List At × At × Nat × Nat, (fun a1 (i0 : Nat) (x0 : At × List At × At × Nat × Nat) => match x0 with | ⟨ra, As, pa, cb, d⟩ => [(1, a1), (3, .one (.i .i64 ((d : Nat) : Int))), (4, .one (.pt cb 0))]) _ , fun (i0 : Nat) (x0 : At × List At × At × Nat × Nat) (G0 : List Blk) => match x0 with | ⟨ra, As, pa, cb, d⟩ => (SolI m0 H.length s p n0 m (solT (m + 1) p R i0).1 (solT (m + 1) p R i0).2 G0 ra As pa ∧ G0[cb]? = some ⟨false, .vr (.i .i64 ((i0 : Nat) : Int))⟩ ∧ cb ∉ H.length :: OwnT s ra As pa ∧ m0 ≤ cb ∧ d = (solT (m + 1) p R i0).2.length ∧ Upto m0 H G0), m, ⟨⟨ra0, As0, .sn, _, 0⟩, ?_, ⟨rfl, rfl, rfl, trivial⟩⟩, ?_⟩
  · rw [app_set0]
    refine ⟨hI0, get_new, fun h => ?_, by simp; omega, rfl, hU0⟩
    have := hK0 _ h
    simp at this
  rintro i0 ⟨ra, As, pa, cb, d⟩ G0 hi0 ⟨hI, hcb, hcn, hc0, hd, hU⟩
  have hl := @solT_len (m + 1) p R i0
  have hAl := hI.frows.1
  refine ⟨_, _, hcb, rfl, ?_⟩
  refine ⟨_, _, hI.fkb, rfl, ?_⟩
  refine ⟨_, _, hI.fs, rfl, ?_⟩
  refine ⟨fun h16 => ?_, fun h16 => ?_⟩
  · replace h16 := of_decide_eq_true h16
    refine brB_t ?_
    refine ⟨_, _, hI.fkb, rfl, ?_⟩
    refine brB_t ?_
    refine brB_t ?_
    refine brB_t ?_
    refine ⟨_, _, hI.fs, rfl, ?_⟩
    refine brB_t ?_
    refine ⟨_, (hI.fra).len, ?_⟩
    refine brB_t ?_
    refine brB_t ?_
    refine ⟨fun h24 => ?_, fun h24 => ?_⟩
    · replace h24 := of_decide_eq_true h24
      subst hd
      have hd0 : (solT (m + 1) p R i0).2.length < R.length := by omega
      refine ⟨_, _, hI.fkb, rfl, ?_⟩
      refine ⟨_, _, hI.fs, rfl, ?_⟩
      obtain ⟨kr, cr, lr, rfl, hkr, ⟨hr1, hr2⟩, hr3⟩ := hI.fra.sl (by omega)
      obtain ⟨z, hz⟩ : ∃ z, firstQ (fun i => (solT (m + 1) p R i0).1.getD ((solT (m + 1) p R i0).2.length + i) z0 i0 != 0) (R.length - (solT (m + 1) p R i0).2.length) 0 = z := ⟨_, rfl⟩
      have hdl : (As.drop (solT (m + 1) p R i0).2.length).length = R.length - (solT (m + 1) p R i0).2.length := by simp; omega
      refine ⟨_, _, rfl, rfl, ⟨by omega, by omega⟩, ?_⟩
      refine ⟨_, x_IndexFunc_R_ok B E.2.2.1 (q := fun i => (solT (m + 1) p R i0).1.getD ((solT (m + 1) p R i0).2.length + i) z0 i0 != 0) (z := z) (by rw [hdl]; exact hz) (rdR_drop hkr ⟨hr1, hr2⟩ hr3 (by omega) _) (by simp [At.lt, lt_of hkr]) (by simp [At.lt, lt_of hcb]) (by omega) (fun i hi => by rw [drop_getD]; exact i_system_solve_1_ok B E.2.1 (hI.frows.at _ (by omega)) hcb (by omega)), ?_⟩
      rintro _ _ ⟨rfl, rfl⟩
      refine ⟨fun h36 => ?_, fun h36 => ?_⟩
      · replace h36 := of_decide_eq_true h36
        have hS : solT (m + 1) p R (i0 + 1) = solT (m + 1) p R i0 := by
          rw [solT_succ]; unfold solS
          rw [hl.1, hz, if_pos h36]
        refine ⟨_, _, hcb, rfl, ?_⟩
        refine ⟨_, rfl, ?_⟩
        refine ⟨_, _, _, get_new, cput_vr rfl, eqBk_rfl, ?_⟩
        refine ⟨_, _, set_same get_new, rfl, ?_⟩
        refine ⟨((i0 + 1 : Nat) : Int), w64_id _ (by omega) (by omega), ?_⟩
        refine ⟨_, _, _, set_same get_new, cput_vr rfl, eqBk_rfl, ?_⟩
        refine ⟨by omega, (.sl kr 0 As.length cr, As, pa, _, _), ?_, ⟨rfl, rfl, rfl, trivial⟩⟩
        dsimp only
        rw [app_set0, app_set0, hS]
        exact ⟨hI.ext Ext.app, get_new, fun h => absurd (hI.lt _ h) (by omega), by have := (hI.lt _ (List.mem_cons_self ..)); omega, rfl, hU.trans (Ext.app).upto⟩
      · replace h36 := of_decide_eq_false h36
        obtain ⟨k, hk, rfl⟩ : ∃ k, k < R.length - (solT (m + 1) p R i0).2.length ∧ z = (k : Int) := by
          rcases @firstQ_or (fun i => (solT (m + 1) p R i0).1.getD ((solT (m + 1) p R i0).2.length + i) z0 i0 != 0) (R.length - (solT (m + 1) p R i0).2.length) with ⟨e, -⟩ | ⟨k, hk, e, -⟩
          · omega
          · exact ⟨k, hk, by omega⟩
        have hS : solT (m + 1) p R (i0 + 1) = (clr (m + 1) p (swL z0 (solT (m + 1) p R i0).1 (solT (m + 1) p R i0).2.length ((solT (m + 1) p R i0).2.length + k)) (solT (m + 1) p R i0).2.length i0, (solT (m + 1) p R i0).2 ++ [(i0 : Int)]) := by
          rw [solT_succ]; unfold solS
          rw [hl.1, hz, if_neg h36, Int.toNat_natCast]
        refine ⟨_, _, hI.fkb, rfl, ?_⟩
        refine ⟨_, _, hI.fs, rfl, ?_⟩
        refine ⟨_, _, hI.fkb, rfl, ?_⟩
        refine ⟨_, _, hI.fs, rfl, ?_⟩
        refine ⟨(((solT (m + 1) p R i0).2.length + k : Nat) : Int), w64_id _ (by omega) (by omega), ?_⟩
        refine ⟨_, _, hI.fkb, rfl, ?_⟩
        refine ⟨_, _, hI.fs, rfl, ?_⟩
        refine ⟨(((solT (m + 1) p R i0).2.length + k : Nat) : Int), w64_id _ (by omega) (by omega), ?_⟩
        obtain ⟨k56, o56, n56, c56, q56, ea56, hl56, hq56, r56, l56, hk56, hi56⟩ := rdR_at (hI.fra.rd) (((solT (m + 1) p R i0).2.length + k)) (by omega)
        refine ⟨k56, o56, n56, c56, ((solT (m + 1) p R i0).2.length + k), q56, ea56, rfl, hl56, hq56, ?_⟩
        refine ⟨_, _, hk56, hi56, ?_⟩
        refine ⟨_, _, hI.fkb, rfl, ?_⟩
        refine ⟨_, _, hI.fs, rfl, ?_⟩
        obtain ⟨k63, o63, n63, c63, q63, ea63, hl63, hq63, r63, l63, hk63, hi63⟩ := rdR_at (hI.fra.rd) (((solT (m + 1) p R i0).2.length)) (by omega)
        refine ⟨k63, o63, n63, c63, ((solT (m + 1) p R i0).2.length), q63, ea63, rfl, hl63, hq63, ?_⟩
        refine ⟨_, _, hk63, hi63, ?_⟩
        have hca := (hI.frows.at ((solT (m + 1) p R i0).2.length + k) (by omega)).cell
        have hcb2 := (hI.frows.at (solT (m + 1) p R i0).2.length (by omega)).cell
        obtain ⟨k65, o65, n65, c65, q65, C65, ea65, hl65, hq65, hk65, hs65⟩ := Spn.st (hI.fra) (((solT (m + 1) p R i0).2.length)) (by omega)
        refine ⟨k65, o65, n65, c65, ((solT (m + 1) p R i0).2.length), q65, ea65, rfl, hl65, hq65, ?_⟩
        refine ⟨_, _, _, hk65, (hs65 _ hca).1, eqBk_rfl, ?_⟩
        obtain ⟨-, hsp1, hf1⟩ := hs65 _ hca
        obtain ⟨k66, o66, n66, c66, q66, C66, ea66, hl66, hq66, hk66, hs66⟩ := Spn.st (hsp1) (((solT (m + 1) p R i0).2.length + k)) (by rw [List.length_set]; omega)
        refine ⟨k66, o66, n66, c66, ((solT (m + 1) p R i0).2.length + k), q66, ea66, rfl, hl66, hq66, ?_⟩
        refine ⟨_, _, _, hk66, (hs66 _ hcb2).1, eqBk_rfl, ?_⟩
        obtain ⟨-, hsp2, hf2⟩ := hs66 _ hcb2
        have hI2 := hI.sw (i := (solT (m + 1) p R i0).2.length) (j := (solT (m + 1) p R i0).2.length + k) (by omega) (by omega) (hf1.trans hf2) hsp2
        have hcb3 := (hf1.trans hf2) _ _ (fun h => hcn (by simp [OwnT, h])) hcb
        refine ⟨_, _, hI2.fkb, rfl, ?_⟩
        refine ⟨_, _, hcb3, rfl, ?_⟩
        refine ⟨_, i_system_clear_ok B E.2.2.2.1 (d := (solT (m + 1) p R i0).2.length) (c := i0) hp hp2 hm hI2.fs hI2.fra hI2.frows (by have := hI2.nd; unfold OwnT at this; simp only [List.nodup_cons, List.nodup_append] at this; exact this.2.2.2.1.2.1) (by have := hI2.nd; unfold OwnT at this; simp only [List.nodup_cons, List.nodup_append, List.mem_append, not_or] at this; exact this.2.1.2.2) (fun k hk hq => by have := hI2.nd; unfold OwnT at this; simp only [List.nodup_cons, List.nodup_append] at this; exact this.2.2.2.1.2.2 k hk k hq rfl) (by rw [swL_len]; omega) (by rw [swL_len]; omega) (by omega), ?_⟩
        rintro _ G3 ⟨hc1, hc2⟩
        have hI3 := hI2.cl hc2 hc1
        have hcn2 : cb ∉ (swL At.sn As (solT (m + 1) p R i0).2.length ((solT (m + 1) p R i0).2.length + k)).map blkOf := by
          intro h
          refine hcn ?_
          have := ((swL_perm (z := At.sn) (L := As) (i := (solT (m + 1) p R i0).2.length) (j := (solT (m + 1) p R i0).2.length + k) (by omega) (by omega)).map blkOf).mem_iff.1 h
          unfold OwnT
          simp only [List.mem_cons, List.mem_append]
          exact .inr (.inr (.inr (.inr this)))
        have hcb4 := hc2 _ _ hcn2 hcb3
        refine ⟨_, _, hI3.fkb, rfl, ?_⟩
        refine ⟨_, _, hI3.fkb, rfl, ?_⟩
        refine ⟨_, _, hI3.fs, rfl, ?_⟩
        refine ⟨_, _, hcb4, rfl, ?_⟩
        refine ⟨_, rfl, ⟨kept1 hI3.fs (app_old hI3.fs), kept1 hI3.fkb (app_old hI3.fkb), kept1 hI3.fkb (app_old hI3.fkb), trivial⟩, ?_⟩
        refine ⟨_, spn_app (x := .i .i64 (i0 : Int)) (hI3.ext Ext.app).fpa ⟨false, _, get_new, by simp, rfl⟩ (by simp; omega) (by omega), ?_⟩
        rintro a78 G78 ⟨hp78, hf78, hb78, hl78⟩
        have hx3 : ∀ k, k = H.length ∨ k = s → k ∉ spB pa := by
          intro k hk hq
          have nd := hI3.nd
          simp only [OwnT, List.nodup_cons, List.nodup_append, List.mem_cons, List.mem_append, not_or] at nd
          grind
        have hkb78 := hf78 _ _ (hx3 _ (.inl rfl)) (app_old hI3.fkb)
        have hs78 := hf78 _ _ (hx3 _ (.inr rfl)) (app_old hI3.fs)
        refine ⟨⟨kept1 (app_old hI3.fs) hs78, kept1 (app_old hI3.fkb) hkb78, kept1 (app_old hI3.fkb) hkb78, trivial⟩, ?_⟩
        have hI4 := hI3.pl (T' := (solT (m + 1) p R i0).2 ++ [(i0 : Int)]) Ext.app hf78 (by rw [List.map_append]; exact hp78) (app_hb hb78) (by have := hI3.lt _ (List.mem_cons_self ..); omega)
        have hcb5 : cb ∉ spB pa ∧ cb ≠ s := by constructor <;> (intro h; exact hcn (by simp [OwnT, h]))
        have hcb6 := hf78 _ _ hcb5.1 (app_old hcb4)
        refine ⟨_, _, _, hs78, cput_rw (by simp) hp78.cell, eqBk_rfl, ?_⟩
        refine ⟨((((solT (m + 1) p R i0).2.length + 1 : Nat)) : Int), w64_id _ (by omega) (by omega), ?_⟩
        refine ⟨_, _, set_other hcb6 (Ne.symm hcb5.2), rfl, ?_⟩
        refine ⟨_, rfl, ?_⟩
        refine ⟨_, _, _, get_new, cput_vr rfl, eqBk_rfl, ?_⟩
        refine ⟨_, _, set_same get_new, rfl, ?_⟩
        refine ⟨((i0 + 1 : Nat) : Int), w64_id _ (by omega) (by omega), ?_⟩
        refine ⟨_, _, _, set_same get_new, cput_vr rfl, eqBk_rfl, ?_⟩
        refine ⟨by omega, (.sl kr 0 As.length cr, swL At.sn As (solT (m + 1) p R i0).2.length ((solT (m + 1) p R i0).2.length + k), a78, _, _), ?_, ⟨rfl, rfl, rfl, trivial⟩⟩
        dsimp only
        rw [app_set0, app_set0, hS]
        refine ⟨hI4.ext Ext.app, get_new, fun h => Nat.lt_irrefl _ (hI4.lt _ h), Nat.le_trans (hI4.ge _ (List.mem_cons_self ..)) (Nat.le_of_lt (hI4.lt _ (List.mem_cons_self ..))), by simp, ?_⟩
        have ge := hI.ge
        have ge3 := hI3.ge
        refine hU.trans (((hf1.trans hf2).upto fun k hk => ge k (by simp only [OwnT, List.mem_cons, List.mem_append]; simp [hk])).trans ((hc2.upto fun k hk => ge3 k (by simp only [OwnT, List.mem_cons, List.mem_append]; simp [hk])).trans ((Ext.app (G := _)).upto.trans ((hf78.upto fun k hk => ge3 k (by simp only [OwnT, List.mem_cons, List.mem_append]; simp [hk])).trans (Upto.trans (H1 := _) (fun k B hk e => set_other e ?_) (Ext.app (G := _)).upto)))))
        have := ge s (by simp [OwnT]); omega
    · replace h24 := of_decide_eq_false h24
      have hfin : solT (m + 1) p R m = solT (m + 1) p R i0 := by
        have := @solT_full (m + 1) p R i0 (m - i0) (by omega)
        rwa [show i0 + (m - i0) = m by omega] at this
      refine ⟨_, _, hI.fkb, rfl, ?_⟩
      refine ⟨_, _, hI.fs, rfl, ?_⟩
      have hR0l : As.length = R.length := by omega
      subst hd
      rcases hI.fra with ⟨rfl, rfl⟩ | ⟨kr, cr, lr, rfl, hkr, ⟨hr1, hr2⟩, hr3⟩
      · have hd0 : (solT (m + 1) p R i0).2.length = 0 := by have : ([] : List At).length = R.length := hR0l; simp at this; omega
        refine ⟨⟨by rw [hd0]; rfl, rfl⟩, ?_⟩
        refine ⟨_, _, hI.fkb, rfl, ?_⟩
        refine ⟨_, _, hI.fkb, rfl, ?_⟩
        refine ⟨_, _, hI.fs, rfl, ?_⟩
        refine ⟨⟨rfl, by rw [hd0]; rfl⟩, ?_⟩
        obtain ⟨hD, hf9⟩ := hI.done (d := 0) (ra' := .sn) (by omega) rfl (.inl ⟨rfl, rfl⟩)
        refine ⟨_, _, _, hI.fs, cput_rw (by simp) rfl, eqBk_rfl, ?_⟩
        obtain ⟨z, hz⟩ : ∃ z, firstQ (fun i => (solT (m + 1) p R i0).1.getD ((solT (m + 1) p R i0).2.length + i) z0 m != 0) (R.length - (solT (m + 1) p R i0).2.length) 0 = z := ⟨_, rfl⟩
        have hkb9 := hf9 _ _ (by have nd := hI.nd; simp [OwnT] at nd ⊢; grind) hI.fkb
        have hs9 : ∀ ra', (List.set _ s (sysB p n0 m ra' pa))[s]? = some (sysB p n0 m ra' pa) := fun ra' => set_same hI.fs
        refine ⟨_, x_ContainsFunc_R_ok B E.2.2.2.2.2 (a := .sn) (As := []) (q := fun i => (solT (m + 1) p R i0).1.getD ((solT (m + 1) p R i0).2.length + i) z0 m != 0) (z := z) (by rw [← hz, ← hR0l, hd0]; rfl) rfl rfl (by have := lt_of hI.fkb; simp [At.lt]; omega) (by simp) (fun i hi => by simp at hi), ?_⟩
        rintro _ _ ⟨rfl, rfl⟩
        refine ⟨rfl, by unfold solOK; rw [hfin, hz]; rfl, ?_, ?_⟩
        · rw [hfin]; first | exact hD | (rw [hd0]; exact hD)
        · exact hU.trans (hf9.upto fun k hk => by have := hI.ge s (by simp [OwnT]); simp at hk; omega)
      · refine ⟨_, As.length, rfl, rfl, ⟨by omega, by omega⟩, ?_⟩
        refine ⟨_, _, hI.fkb, rfl, ?_⟩
        refine ⟨_, _, hI.fkb, rfl, ?_⟩
        refine ⟨_, _, hI.fs, rfl, ?_⟩
        refine ⟨0, _, rfl, rfl, ⟨by omega, by omega⟩, ?_⟩
        obtain ⟨hD, hf9⟩ := hI.done (d := (solT (m + 1) p R i0).2.length) (ra' := .sl kr (if cr = 0 then 0 else 0 + 0 * 1) ((solT (m + 1) p R i0).2.length - 0) (cr - 0)) (by omega) rfl (by refine spn_take ?_ ⟨hr1, hr2⟩ hr3 (by omega); exact set_other hkr (by intro q; have nd := hI.nd; subst q; simp [OwnT, spB] at nd))
        refine ⟨_, _, _, hI.fs, cput_rw (by simp) rfl, eqBk_rfl, ?_⟩
        obtain ⟨z, hz⟩ : ∃ z, firstQ (fun i => (solT (m + 1) p R i0).1.getD ((solT (m + 1) p R i0).2.length + i) z0 m != 0) (R.length - (solT (m + 1) p R i0).2.length) 0 = z := ⟨_, rfl⟩
        have hkb9 := hf9 _ _ (by have nd := hI.nd; simp [OwnT] at nd ⊢; grind) hI.fkb
        have hkr9 : kr ∉ [s] := by have nd := hI.nd; simp [OwnT, spB] at nd ⊢; grind
        have hrow9 : ∀ i, i < As.length → blkOf (As.getD i .sn) ∉ [s] := by
          intro i hi
          have nd := hI.nd
          have := map_getD hi
          simp only [OwnT, List.nodup_cons, List.nodup_append, List.mem_cons, List.mem_append, not_or, List.not_mem_nil, or_false] at nd ⊢
          intro q
          grind
        refine ⟨_, x_ContainsFunc_R_ok B E.2.2.2.2.2 (As := As.drop (solT (m + 1) p R i0).2.length) (q := fun i => (solT (m + 1) p R i0).1.getD ((solT (m + 1) p R i0).2.length + i) z0 m != 0) (z := z) (by rw [← hz, List.length_drop, hR0l]) (rdR_drop (hf9 _ _ hkr9 hkr) ⟨hr1, hr2⟩ hr3 (by omega) _) (by simp [At.lt]; have := lt_of hkr; omega) (by have := lt_of hI.fkb; simp [At.lt]; omega) (by rw [List.length_drop]; omega) (fun i hi => by rw [List.length_drop] at hi; rw [drop_getD]; exact i_system_solve_2_ok B E.2.2.2.2.1 ((hI.frows.at _ (by omega)).fr hf9 (hrow9 _ (by omega))) hkb9 (set_same hI.fs)), ?_⟩
        rintro _ _ ⟨rfl, rfl⟩
        refine ⟨rfl, by unfold solOK; rw [hfin, hz]; rfl, ?_, ?_⟩
        · rw [hfin]; first | exact hD | (rw [hd0]; exact hD)
        · exact hU.trans (hf9.upto fun k hk => by have := hI.ge s (by simp [OwnT]); simp at hk; omega)
  · replace h16 := of_decide_eq_false h16
    have e0 : i0 = m := by omega
    have hfin : solT (m + 1) p R m = solT (m + 1) p R i0 := by rw [e0]
    refine brB_f ?_
    refine brB_f ?_
    refine brB_f ?_
    refine brB_f ?_
    refine brB_f ?_
    refine brB_f ?_
    refine brB_f ?_
    refine brB_f ?_
    refine ⟨_, _, hI.fkb, rfl, ?_⟩
    refine ⟨_, _, hI.fs, rfl, ?_⟩
    have hR0l : As.length = R.length := by omega
    subst hd
    rcases hI.fra with ⟨rfl, rfl⟩ | ⟨kr, cr, lr, rfl, hkr, ⟨hr1, hr2⟩, hr3⟩
    · have hd0 : (solT (m + 1) p R i0).2.length = 0 := by have : ([] : List At).length = R.length := hR0l; simp at this; omega
      refine ⟨⟨by rw [hd0]; rfl, rfl⟩, ?_⟩
      refine ⟨_, _, hI.fkb, rfl, ?_⟩
      refine ⟨_, _, hI.fkb, rfl, ?_⟩
      refine ⟨_, _, hI.fs, rfl, ?_⟩
      refine ⟨⟨rfl, by rw [hd0]; rfl⟩, ?_⟩
      obtain ⟨hD, hf9⟩ := hI.done (d := 0) (ra' := .sn) (by omega) rfl (.inl ⟨rfl, rfl⟩)
      refine ⟨_, _, _, hI.fs, cput_rw (by simp) rfl, eqBk_rfl, ?_⟩
      obtain ⟨z, hz⟩ : ∃ z, firstQ (fun i => (solT (m + 1) p R i0).1.getD ((solT (m + 1) p R i0).2.length + i) z0 m != 0) (R.length - (solT (m + 1) p R i0).2.length) 0 = z := ⟨_, rfl⟩
      have hkb9 := hf9 _ _ (by have nd := hI.nd; simp [OwnT] at nd ⊢; grind) hI.fkb
      have hs9 : ∀ ra', (List.set _ s (sysB p n0 m ra' pa))[s]? = some (sysB p n0 m ra' pa) := fun ra' => set_same hI.fs
      refine ⟨_, x_ContainsFunc_R_ok B E.2.2.2.2.2 (a := .sn) (As := []) (q := fun i => (solT (m + 1) p R i0).1.getD ((solT (m + 1) p R i0).2.length + i) z0 m != 0) (z := z) (by rw [← hz, ← hR0l, hd0]; rfl) rfl rfl (by have := lt_of hI.fkb; simp [At.lt]; omega) (by simp) (fun i hi => by simp at hi), ?_⟩
      rintro _ _ ⟨rfl, rfl⟩
      refine ⟨rfl, by unfold solOK; rw [hfin, hz]; rfl, ?_, ?_⟩
      · rw [hfin]; first | exact hD | (rw [hd0]; exact hD)
      · exact hU.trans (hf9.upto fun k hk => by have := hI.ge s (by simp [OwnT]); simp at hk; omega)
    · refine ⟨_, As.length, rfl, rfl, ⟨by omega, by omega⟩, ?_⟩
      refine ⟨_, _, hI.fkb, rfl, ?_⟩
      refine ⟨_, _, hI.fkb, rfl, ?_⟩
      refine ⟨_, _, hI.fs, rfl, ?_⟩
      refine ⟨0, _, rfl, rfl, ⟨by omega, by omega⟩, ?_⟩
      obtain ⟨hD, hf9⟩ := hI.done (d := (solT (m + 1) p R i0).2.length) (ra' := .sl kr (if cr = 0 then 0 else 0 + 0 * 1) ((solT (m + 1) p R i0).2.length - 0) (cr - 0)) (by omega) rfl (by refine spn_take ?_ ⟨hr1, hr2⟩ hr3 (by omega); exact set_other hkr (by intro q; have nd := hI.nd; subst q; simp [OwnT, spB] at nd))
      refine ⟨_, _, _, hI.fs, cput_rw (by simp) rfl, eqBk_rfl, ?_⟩
      obtain ⟨z, hz⟩ : ∃ z, firstQ (fun i => (solT (m + 1) p R i0).1.getD ((solT (m + 1) p R i0).2.length + i) z0 m != 0) (R.length - (solT (m + 1) p R i0).2.length) 0 = z := ⟨_, rfl⟩
      have hkb9 := hf9 _ _ (by have nd := hI.nd; simp [OwnT] at nd ⊢; grind) hI.fkb
      have hkr9 : kr ∉ [s] := by have nd := hI.nd; simp [OwnT, spB] at nd ⊢; grind
      have hrow9 : ∀ i, i < As.length → blkOf (As.getD i .sn) ∉ [s] := by
        intro i hi
        have nd := hI.nd
        have := map_getD hi
        simp only [OwnT, List.nodup_cons, List.nodup_append, List.mem_cons, List.mem_append, not_or, List.not_mem_nil, or_false] at nd ⊢
        intro q
        grind
      refine ⟨_, x_ContainsFunc_R_ok B E.2.2.2.2.2 (As := As.drop (solT (m + 1) p R i0).2.length) (q := fun i => (solT (m + 1) p R i0).1.getD ((solT (m + 1) p R i0).2.length + i) z0 m != 0) (z := z) (by rw [← hz, List.length_drop, hR0l]) (rdR_drop (hf9 _ _ hkr9 hkr) ⟨hr1, hr2⟩ hr3 (by omega) _) (by simp [At.lt]; have := lt_of hkr; omega) (by have := lt_of hI.fkb; simp [At.lt]; omega) (by rw [List.length_drop]; omega) (fun i hi => by rw [List.length_drop] at hi; rw [drop_getD]; exact i_system_solve_2_ok B E.2.2.2.2.1 ((hI.frows.at _ (by omega)).fr hf9 (hrow9 _ (by omega))) hkb9 (set_same hI.fs)), ?_⟩
      rintro _ _ ⟨rfl, rfl⟩
      refine ⟨rfl, by unfold solOK; rw [hfin, hz]; rfl, ?_, ?_⟩
      · rw [hfin]; first | exact hD | (rw [hd0]; exact hD)
      · exact hU.trans (hf9.upto fun k hk => by have := hI.ge s (by simp [OwnT]); simp at hk; omega)

end Hf
namespace Hf
open Go Classical
variable {P : Program} {ρ : Nat → FuncId}
theorem CallOK.at0 {f : Nat} {as : List At} {H : List Blk} {v : Sv} (h : CallOK P ρ f as [] v []) (ha : as = as.map (mva (tau [] H.length))) (hv : mvs (tau [] H.length) v = v) : CallR P ρ f as H fun u G => u = v ∧ G = H :=
  (h.emb [] ha trivial rfl hv (by simp [back])).r
/-- a call that reads one block -/
theorem CallOK.at1 {f k : Nat} {as args : List At} {H : List Blk} {v : Sv} {r : Bool} {hd : List Int} {N : Nat} {g : By} (hk : H[k]? = some ⟨r, .by hd N g⟩) (h : CallOK P ρ f as [⟨true, .by hd N g⟩] v [⟨true, .by hd N g⟩]) (ha : args = as.map (mva (tau [k] H.length))) (hv : mvs (tau [k] H.length) v = v) :
    CallR P ρ f args H fun u G => u = v ∧ G = H :=
  (h.emb [k] ha ⟨⟨r, hk, fun h => by cases h⟩, trivial⟩ rfl hv (by simp [back])).r
/-- and one that reads two -/
theorem CallOK.at2 {f k k' : Nat} {as args : List At} {H : List Blk} {v : Sv} {r r' : Bool} {hd hd' : List Int} {N N' : Nat} {g g' : By} (hk : H[k]? = some ⟨r, .by hd N g⟩) (hk' : H[k']? = some ⟨r', .by hd' N' g'⟩)
    (h : CallOK P ρ f as [⟨true, .by hd N g⟩, ⟨true, .by hd' N' g'⟩] v [⟨true, .by hd N g⟩, ⟨true, .by hd' N' g'⟩]) (ha : args = as.map (mva (tau [k, k'] H.length))) (hv : mvs (tau [k, k'] H.length) v = v) :
    CallR P ρ f args H fun u G => u = v ∧ G = H :=
  (h.emb [k, k'] ha ⟨⟨r, hk, fun h => by cases h⟩, ⟨r', hk', fun h => by cases h⟩, trivial⟩ (by simp [apart]) hv (by simp [back])).r

/-! ### the rows of a matrix -/
def rw8 (g : By) (i : Nat) : By := fun x => if x < 8 then g (i * 8 + x) else 0
def rows8 (g : By) : List By := (List.range 8).map (rw8 g)
theorem rows8_at {g : By} {i : Nat} (h : i < 8) : (rows8 g).getD i z0 = rw8 g i := by simp [rows8, List.getD_eq_getElem?_getD, h]
theorem VS.ag {H : List Blk} {k : Nat} {r : Bool} {g : By} (h : H[k]? = some ⟨r, .by [] 64 g⟩) : VS H (.sl k 0 8 8) (rows8 g) := by
  refine .inr ⟨k, 0, 8, r, 64, g, by simp [rows8], h, by simp [rows8], fun i x hi hx => ?_⟩
  have hi : i < 8 := by simpa [rows8] using hi
  rw [rows8_at hi, rw8, if_pos hx, Nat.zero_add]
theorem VW.one {H : List Blk} {m : Nat} {v : By} (hm : m ≤ H.length) : VW m (H ++ [⟨false, .by [] (1 * 8) (spl (fun _ => 0) (0 * 8) 8 v)⟩]) (.sl H.length 0 1 1) [v] := by
  refine ⟨H.length, 0, 1, _, _, rfl, get_new, ⟨by omega, by simp, hm⟩, fun i x h hx => ?_⟩
  obtain rfl : i = 0 := by simpa using h
  simp [spl, hx]
/-- a slice that may be nil -/
def VM (m : Nat) (H : List Blk) (a : At) (L : List By) : Prop := (a = .sn ∧ L = []) ∨ VW m H a L
theorem VM.vs {m : Nat} {H : List Blk} {a : At} {L : List By} (h : VM m H a L) : VS H a L := by
  rcases h with h | h
  · exact .inl h
  · exact h.vs
theorem VM.vw {m : Nat} {H : List Blk} {a : At} {L : List By} (h : VM m H a L) (hl : 0 < L.length) : VW m H a L := by
  rcases h with ⟨-, rfl⟩ | h
  · simp at hl
  · exact h
theorem VM.nil {m : Nat} {H : List Blk} : VM m H .sn [] := .inl ⟨rfl, rfl⟩
theorem VM.mono {m m' : Nat} {H : List Blk} {a : At} {L : List By} (h : VM m H a L) (hm : m' ≤ m) : VM m' H a L := h.imp id fun h => h.mono hm
theorem VM.ext {m : Nat} {H H' : List Blk} {a : At} {L : List By} (h : VM m H a L) (e : Ext H H') : VM m H' a L := h.imp id fun h => h.ext e
theorem VS.upto {m : Nat} {H H' : List Blk} {a : At} {L : List By} (h : VS H a L) (hm : H.length ≤ m) (e : Upto m H H') : VS H' a L := h.ext fun k B hk => e k B (by have := lt_of hk; omega) hk

theorem brB_f' {b : Bool} {K : Bool → Prop} (hb : b = false) (h : K false) : brB b K := by subst hb; exact brB_f h
theorem VW.congr {m : Nat} {H : List Blk} {a : At} {L L' : List By} (h : VW m H a L) (hl : L'.length = L.length) (e : ∀ i x, i < L.length → x < 8 → (L.getD i z0) x = (L'.getD i z0) x) : VW m H a L' := by
  obtain ⟨k, off, cap, N, f, rfl, h2, h3, h4⟩ := h
  exact ⟨k, off, cap, N, f, by rw [hl], h2, by rw [hl]; exact h3, fun i x hi hx => by rw [hl] at hi; rw [h4 i x hi hx]; exact e i x hi hx⟩
/-- an entry is written -/
theorem VW.st {m : Nat} {H : List Blk} {a : At} {L : List By} (h : VW m H a L) (i : Nat) (hi : i < L.length) :
    ∃ k off len cap q c, a = .sl k off len cap ∧ i < len ∧ off + i * 8 = q ∧ H[k]? = some ⟨false, c⟩ ∧ ∀ x b, x < 8 → cput c (q + x) (.u b) = some (bput c (q + x) b) ∧
      (∀ L', L'.length = L.length → (∀ j y, j < L.length → y < 8 → (L'.getD j z0) y = if j = i ∧ y = x then b else (L.getD j z0) y) → VW m (H.set k ⟨false, bput c (q + x) b⟩) a L') ∧ Upto m H (H.set k ⟨false, bput c (q + x) b⟩) := by
  obtain ⟨k, off, cap, N, f, rfl, h2, h3, h4⟩ := h
  refine ⟨k, off, L.length, cap, off + i * 8, _, rfl, hi, rfl, h2, fun x b hx => ⟨cput_u (by simp) (by omega), fun L' hl he => ⟨k, off, cap, N, upd f (off + i * 8 + x) b, by rw [hl], set_same h2, by rw [hl]; exact h3, fun j y hj hy => ?_⟩, fun j B hj e => set_other e (by omega)⟩⟩
  rw [hl] at hj
  rw [he j y hj hy]
  unfold upd
  by_cases e : j = i ∧ y = x
  · rw [if_pos e, if_pos (by omega)]
  · rw [if_neg e, if_neg (by omega)]
    exact h4 j y hj hy
end Hf
namespace Hf
open Go Classical
variable {P : Program} {ρ : Nat → FuncId}
theorem x_IndexFunc_V2_ok (B : Bs P ρ) (E : F_x_IndexFunc_V2 P ρ) {g : Nat} {caps : List (Nat × Nat)} {H : List Blk} {a : At} {L : List By} {q : Nat → Bool} {z : Int} (hz : firstQ q L.length 0 = z) (hA : VS H a L) (hcaps : (At.fn g [] caps).lt H.length = true) (hlen : L.length ≤ 1000000) (hq : ∀ i, i < L.length → CallR P ρ g ([.ag [] 8 (L.getD i z0)] ++ caps.map (fun p => .pt p.1 p.2)) H fun u G => u = .one (.b (q i)) ∧ G = H) :
    CallR P ρ 91 [a, .fn g [] caps] H (fun u G => u = .one (.i .i64 z) ∧ G = H) := by
  refine call_of_q B.fn B.mo E rfl (fun hAr hHp => ?_) (by simp only [List.all_cons, List.all_nil, hA.lt, hcaps]; rfl)
  refine ⟨_, (hA).len, ?_⟩
  refine ⟨Unit, (fun a0 a1 a7 (i0 : Nat) (x0 : Unit) => [(0, a0), (1, a1), (7, a7), (8, .one (.i .i64 ((i0 : Nat) : Int)))]) _ _ _ , fun (i0 : Nat) (x0 : Unit) (G0 : List Blk) => (G0 = H ∧ ∀ j, j < i0 → q j = false), L.length, ⟨(), ⟨rfl, fun j h => by omega⟩, ⟨rfl, rfl, rfl, rfl, trivial⟩⟩, ?_⟩
  rintro i0 _ G0 hi0 ⟨rfl, hF0⟩
  refine ⟨fun h9 => ?_, fun h9 => ?_⟩
  · replace h9 := of_decide_eq_true h9
    obtain ⟨k14, o14, n14, c14, q14, ea14, hl14, hq14, r14, N14, f14, hk14, hN14, hf14⟩ := (hA).at i0 (by omega)
    refine ⟨k14, o14, n14, c14, i0, q14, ea14, rfl, hl14, hq14, ?_⟩
    refine ⟨_, _, _, _, _, hk14, ⟨by simp, hN14⟩, hf14, ?_⟩
    refine ⟨_, hq i0 (by omega), ?_⟩
    rintro _ _ ⟨rfl, rfl⟩
    refine ⟨fun h16 => ?_, fun h16 => ?_⟩
    · skip
      have e : z = (i0 : Int) := hz.symm.trans <| firstQ_some (by omega) (by omega) h16 fun j _ h => hF0 j h
      exact ⟨rfl, by rw [e]; rfl, rfl⟩
    · skip
      refine ⟨((i0 + 1 : Nat) : Int), w64_id _ (by omega) (by omega), ?_⟩
      refine ⟨by omega, (), ?_, ⟨rfl, rfl, rfl, rfl, trivial⟩⟩
      refine ⟨rfl, fun j hj => ?_⟩
      by_cases e : j = i0
      · subst e; exact h16
      · exact hF0 j (by omega)
  · replace h9 := of_decide_eq_false h9
    have e0 : L.length = i0 := by omega
    subst e0
    have e : z = -1 := hz.symm.trans <| firstQ_none fun j _ h => hF0 j (by omega)
    exact ⟨rfl, by rw [e]; rfl, rfl⟩

theorem x_ContainsFunc_V2_ok (B : Bs P ρ) (E : F_x_ContainsFunc_V2 P ρ) {g : Nat} {caps : List (Nat × Nat)} {H : List Blk} {a : At} {L : List By} {q : Nat → Bool} (hA : VS H a L) (hcaps : (At.fn g [] caps).lt H.length = true) (hlen : L.length ≤ 1000000) (hq : ∀ i, i < L.length → CallR P ρ g ([.ag [] 8 (L.getD i z0)] ++ caps.map (fun p => .pt p.1 p.2)) H fun u G => u = .one (.b (q i)) ∧ G = H) :
    CallR P ρ 70 [a, .fn g [] caps] H (fun u G => u = .one (.b (decide (∃ i, i < L.length ∧ q i = true))) ∧ G = H) := by
  refine call_of_q B.fn B.mo E.1 rfl (fun hAr hHp => ?_) (by simp only [List.all_cons, List.all_nil, hA.lt, hcaps]; rfl)
  refine ⟨_, x_IndexFunc_V2_ok B E.2 rfl hA hcaps hlen hq, ?_⟩
  rintro _ _ ⟨rfl, rfl⟩
  refine ⟨rfl, ?_, rfl⟩
  have e : decide (∃ i, i < L.length ∧ q i = true) = decide (firstQ q L.length 0 ≥ 0) := by
    refine decide_eq_decide.2 ?_
    show _ ↔ 0 ≤ _
    rw [firstQ_nn]
    exact ⟨fun ⟨i, h1, h2⟩ => ⟨i, by omega, by omega, h2⟩, fun ⟨i, _, h1, h2⟩ => ⟨i, by omega, h2⟩⟩
  rw [e]; rfl

theorem x_IndexFunc_B_ok (B : Bs P ρ) (E : F_x_IndexFunc_B P ρ) {g k off n cap N : Nat} {caps : List (Nat × Nat)} {H : List Blk} {r : Bool} {f : By} {q : Nat → Bool} {z : Int} (hz : firstQ q n 0 = z) (hk : H[k]? = some ⟨r, .by [] N f⟩) (hN : off + n ≤ N) (hcaps : (At.fn g [] caps).lt H.length = true) (hlen : n ≤ 1000000) (hq : ∀ i, i < n → CallR P ρ g ([.u (f (off + i * 1))] ++ caps.map (fun p => .pt p.1 p.2)) H fun u G => u = .one (.b (q i)) ∧ G = H) :
    CallR P ρ 319 [.sl k off n cap, .fn g [] caps] H (fun u G => u = .one (.i .i64 z) ∧ G = H) := by
  refine call_of_q B.fn B.mo E rfl (fun hAr hHp => ?_) (by simp only [List.all_cons, List.all_nil, hcaps]; simp [At.lt, lt_of hk])
  refine ⟨_, rfl, ?_⟩
  refine ⟨Unit, (fun a0 a1 a7 (i0 : Nat) (x0 : Unit) => [(0, a0), (1, a1), (7, a7), (8, .one (.i .i64 ((i0 : Nat) : Int)))]) _ _ _ , fun (i0 : Nat) (x0 : Unit) (G0 : List Blk) => (G0 = H ∧ ∀ j, j < i0 → q j = false), n, ⟨(), ⟨rfl, fun j h => by omega⟩, ⟨rfl, rfl, rfl, rfl, trivial⟩⟩, ?_⟩
  rintro i0 _ G0 hi0 ⟨rfl, hF0⟩
  refine ⟨fun h9 => ?_, fun h9 => ?_⟩
  · replace h9 := of_decide_eq_true h9
    refine ⟨_, _, _, _, _, _, rfl, rfl, by omega, rfl, ?_⟩
    refine ⟨_, _, hk, cat_u (by omega), ?_⟩
    refine ⟨_, hq i0 (by omega), ?_⟩
    rintro _ _ ⟨rfl, rfl⟩
    refine ⟨fun h16 => ?_, fun h16 => ?_⟩
    · skip
      have e : z = (i0 : Int) := hz.symm.trans <| firstQ_some (by omega) (by omega) h16 fun j _ h => hF0 j h
      exact ⟨rfl, by rw [e]; rfl, rfl⟩
    · skip
      refine ⟨((i0 + 1 : Nat) : Int), w64_id _ (by omega) (by omega), ?_⟩
      refine ⟨by omega, (), ?_, ⟨rfl, rfl, rfl, rfl, trivial⟩⟩
      refine ⟨rfl, fun j hj => ?_⟩
      by_cases e : j = i0
      · subst e; exact h16
      · exact hF0 j (by omega)
  · replace h9 := of_decide_eq_false h9
    have e0 : n = i0 := by omega
    subst e0
    have e : z = -1 := hz.symm.trans <| firstQ_none fun j _ h => hF0 j (by omega)
    exact ⟨rfl, by rw [e]; rfl, rfl⟩

theorem i_lead_1_ok (B : Bs P ρ) (E : F_i_lead_1 P ρ) {x : UInt8} :
    CallOK P ρ 320 [.u x] [] (.one (.b (x != 0))) [] := by
  refine (CallR.pure (call_of_q B.fn B.mo E rfl (fun _ _ => ?_) rfl) rfl).ok
  exact ⟨rfl, rfl, Ext.nil⟩

/-- the place of the first entry other than 0, or -1 -/
def ldI (v : By) : Int := if fst8 v < 8 then ((fst8 v : Nat) : Int) else -1
theorem ldI_eq {v : By} : firstQ (fun i => v (0 + 0 * 1 + i * 1) != 0) (8 - 0) 0 = ldI v := by
  have e0 : (fun i => v (0 + 0 * 1 + i * 1) != 0) = fun i => v i != 0 := funext fun i => by rw [show 0 + 0 * 1 + i * 1 = i by omega]
  rw [e0]
  have hle := @fst8_le v
  unfold ldI
  by_cases h : fst8 v < 8
  · rw [if_pos h]
    have h1 : (v (fst8 v) != 0) = true := @fstN_some (fun i => v i != 0) 8 0 (by unfold fst8 at h; omega)
    exact firstQ_some (by omega) (by omega) h1 fun j _ hj => @fstN_none (fun i => v i != 0) 8 0 j (by omega) hj
  · rw [if_neg h]
    exact firstQ_none fun j _ hj => @fstN_none (fun i => v i != 0) 8 0 j (by omega) (by unfold fst8 at h; omega)
theorem ldI_lt {v : By} (h : fst8 v < 8) : ldI v = ((fst8 v : Nat) : Int) := if_pos h
theorem i_lead_ok (B : Bs P ρ) (E : F_i_lead P ρ) {v : By} :
    CallOK P ρ 316 [.ag [] 8 v] [] (.one (.i .i64 (ldI v))) [] := by
  refine (CallR.pure (call_of_q B.fn B.mo E.1 rfl (fun _ _ => ?_) rfl) rfl).ok
  refine ⟨_, rfl, ?_⟩
  refine ⟨0, 8, rfl, rfl, ⟨by omega, by omega, by omega⟩, ?_⟩
  refine ⟨_, x_IndexFunc_B_ok B E.2.1 (f := v) (q := fun i => v (0 + 0 * 1 + i * 1) != 0) ldI_eq get_new (by omega) rfl (by omega) (fun i hi => (i_lead_1_ok B E.2.2).at0 rfl rfl), ?_⟩
  rintro _ _ ⟨rfl, rfl⟩
  exact ⟨rfl, rfl, Ext.nil⟩

theorem plus_at (B : Bs P ρ) (E : E_i_field_plus P ρ) {H : List Blk} {k off N : Nat} {p n c : Int} {g0 w f : By} {hd : List Int} (hk : H[k]? = some ⟨false, .by hd N f⟩) (hp : 1 ≤ p) (hp2 : p ≤ 1000) (ho : hd.length ≤ off) (hN : off + 8 ≤ N) (hc : -1000000000000 ≤ c) (hc2 : c ≤ 1000000000000) (hf : ∀ x, off ≤ x → x < off + 8 → bz f x < p) :
    CallR P ρ 71 [.ag [p, n] 2 g0, .pt k off, .i .i64 c, .ag [] 8 w] H fun u G => u = .tup [] ∧ G = H.set k ⟨false, .by hd N (plsN p f off c w 8)⟩ :=
  ((i_field_plus_ok B E (p := p) (n := n) (k := c) (g0 := g0) (w := w) (f := f) (hd := hd) (N := N) (off := off) hp hp2 ho hN hc hc2 hf).emb (H := H) (H' := H.set k ⟨false, .by hd N (plsN p f off c w 8)⟩) (args := [.ag [p, n] 2 g0, .pt k off, .i .i64 c, .ag [] 8 w]) [k] rfl ⟨⟨_, hk, fun _ => rfl⟩, trivial⟩ rfl rfl (by simp [back]; rfl)).r
theorem byL1_pls {p : Int} {v w r : By} (hp : 1 ≤ p) (hv : ∀ y, y < 8 → bz w y < p) (h : ∀ y, y < 8 → w y = v y) (hr : fst8 r < 8) : ∀ y, y < 8 → plsN p w 0 (-(bz w (fst8 r))) r 8 y = byL1 p v r y := by
  intro y hy
  unfold byL1
  by_cases e : v (fst8 r) = 0
  · rw [if_pos e, bz_eq0.2 ((h _ hr).trans e), Int.neg_zero, plsN_k0 fun x _ hx => hv x (by omega)]
    exact h y hy
  · rw [if_neg e]
    simp only [plsN, addV, vec]
    rw [if_pos (by omega), if_pos hy]
    simp only [bz, Nat.sub_zero]
    rw [h y hy, h _ hr]
theorem i_field_rest_ok (B : Bs P ρ) (E : F_i_field_rest P ρ) {p n : Int} {g v : By} {H : List Blk} {a : At} {L : List By} (hp : 1 ≤ p) (hp2 : p ≤ 256) (hv : ∀ x, x < 8 → bz v x < p) (hL : VS H a L) (hl : ∀ r ∈ L, fst8 r < 8) (hlen : L.length ≤ 1000000) :
    CallR P ρ 379 [.ag [p, n] 2 g, a, .ag [] 8 v] H (fun u G => u = .one (.ag [] 8 (byL p v L)) ∧ G = H) := by
  refine CallR.pure (call_of_q B.fn B.mo E.1 rfl (fun hA hH => ?_) (by simp only [List.all_cons, List.all_nil, hL.lt]; rfl)) rfl
  refine ⟨_, rfl, ?_⟩
  refine ⟨H.length + 1, by simp, ?_⟩
  refine ⟨H.length + 2, by simp, ?_⟩
  refine ⟨_, (hL).len, ?_⟩
  refine ⟨Unit, (fun a3 a5 a6 a9 a10 (i0 : Nat) (x0 : Unit) => [(3, a3), (5, a5), (6, a6), (9, a9), (10, a10), (11, .one (.i .i64 ((i0 : Nat) : Int)))]) _ _ _ _ _ , fun (i0 : Nat) (x0 : Unit) (G0 : List Blk) => (∃ w, (G0[H.length]? = some ⟨false, .by [p, n] 2 g⟩ ∧ G0[H.length + 1]? = some ⟨false, .by [] 8 w⟩ ∧ G0[H.length + 2]? = some ⟨false, .by [] 8 fun _ => 0⟩) ∧ Ext H G0 ∧ (∀ y, y < 8 → bz w y < p) ∧ ∀ y, y < 8 → w y = byL p v (L.take i0) y), L.length, ⟨(), ?_, ⟨rfl, rfl, rfl, rfl, rfl, rfl, trivial⟩⟩, ?_⟩
  · refine ⟨v, ⟨by simp, by simp, by simp; rfl⟩, Ext.app.trans (Ext.app.trans Ext.app), hv, fun _ _ => rfl⟩
  rintro i0 _ G0 hi0 ⟨w, ⟨hb3, hb5, hb6⟩, hE0, hwp, hw⟩
  refine ⟨fun h12 => ?_, fun h12 => ?_⟩
  · replace h12 := of_decide_eq_true h12
    obtain ⟨k13, o13, n13, c13, q13, ea13, hl13, hq13, r13, N13, f13, hk13, hN13, hf13⟩ := (hL.ext hE0).at i0 (by omega)
    refine ⟨k13, o13, n13, c13, i0, q13, ea13, rfl, hl13, hq13, ?_⟩
    refine ⟨_, _, _, _, _, hk13, ⟨by simp, hN13⟩, hf13, ?_⟩
    refine ⟨_, rfl, ?_⟩
    refine ⟨_, _, _, get_new, cputs_by (by simp) (by omega), eqBk_rfl, ?_⟩
    rw [app_set0]
    have hfl := hl _ (getD_mem (L := L) (i := i0) (by omega))
    have hl5 := lt_of hb5
    have hrv : ∀ x, x < 8 → spl (fun _ => 0) 0 8 (L.getD i0 z0) x = L.getD i0 z0 x := fun x hx => by simp [spl, hx]
    refine .inl ⟨_, _, _, _, app_old hb3, ⟨rfl, by omega⟩, ?_⟩
    refine ⟨_, _, _, _, L.getD i0 z0, get_new, ⟨by simp, by omega⟩, fun x hx => by rw [Nat.zero_add]; exact (hrv x hx).symm, ?_⟩
    refine ⟨_, i_lead_ok B E.2.1 , rfl, ?_⟩
    rw [ldI_lt hfl]
    refine ⟨fst8 (L.getD i0 z0), fst8 (L.getD i0 z0), rfl, hfl, by omega, ?_⟩
    refine ⟨_, _, app_old hb5, cat_u hfl, ?_⟩
    have hx := toNat_le (w (fst8 (L.getD i0 z0)))
    refine ⟨_, w64_id _ (by omega) (by omega), ?_⟩
    refine ⟨_, _, _, _, L.getD i0 z0, get_new, ⟨by simp, by omega⟩, fun x hx => by rw [Nat.zero_add]; exact (hrv x hx).symm, ?_⟩
    refine ⟨_, plus_at B E.2.2 (app_old hb5) hp (by omega) (by simp) (by omega) (by omega) (by omega) (fun x _ hx => hwp x (by omega)), ?_⟩
    rintro _ _ ⟨rfl, rfl⟩
    refine ⟨((i0 + 1 : Nat) : Int), w64_id _ (by omega) (by omega), ?_⟩
    refine ⟨by omega, (), ?_, ⟨rfl, rfl, rfl, rfl, rfl, rfl, trivial⟩⟩
    have hn1 : H.length + 1 ≠ H.length := by omega
    have hn2 : H.length + 1 ≠ H.length + 2 := by omega
    refine ⟨_, ⟨set_other (app_old hb3) hn1, set_same (app_old hb5), set_other (app_old hb6) hn2⟩, (hE0.trans Ext.app).set (by omega), ?_, ?_⟩
    · intro y hy
      simp only [bz, plsN]
      rw [if_pos (by omega), bz_byt _ (Int.emod_nonneg _ (by omega)) (by have := Int.emod_lt_of_pos (bz w y + -(bz w (fst8 (L.getD i0 z0))) * bz (L.getD i0 z0) (y - 0)) (show 0 < p by omega); simp only [bz] at this; omega)]
      exact Int.emod_lt_of_pos _ (by omega)
    · intro y hy
      rw [byL_take (by omega)]
      exact byL1_pls hp hwp hw hfl y hy
  · replace h12 := of_decide_eq_false h12
    have e0 : L.length = i0 := by omega
    subst e0
    refine ⟨_, _, _, _, byL p v L, hb5, ⟨by simp, by omega⟩, fun x hx => by rw [Nat.zero_add, hw x hx, List.take_length], ?_⟩
    refine ⟨_, _, _, hb6, cputs_by (by simp) (by omega), eqBk_rfl, ?_⟩
    refine ⟨rfl, false, [], 8, _, byL p v L, set_same hb6, ⟨by simp, by omega⟩, fun x hx => by simp [spl, hx], rfl, ?_⟩
    exact hE0.set (by omega)

theorem i_within_1_ok (B : Bs P ρ) (E : F_i_within_1 P ρ) {p n : Int} {g v : By} {H : List Blk} {a : At} {L : List By} {kf ks : Nat} {r1 r2 : Bool} (hp : 1 ≤ p) (hp2 : p ≤ 256) (hv : ∀ x, x < 8 → bz v x < p) (hf : H[kf]? = some ⟨r1, .by [p, n] 2 g⟩) (hs : H[ks]? = some ⟨r2, .vr a⟩) (hL : VS H a L) (hl : ∀ r ∈ L, fst8 r < 8) (hlen : L.length ≤ 1000000) :
    CallR P ρ 380 [.ag [] 8 v, .pt kf 0, .pt ks 0] H (fun u G => u = .one (.b (!eqB 8 (byL p v L) z0)) ∧ G = H) := by
  refine CallR.pure (call_of_q B.fn B.mo E.1 rfl (fun hA hH => ?_) (by simp [At.lt, lt_of hf, lt_of hs])) rfl
  refine ⟨_, rfl, ?_⟩
  refine .inl ⟨_, _, _, _, app_old hf, ⟨rfl, by omega⟩, ?_⟩
  refine ⟨_, _, app_old hs, rfl, ?_⟩
  refine ⟨_, _, _, _, v, get_new, ⟨by simp, by omega⟩, fun x _ => congrArg _ (Nat.zero_add x).symm, ?_⟩
  refine ⟨_, i_field_rest_ok B E.2 hp hp2 hv (hL.ext Ext.app) hl hlen, ?_⟩
  rintro _ _ ⟨rfl, rfl⟩
  exact ⟨rfl, rfl, Ext.app⟩

theorem VS.shape {H : List Blk} {a : At} {L : List By} (h : VS H a L) : a = .sn ∨ ∃ k o n c, a = .sl k o n c := by
  rcases h with ⟨h, -⟩ | ⟨k, off, cap, r, N, f, h, -⟩
  · exact .inl h
  · exact .inr ⟨_, _, _, _, h⟩
/-- all of M reduce to 0 -/
def inL (p : Int) (L M : List By) : Bool := M.all fun v => eqB 8 (byL p v L) z0
theorem i_within_ok (B : Bs P ρ) (E : F_i_within P ρ) {p : Int} {H : List Blk} {a b : At} {L M : List By} (hp : 1 ≤ p) (hp2 : p ≤ 256) (hL : VS H a L) (hl : ∀ r ∈ L, fst8 r < 8) (hlen : L.length ≤ 1000000) (hM : VS H b M) (hMv : ∀ v ∈ M, ∀ x, x < 8 → bz v x < p) (hMl : M.length ≤ 1000000) :
    CallR P ρ 378 [.i .i64 p, a, b] H (fun u G => u = .one (.b (inL p L M)) ∧ G = H) := by
  refine CallR.pure (call_of_q B.fn B.mo E.1 rfl (fun hA hH => ?_) (by simp only [List.all_cons, List.all_nil, hL.lt, hM.lt]; rfl)) rfl
  rcases hL.shape with rfl | ⟨k0, o0, n0, c0, rfl⟩
  · refine ⟨_, rfl, ?_⟩
    refine ⟨_, rfl, ?_⟩
    refine ⟨_, _, _, get_new, rfl, eqBk_rfl, ?_⟩
    rw [app_set0]
    refine ⟨_, x_ContainsFunc_V2_ok B E.2.2 (q := fun i => !eqB 8 (byL p (M.getD i z0) L) z0) (hM.ext (Ext.app.trans Ext.app)) (by simp [At.lt]) hMl (fun i hi => i_within_1_ok B E.2.1 hp hp2 (hMv _ (getD_mem hi)) get_new (app_old get_new) (hL.ext (Ext.app.trans Ext.app)) hl hlen), ?_⟩
    rintro _ _ ⟨rfl, rfl⟩
    refine ⟨rfl, ?_, Ext.app.trans Ext.app⟩
    have e : (!decide (∃ i, i < M.length ∧ (!eqB 8 (byL p (M.getD i z0) L) z0) = true)) = inL p L M := by
      unfold inL
      rw [Bool.eq_iff_iff, Bool.not_eq_true', decide_eq_false_iff_not, List.all_eq_true]
      constructor
      · intro h v hv
        obtain ⟨i, hi, rfl⟩ := List.mem_iff_getElem.1 hv
        apply Classical.byContradiction
        intro hn
        refine h ⟨i, hi, ?_⟩
        rw [List.getD_eq_getElem?_getD, List.getElem?_eq_getElem hi]
        simpa using hn
      · rintro h ⟨i, hi, hq⟩
        rw [h _ (getD_mem hi)] at hq
        cases hq
    rw [e]; rfl
  · refine ⟨_, rfl, ?_⟩
    refine ⟨_, rfl, ?_⟩
    refine ⟨_, _, _, get_new, rfl, eqBk_rfl, ?_⟩
    rw [app_set0]
    refine ⟨_, x_ContainsFunc_V2_ok B E.2.2 (q := fun i => !eqB 8 (byL p (M.getD i z0) L) z0) (hM.ext (Ext.app.trans Ext.app)) (by simp [At.lt]) hMl (fun i hi => i_within_1_ok B E.2.1 hp hp2 (hMv _ (getD_mem hi)) get_new (app_old get_new) (hL.ext (Ext.app.trans Ext.app)) hl hlen), ?_⟩
    rintro _ _ ⟨rfl, rfl⟩
    refine ⟨rfl, ?_, Ext.app.trans Ext.app⟩
    have e : (!decide (∃ i, i < M.length ∧ (!eqB 8 (byL p (M.getD i z0) L) z0) = true)) = inL p L M := by
      unfold inL
      rw [Bool.eq_iff_iff, Bool.not_eq_true', decide_eq_false_iff_not, List.all_eq_true]
      constructor
      · intro h v hv
        obtain ⟨i, hi, rfl⟩ := List.mem_iff_getElem.1 hv
        apply Classical.byContradiction
        intro hn
        refine h ⟨i, hi, ?_⟩
        rw [List.getD_eq_getElem?_getD, List.getElem?_eq_getElem hi]
        simpa using hn
      · rintro h ⟨i, hi, hq⟩
        rw [h _ (getD_mem hi)] at hq
        cases hq
    rw [e]; rfl

end Hf
namespace Hf
open Go Classical
variable {P : Program} {ρ : Nat → FuncId}
theorem l_eqVectorS_ok (B : Bs P ρ) (E : F_l_eqVectorS P ρ) {H : List Blk} {a b : At} {L : List By} (hA : VS H a L) (hB : VS H b L) (hlen : L.length ≤ 100000000) :
    CallR P ρ 247 [a, b] H (fun u G => u = .one (.b true) ∧ G = H) := by
  refine call_of_q B.fn B.mo E.1 rfl (fun hAr hHp => ?_) (by simp only [List.all_cons, List.all_nil, hA.lt, hB.lt]; rfl)
  refine ⟨_, (hA).len, ?_⟩
  refine ⟨_, (hB).len, ?_⟩
  refine brB_f' (by simp) ?_
  refine ⟨Unit, (fun a0 a1 (i0 : Nat) (x0 : Unit) => [(0, a0), (1, a1), (5, .one (.i .i64 ((i0 : Nat) : Int)))]) _ _ , fun (i0 : Nat) (x0 : Unit) (G0 : List Blk) => (G0 = H), L.length, ⟨(), rfl, ⟨rfl, rfl, rfl, trivial⟩⟩, ?_⟩
  rintro i0 _ G0 hi0 rfl
  refine ⟨_, (hA).len, ?_⟩
  refine ⟨fun h14 => ?_, fun h14 => ?_⟩
  · replace h14 := of_decide_eq_true h14
    obtain ⟨k19, o19, n19, c19, q19, ea19, hl19, hq19, r19, N19, f19, hk19, hN19, hf19⟩ := (hA).at i0 (by omega)
    refine ⟨k19, o19, n19, c19, i0, q19, ea19, rfl, hl19, hq19, ?_⟩
    refine ⟨_, _, _, _, _, hk19, ⟨by simp, hN19⟩, hf19, ?_⟩
    obtain ⟨k23, o23, n23, c23, q23, ea23, hl23, hq23, r23, N23, f23, hk23, hN23, hf23⟩ := (hB).at i0 (by omega)
    refine ⟨k23, o23, n23, c23, i0, q23, ea23, rfl, hl23, hq23, ?_⟩
    refine ⟨_, _, _, _, _, hk23, ⟨by simp, hN23⟩, hf23, ?_⟩
    refine ⟨_, l_eqVector_ok B E.2 , rfl, ?_⟩
    refine brB_f ?_
    refine ⟨((i0 + 1 : Nat) : Int), w64_id _ (by omega) (by omega), ?_⟩
    exact ⟨by omega, (), rfl, ⟨rfl, rfl, rfl, trivial⟩⟩
  · replace h14 := of_decide_eq_false h14
    have e0 : L.length = i0 := by omega
    subst e0
    exact ⟨rfl, rfl, rfl⟩

end Hf
namespace Hf
open Go Classical
variable {P : Program} {ρ : Nat → FuncId}
theorem x_Clone_B_ok (B : Bs P ρ) (E : F_x_Clone_B P ρ) {H : List Blk} {k off n cap : Nat} {r : Bool} {N : Nat} {f : By} (hk : H[k]? = some ⟨r, .by [] N f⟩) (hN : off + n ≤ N) (hn : n ≤ 1000) :
    CallR P ρ 289 [.sl k off n cap] H (fun u G => ∃ b, u = .one b ∧ RowC H.length G n b (fun x => f (off + x)) ∧ Ext H G) := by
  refine call_of_q B.fn B.mo E rfl (fun hAr hHp => ?_) (by simp [At.lt, lt_of hk])
  refine brB_f ?_
  refine ⟨[], _, rfl, rfl, ?_⟩
  refine ⟨_, rowc_app (n := 0) (v := z0) (M := n) (g := fun x => f (off + x)) ⟨_, _, _, _, rfl, get_new, ⟨Nat.le_refl _, Nat.le_refl _, Nat.le_refl _⟩, fun x hx => by omega⟩ ⟨rfl, r, N, f, app_old hk, by omega, fun x hx => rfl⟩ (by omega) (by simp), ?_⟩
  rintro a7 G7 ⟨hv7, hu7, hl7⟩
  refine ⟨rfl, a7, rfl, ?_, ?_⟩
  · obtain ⟨k', cap', N', f', h1, h2, h3, h4⟩ := hv7
    refine ⟨k', cap', N', f', by rw [h1, Nat.zero_add], h2, by omega, fun x hx => ?_⟩
    have := h4 x (by omega)
    rw [this]; simp
  · exact Upto.ext Ext.app hu7 (Nat.le_refl _)

theorem i_reduced_ok (B : Bs P ρ) (E : F_i_reduced P ρ) {H : List Blk} {p : Int} {a : At} {L : List By} (hp : Pr p) (hL : VS H a L) (hv : ∀ v ∈ L, Vp 8 p v) (hlen : L.length ≤ 1000000) :
    CallR P ρ 267 [.i .i64 p, a] H (fun u G => ∃ b, u = .one b ∧ Ext H G ∧ VW H.length G b (redL p L)) := by
  have hp2 := hp.1
  have hp3 := hp.2.1
  refine call_of_q B.fn B.mo E.1 rfl (fun hAr hHp => ?_) (by simp only [List.all_cons, List.all_nil, hL.lt]; rfl)
  refine ⟨_, i_newSystem_ok B E.2.1 , ?_⟩
  rintro _ _ ⟨rfl, rfl⟩
  refine ⟨_, (hL).len, ?_⟩
  refine ⟨Unit, (fun a5 a13 a14 (i0 : Nat) (x0 : Unit) => [(5, a5), (13, a13), (14, a14), (15, .one (.i .i64 ((i0 : Nat) : Int)))]) _ _ _ , fun (i0 : Nat) (x0 : Unit) (G0 : List Blk) => (SY H.length G0 H.length p 0 8 (L.take i0) [] ∧ Ext H G0), L.length, ⟨(), ?_, ⟨rfl, rfl, rfl, rfl, trivial⟩⟩, ?_⟩
  · refine ⟨⟨.sn, [], .sn, get_new, .inl ⟨rfl, rfl⟩, ⟨rfl, fun i h => by simp at h⟩, .inl ⟨rfl, rfl⟩, by simp [OwnT, spB], by simp [OwnT, spB]⟩, Ext.app⟩
  rintro i0 _ G0 hi0 ⟨hS0, hE0⟩
  refine ⟨fun h16 => ?_, fun h16 => ?_⟩
  · replace h16 := of_decide_eq_true h16
    obtain ⟨k17, o17, n17, c17, q17, ea17, hl17, hq17, r17, N17, f17, hk17, hN17, hf17⟩ := (hL.ext hE0).at i0 (by omega)
    refine ⟨k17, o17, n17, c17, i0, q17, ea17, rfl, hl17, hq17, ?_⟩
    refine ⟨_, _, _, _, _, hk17, ⟨by simp, hN17⟩, hf17, ?_⟩
    refine ⟨_, rfl, ?_⟩
    refine ⟨_, _, _, get_new, cputs_by (by simp) (by omega), eqBk_rfl, ?_⟩
    obtain ⟨ra, As, pa, hs, hra, hR, hpa, hnd, hge⟩ := hS0
    have hlt0 := lt_of hs
    rw [app_set0]
    refine ⟨_, _, app_old hs, rfl, ?_⟩
    refine ⟨0, 8, rfl, rfl, ⟨by omega, by omega, by omega⟩, ?_⟩
    refine ⟨?_, ?_⟩
    · skip
      refine ⟨_, x_Clone_B_ok B E.2.2.1 (k := G0.length) (off := 0 + 0 * 1) (n := 8 - 0) get_new (by omega) (by omega), ?_⟩
      rintro _ G25 ⟨b25, rfl, hc25, hE25⟩
      refine ⟨⟨kept1 (app_old hs) (hE25 _ _ (app_old hs)), trivial⟩, ?_⟩
      refine ⟨[0], _, rfl, rfl, ?_⟩
      refine ⟨⟨kept1 (hE25 _ _ (app_old hs)) (app_old (hE25 _ _ (app_old hs))), trivial⟩, ?_⟩
      refine ⟨_, rowc_app (m := G0.length) (g := fun _ => 0) (M := 1) ((hc25.mono (by simp)).ext Ext.app) ⟨rfl, _, _, _, get_new, by simp, fun x hx => by have e : x = 0 := (by omega); subst e; rfl⟩ (by omega) (by have := hE25.len; simp at this ⊢; omega), ?_⟩
      rintro a27 G27 ⟨hv27, hu27, hl27⟩
      have hE27 : Ext G0 G27 := Upto.ext (Ext.app.trans (hE25.trans Ext.app)) hu27 (Nat.le_refl _)
      refine ⟨⟨kept1 (B := sysB p 0 8 ra pa) (by first | exact hE25 _ _ (app_old (app_old hs)) | exact app_old (hE25 _ _ (app_old hs))) (hE27 _ _ hs), trivial⟩, ?_⟩
      obtain ⟨k27, cap27, N27, f27, rfl, hk27, hc27, hf27⟩ := hv27
      have hx27 : RowC G0.length G27 9 (.sl k27 0 (8 - 0 + 1) cap27) (L.getD i0 z0) := ⟨k27, cap27, N27, f27, rfl, hk27, hc27, fun x hx => by
        rw [hf27 x (by omega)]
        dsimp only
        by_cases h8 : x < 8
        · rw [if_pos (by omega)]; simp [spl, h8]
        · rw [if_neg (by omega)]; exact ((hv _ (getD_mem (L := L) (i := i0) (by omega))).2 x (by omega)).symm⟩
      refine ⟨_, rfl, ?_⟩
      refine ⟨⟨kept1 (hE27 _ _ hs) (app_old (hE27 _ _ hs)), trivial⟩, ?_⟩
      refine ⟨_, spn_app (x := .sl k27 0 (8 - 0 + 1) cap27) (hra.fr (l := []) (hE27.trans Ext.app).fr (by simp)) ⟨false, _, get_new, by simp, rfl⟩ (by have := hR.1; simp at this; omega) (by omega), ?_⟩
      rintro a29 G29 ⟨hp29, hf29, hb29, hl29⟩
      obtain ⟨hs29, hS29, hF29⟩ := sy_add hs hra hR hpa hnd hge hE0.len (hE27.trans Ext.app) (hx27.ext Ext.app) hp29 hf29 (app_hb hb29)
      refine ⟨_, _, _, hs29, cput_rw (by simp) hp29.cell, eqBk_rfl, ?_⟩
      refine ⟨((i0 + 1 : Nat) : Int), w64_id _ (by omega) (by omega), ?_⟩
      refine ⟨by omega, (), ?_, ⟨rfl, rfl, rfl, rfl, trivial⟩⟩
      refine ⟨?_, ?_⟩
      · have e : L.take (i0 + 1) = L.take i0 ++ [L.getD i0 z0] := by rw [List.take_add_one]; simp [show i0 < L.length by omega]
        rw [e]; exact hS29
      · exact Upto.ext hE0 (hF29.upto fun k hk => hge k (by simp only [List.mem_cons] at hk; rcases hk with h | h <;> simp [OwnT, h])) (Nat.le_refl _)
    · skip
      refine ⟨[0], _, rfl, rfl, ?_⟩
      refine ⟨⟨kept1 (app_old hs) (app_old (app_old hs)), trivial⟩, ?_⟩
      refine ⟨_, x_Clone_B_ok B E.2.2.1 (k := G0.length) (off := 0 + 0 * 1) (n := 8 - 0) (app_old get_new) (by omega) (by omega), ?_⟩
      rintro _ G25 ⟨b25, rfl, hc25, hE25⟩
      refine ⟨⟨kept1 (app_old (app_old hs)) (hE25 _ _ (app_old (app_old hs))), trivial⟩, ?_⟩
      refine ⟨_, rowc_app (m := G0.length) (g := fun _ => 0) (M := 1) (hc25.mono (by simp)) ⟨rfl, _, _, _, hE25 _ _ get_new, by simp, fun x hx => by have e : x = 0 := (by omega); subst e; rfl⟩ (by omega) (by have := hE25.len; simp at this ⊢; omega), ?_⟩
      rintro a27 G27 ⟨hv27, hu27, hl27⟩
      have hE27 : Ext G0 G27 := Upto.ext (Ext.app.trans (Ext.app.trans hE25)) hu27 (Nat.le_refl _)
      refine ⟨⟨kept1 (B := sysB p 0 8 ra pa) (by first | exact hE25 _ _ (app_old (app_old hs)) | exact app_old (hE25 _ _ (app_old hs))) (hE27 _ _ hs), trivial⟩, ?_⟩
      obtain ⟨k27, cap27, N27, f27, rfl, hk27, hc27, hf27⟩ := hv27
      have hx27 : RowC G0.length G27 9 (.sl k27 0 (8 - 0 + 1) cap27) (L.getD i0 z0) := ⟨k27, cap27, N27, f27, rfl, hk27, hc27, fun x hx => by
        rw [hf27 x (by omega)]
        dsimp only
        by_cases h8 : x < 8
        · rw [if_pos (by omega)]; simp [spl, h8]
        · rw [if_neg (by omega)]; exact ((hv _ (getD_mem (L := L) (i := i0) (by omega))).2 x (by omega)).symm⟩
      refine ⟨_, rfl, ?_⟩
      refine ⟨⟨kept1 (hE27 _ _ hs) (app_old (hE27 _ _ hs)), trivial⟩, ?_⟩
      refine ⟨_, spn_app (x := .sl k27 0 (8 - 0 + 1) cap27) (hra.fr (l := []) (hE27.trans Ext.app).fr (by simp)) ⟨false, _, get_new, by simp, rfl⟩ (by have := hR.1; simp at this; omega) (by omega), ?_⟩
      rintro a29 G29 ⟨hp29, hf29, hb29, hl29⟩
      obtain ⟨hs29, hS29, hF29⟩ := sy_add hs hra hR hpa hnd hge hE0.len (hE27.trans Ext.app) (hx27.ext Ext.app) hp29 hf29 (app_hb hb29)
      refine ⟨_, _, _, hs29, cput_rw (by simp) hp29.cell, eqBk_rfl, ?_⟩
      refine ⟨((i0 + 1 : Nat) : Int), w64_id _ (by omega) (by omega), ?_⟩
      refine ⟨by omega, (), ?_, ⟨rfl, rfl, rfl, rfl, trivial⟩⟩
      refine ⟨?_, ?_⟩
      · have e : L.take (i0 + 1) = L.take i0 ++ [L.getD i0 z0] := by rw [List.take_add_one]; simp [show i0 < L.length by omega]
        rw [e]; exact hS29
      · exact Upto.ext hE0 (hF29.upto fun k hk => hge k (by simp only [List.mem_cons] at hk; rcases hk with h | h <;> simp [OwnT, h])) (Nat.le_refl _)
  · replace h16 := of_decide_eq_false h16
    have e0 : L.length = i0 := by omega
    subst e0
    refine ⟨_, i_system_solve_ok B E.2.2.2 (p := p) (n0 := 0) (m0 := H.length) (m := 8) (R := L) (T0 := []) (by omega) (by omega) (by omega) (by rw [List.take_length] at hS0; exact hS0) (by omega) hE0.len, ?_⟩
    rintro _ G34 ⟨rfl, hS34, hU34⟩
    have hred := sol_red hp hv
    rw [hred] at hS34
    obtain ⟨ra, As, pa, hs, hra, hR, hpa, hnd, hge⟩ := hS34
    have hAl := hR.1
    have hE34 := Upto.ext hE0 hU34 (Nat.le_refl _)
    have hrl := (redL_rr hp hv).1.len
    refine ⟨_, rfl, ?_⟩
    refine ⟨_, _, app_old hs, rfl, ?_⟩
    refine ⟨_, (hra).len, ?_⟩
    refine ⟨At, (fun a39 a40 (i1 : Nat) (x1 : At) => [(8, .one x1), (39, a39), (40, a40), (41, .one (.i .i64 ((i1 : Nat) : Int)))]) _ _ , fun (i1 : Nat) (x1 : At) (G1 : List Blk) => (VW G34.length G1 x1 ((redL p L).take i1) ∧ Upto G34.length G34 G1), As.length, ⟨_, ⟨VW.nil (Nat.le_refl _), Ext.app.upto⟩, ⟨rfl, rfl, rfl, rfl, trivial⟩⟩, ?_⟩
    rintro i1 x1 G1 hi1 ⟨hW1, hU1⟩
    have hE1 : Ext G34 G1 := fun k B e => hU1 k B (lt_of e) e
    refine ⟨fun h42 => ?_, fun h42 => ?_⟩
    · replace h42 := of_decide_eq_true h42
      obtain ⟨k43, o43, n43, c43, q43, ea43, hl43, hq43, r43, l43, hk43, hi43⟩ := rdR_at ((hra.fr (l := []) hE1.fr (by simp)).rd) i1 (by omega)
      refine ⟨k43, o43, n43, c43, i1, q43, ea43, rfl, hl43, hq43, ?_⟩
      obtain ⟨kr, cr, Nr, fr, ea, hkr, hNr, hfr⟩ := (hR.fr (l := []) hE1.fr (by simp)).at i1 (by omega)
      rw [ea] at hi43
      refine ⟨_, _, hk43, hi43, ?_⟩
      refine ⟨0, 8, rfl, rfl, ⟨by omega, by omega⟩, ?_⟩
      refine ⟨by omega, ?_⟩
      have ho : (if cr = 0 then 0 else 0 + 0 * 1) = 0 := by split <;> rfl
      have hg49 : ∀ x, x < 8 → (redL p L).getD i1 z0 x = fr ((if cr = 0 then 0 else 0 + 0 * 1) + x) := by
        intro x hx
        rw [ho, Nat.zero_add]; exact (hfr x (by omega)).symm
      have hb49 : (if cr = 0 then 0 else 0 + 0 * 1) + 8 ≤ Nr := by rw [ho]; omega
      refine ⟨_, _, _, _, (redL p L).getD i1 z0, hkr, ⟨Nat.zero_le _, hb49⟩, hg49, ?_⟩
      refine ⟨_, rfl, ?_⟩
      refine ⟨_, vw_app (hW1.ext Ext.app) (VS.one (v := (redL p L).getD i1 z0)) (by simp; omega) (by have := hE1.len; simp; omega), ?_⟩
      rintro a51 G51 ⟨hv51, hu51⟩
      refine ⟨((i1 + 1 : Nat) : Int), w64_id _ (by omega) (by omega), ?_⟩
      refine ⟨by omega, _, ?_, ⟨rfl, rfl, rfl, rfl, trivial⟩⟩
      have e : (redL p L).take (i1 + 1) = (redL p L).take i1 ++ [(redL p L).getD i1 z0] := by rw [List.take_add_one]; simp [show i1 < (redL p L).length by omega]
      dsimp only; rw [e]
      exact ⟨hv51, hU1.trans ((Ext.app (G := _)).upto.trans hu51)⟩
    · replace h42 := of_decide_eq_false h42
      have e1 : As.length = i1 := by omega
      subst e1
      refine ⟨rfl, x1, rfl, ?_, ?_⟩
      · exact hE34.trans hE1
      · have := hW1.mono hE34.len
        rw [hAl, List.take_length] at this
        exact this

end Hf
namespace Hf
open Go Classical
section
variable {W W' n : Nat} {p : Int}
theorem RR.up (hW : W ≤ W') {L : List By} (h : RR W p L) : RR W' p L := by
  have hf : ∀ v ∈ L, fstW W' v = fstW W v := fun v hv => fstW_w hW (h.vp v hv).2 (h.nz hv)
  refine ⟨fun v hv => (h.vp v hv).mono hW, fun r hr => ?_, ?_⟩
  · have := h.ld r hr
    rw [hf r hr]
    exact ⟨by omega, this.2⟩
  · refine List.Pairwise.imp_of_mem ?_ h.st
    intro a b ha hb hab
    rw [hf a ha, hf b hb]
    exact hab
theorem SpE.up (hp : 1 ≤ p) (hp2 : p ≤ 256) (hW : W ≤ W') {A B : List By} (hA : ∀ v ∈ A, Vp W p v) (hB : ∀ v ∈ B, Vp W p v) (h : SpE W p A B) : SpE W' p A B :=
  fun v => ⟨fun q => ((h v).1 (q.w1 hp hp2 hW hA)).w2 hp hp2 hW hB, fun q => ((h v).2 (q.w1 hp hp2 hW hB)).w2 hp hp2 hW hA⟩
end
theorem SY.ext {m0 : Nat} {H G : List Blk} {s m : Nat} {p n0 : Int} {R : List By} {T : List Int} (h : SY m0 H s p n0 m R T) (e : Ext H G) : SY m0 G s p n0 m R T := by
  obtain ⟨ra, As, pa, hs, hra, hR, hpa, hnd, hge⟩ := h
  exact ⟨ra, As, pa, e _ _ hs, hra.fr (l := []) e.fr (by simp), hR.fr (l := []) e.fr (by simp), hpa.fr (l := []) e.fr (by simp), hnd, hge⟩
end Hf
namespace Hf
open Go Classical
variable {P : Program} {ρ : Nat → FuncId}
/-- a slice whose block is none of the first m, or that is full -/
def VF (m : Nat) (H : List Blk) (a : At) (L : List By) : Prop :=
  ∃ k off cap N f, a = .sl k off L.length cap ∧ H[k]? = some ⟨false, .by [] N f⟩ ∧ (off + cap * 8 ≤ N ∧ L.length ≤ cap ∧ (m ≤ k ∨ L.length = cap)) ∧ ∀ i x, i < L.length → x < 8 → f (off + i * 8 + x) = (L.getD i z0) x
theorem VF.vs {m : Nat} {H : List Blk} {a : At} {L : List By} (h : VF m H a L) : VS H a L := by
  obtain ⟨k, off, cap, N, f, h1, h2, h3, h4⟩ := h
  exact .inr ⟨k, off, cap, false, N, f, h1, h2, ⟨h3.1, h3.2.1⟩, h4⟩
theorem VF.ext {m : Nat} {H H' : List Blk} {a : At} {L : List By} (h : VF m H a L) (e : Ext H H') : VF m H' a L := by
  obtain ⟨k, off, cap, N, f, h1, h2, h3, h4⟩ := h
  exact ⟨k, off, cap, N, f, h1, e k _ h2, h3, h4⟩
theorem VF.nil {m : Nat} {H : List Blk} {f : By} : VF m (H ++ [⟨false, .by [] (0 * 8) f⟩]) (.sl H.length 0 0 0) [] :=
  ⟨H.length, 0, 0, _, f, rfl, get_new, ⟨by omega, by simp, .inr rfl⟩, fun i x h => by simp at h⟩
theorem take_getD {L : List By} {i : Nat} (h : i < L.length) : L.take (i + 1) = L.take i ++ [L.getD i z0] := by rw [List.take_add_one]; simp [h]
theorem redL_snoc {p : Int} {L : List By} {v : By} : redL p (L ++ [v]) = putL p (redL p L) v := by simp [redL, List.foldl_append]
theorem s_l01Reduce_ok (B : Bs P ρ) (E : F_s_l01Reduce P ρ) {H : List Blk} {p : Int} {a : At} {L : List By} (hp : Pr p) (hL : VS H a L) (hv : ∀ v ∈ L, Vp 8 p v) (hlen : L.length ≤ 1000000) :
    CallR P ρ 270 [.i .i64 p, a] H (fun u G => ∃ b, u = .one b ∧ Ext H G ∧ VS G b (redL p L)) := by
  have hp2 := hp.1
  have hp3 := hp.2.1
  refine call_of_q B.fn B.mo E.1 rfl (fun hAr hHp => ?_) (by simp only [List.all_cons, List.all_nil, hL.lt]; rfl)
  refine ⟨_, rfl, ?_⟩
  refine ⟨At, (fun a0 a1 (i0 : Nat) (x0 : At) => [(0, a0), (1, a1), (5, .one x0), (6, .one (.i .i64 ((i0 : Nat) : Int)))]) _ _ , fun (i0 : Nat) (x0 : At) (G0 : List Blk) => (VS G0 x0 (redL p (L.take i0)) ∧ Ext H G0), L.length, ⟨_, ⟨(VW.nil (m := 0) (Nat.zero_le _)).vs, Ext.app⟩, ⟨rfl, rfl, rfl, rfl, trivial⟩⟩, ?_⟩
  rintro i0 x0 G0 hi0 ⟨hV0, hE0⟩
  refine ⟨_, (hL).len, ?_⟩
  refine ⟨fun h11 => ?_, fun h11 => ?_⟩
  · replace h11 := of_decide_eq_true h11
    obtain ⟨k18, o18, n18, c18, q18, ea18, hl18, hq18, r18, N18, f18, hk18, hN18, hf18⟩ := (hL.ext hE0).at i0 (by omega)
    refine ⟨k18, o18, n18, c18, i0, q18, ea18, rfl, hl18, hq18, ?_⟩
    refine ⟨_, _, _, _, _, hk18, ⟨by simp, hN18⟩, hf18, ?_⟩
    have hr := (redL_rr hp fun v h => hv v (List.mem_of_mem_take (i := i0) h)).1
    have hrl := hr.len
    refine ⟨_, s_l01Put_ok B E.2 (by omega) (by omega) hV0 hr.fs (by omega), ?_⟩
    rintro _ G20 ⟨b20, rfl, hE20, hV20⟩
    refine ⟨((i0 + 1 : Nat) : Int), w64_id _ (by omega) (by omega), ?_⟩
    refine ⟨by omega, _, ?_, ⟨rfl, rfl, rfl, rfl, trivial⟩⟩
    dsimp only
    rw [take_getD (by omega), redL_snoc]
    exact ⟨hV20, hE0.trans hE20⟩
  · replace h11 := of_decide_eq_false h11
    have e0 : L.length = i0 := by omega
    subst e0
    exact ⟨rfl, x0, rfl, hE0, by rw [List.take_length] at hV0; exact hV0⟩

end Hf
namespace Hf
open Go Classical
variable {P : Program} {ρ : Nat → FuncId}
theorem x_Clone_V_ok (B : Bs P ρ) (E : F_x_Clone_V P ρ) {H : List Blk} {k off n cap : Nat} {L : List By} (hA : VS H (.sl k off n cap) L) (hlen : L.length ≤ 1000000) :
    CallR P ρ 285 [.sl k off n cap] H (fun u G => ∃ b, u = .one b ∧ VW H.length G b L ∧ Ext H G) := by
  refine call_of_q B.fn B.mo E rfl (fun hAr hHp => ?_) (by simp only [List.all_cons, List.all_nil, hA.lt]; rfl)
  refine brB_f ?_
  refine ⟨_, rfl, ?_⟩
  refine ⟨_, vw_app (VW.nil (Nat.le_refl _)) (hA.ext Ext.app) (by simp; omega) (by simp), ?_⟩
  rintro a7 G7 ⟨hv7, hu7⟩
  refine ⟨rfl, a7, rfl, by simpa using hv7, Upto.ext Ext.app hu7 (Nat.le_refl _)⟩

theorem i_legs_ok (B : Bs P ρ) (E : F_i_legs P ρ) {H : List Blk} {g : By} :
    CallR P ρ 260 [.ag [] 64 g] H (fun u G => ∃ b, u = .one b ∧ VW H.length G b (rows8 g ++ rows8 (trT g)) ∧ Ext H G) := by
  refine call_of_q B.fn B.mo E.1 rfl (fun hAr hHp => ?_) rfl
  refine ⟨H.length, rfl, ?_⟩
  refine ⟨_, CallOK.at1 get_new (i_transposed_ok B E.2.1 (F := g)) rfl rfl, ?_⟩
  rintro _ _ ⟨rfl, rfl⟩
  refine ⟨_, rfl, ?_⟩
  refine ⟨_, _, _, get_new, cputs_by (by simp) (by omega), eqBk_rfl, ?_⟩
  rw [app_set0]
  refine ⟨0, 8, rfl, rfl, ⟨by omega, by omega, by omega⟩, ?_⟩
  refine ⟨0, 8, rfl, rfl, ⟨by omega, by omega, by omega⟩, ?_⟩
  refine ⟨_, x_Clone_V_ok B E.2.2 (L := rows8 g) (VS.ag (app_old get_new)) (by simp [rows8]), ?_⟩
  rintro _ G6 ⟨b6, rfl, hV6, hE6⟩
  have hV1 : VS (H ++ [⟨false, .by [] 64 g⟩] ++ [⟨false, .by [] 64 (spl (fun _ => 0) 0 64 (trT g))⟩]) (.sl (H ++ [(⟨false, .by [] 64 g⟩ : Blk)]).length 0 8 8) (rows8 (trT g)) := by
    have := VS.ag (H := H ++ [⟨false, .by [] 64 g⟩] ++ [⟨false, .by [] 64 (spl (fun _ => 0) 0 64 (trT g))⟩]) get_new
    have e : rows8 (spl (fun _ => 0) 0 64 (trT g)) = rows8 (trT g) := List.map_congr_left fun i hi => by
      funext x
      have := List.mem_range.1 hi
      simp only [rw8]
      split
      · simp [spl]; omega
      · rfl
    rwa [e] at this
  refine ⟨_, vw_app hV6 (hV1.ext hE6) (by simp [rows8]) hE6.len, ?_⟩
  rintro a8 G8 ⟨hv8, hu8⟩
  exact ⟨rfl, a8, rfl, hv8.mono (by simp), Upto.ext (Ext.app.trans (Ext.app.trans hE6)) (fun k B hk e => hu8 k B (by simp; omega) e) (Nat.le_refl _)⟩

theorem i_Hopf_span_ok (B : Bs P ρ) (E : F_i_Hopf_span P ρ) {H : List Blk} {k : Nat} {r : Bool} {p n : Int} {f : By} {a : At} {L : List By} (hk : H[k]? = some ⟨r, .by [p, n] 1106 f⟩) (hp : Pr p) (hL : VS H a L) (hv : ∀ v ∈ L, Vp 8 p v) (hlen : L.length ≤ 1000000) :
    CallR P ρ 261 [.pt k 0, a] H (fun u G => ∃ b, u = .one b ∧ Ext H G ∧ VW H.length G b (redL p L)) := by
  refine call_of_q B.fn B.mo E.1 rfl (fun hAr hHp => ?_) (by simp only [List.all_cons, List.all_nil, hL.lt]; simp [At.lt, lt_of hk])
  refine ⟨_, _, hk, rfl, ?_⟩
  refine ⟨_, i_reduced_ok B E.2 hp hL hv hlen, ?_⟩
  rintro _ G10 ⟨b, rfl, hE, hV⟩
  exact ⟨rfl, b, rfl, hE, hV⟩

/-- one place's row and column laid in -/
def colN (n : Nat) (m : By) (j : Nat) : By := fun k => if k < n then m (k * 8 + j) else 0
def legS (p : Int) (n : Nat) (m : By) (i : Nat) : List By := (List.range i).foldl (fun L j => putL p (putL p L (rw8 m j)) (colN n m j)) []
theorem legS_succ {p : Int} {n i : Nat} {m : By} : legS p n m (i + 1) = putL p (putL p (legS p n m i) (rw8 m i)) (colN n m i) := by
  unfold legS; rw [List.range_succ, List.foldl_append]; rfl
theorem legS_red {p : Int} {n : Nat} {m : By} : ∀ {i : Nat}, legS p n m i = redL p ((List.range i).flatMap fun j => [rw8 m j, colN n m j])
  | 0 => rfl
  | i + 1 => by
    rw [legS_succ, @legS_red p n m i, List.range_succ, List.flatMap_append]
    simp [redL, List.foldl_append]
theorem s_l07Legs_ok (B : Bs P ρ) (E : F_s_l07Legs P ρ) {H : List Blk} {p : Int} {n : Nat} {f v : By} (hp : Pr p) (hn : n ≤ 8) :
    CallR P ρ 259 [.ag [p, (n : Int)] 1106 f, .ag [] 8 v] H (fun u G => ∃ b, u = .one b ∧ Ext H G ∧ VS G b (legS p n (vec 64 p (cop n f 530 v)) n)) := by
  have hp2 := hp.1
  have hp3 := hp.2.1
  refine call_of_q B.fn B.mo E.1 rfl (fun hAr hHp => ?_) rfl
  refine ⟨H.length, rfl, ?_⟩
  refine ⟨_, rfl, ?_⟩
  refine .inl ⟨_, _, _, _, app_old get_new, ⟨rfl, by omega⟩, ?_⟩
  refine ⟨_, _, _, _, v, get_new, ⟨by simp, by omega⟩, fun x _ => congrArg _ (Nat.zero_add x).symm, ?_⟩
  refine ⟨_, s_l03Coproduct_ok B E.2.1 (by omega) (by omega) hn, rfl, ?_⟩
  refine ⟨_, rfl, ?_⟩
  refine ⟨_, rfl, ?_⟩
  refine ⟨_, _, _, get_new, cputs_by (by simp) (by omega), eqBk_rfl, ?_⟩
  rw [app_set0]
  generalize hm : vec 64 p (cop n f 530 v) = m
  have hmv : ∀ x, x < 64 → spl (fun _ => 0) 0 64 m x = m x := fun x hx => by simp [spl, hx]
  refine ⟨At, (fun a2 a5 (i0 : Nat) (x0 : At) => [(2, a2), (5, a5), (6, .one x0), (7, .one (.i .i64 ((i0 : Nat) : Int)))]) _ _ , fun (i0 : Nat) (x0 : At) (G0 : List Blk) => (VS G0 x0 (legS p n m i0) ∧ Ext (H ++ [⟨false, .by [p, (n : Int)] 1106 f⟩] ++ [⟨false, .by [] 8 v⟩] ++ [⟨false, .by [] (0 * 8) fun _ => 0⟩] ++ [⟨false, .by [] 64 (spl (fun _ => 0) 0 64 m)⟩]) G0), n, ⟨_, ⟨(VW.nil (m := 0) (Nat.zero_le _)).vs.ext Ext.app, Ext.refl⟩, ⟨rfl, rfl, rfl, rfl, trivial⟩⟩, ?_⟩
  rintro i0 x0 G0 hi0 ⟨hV0, hE0⟩
  have hb2 := hE0 _ _ (app_old (app_old (app_old get_new)))
  have hb5 := hE0 _ _ get_new
  refine ⟨_, _, hb2, rfl, ?_⟩
  refine ⟨fun h17 => ?_, fun h17 => ?_⟩
  · replace h17 := of_decide_eq_true h17
    refine ⟨_, rfl, ?_⟩
    refine ⟨_, _, _, get_new, cputs_by (by simp) (by omega), eqBk_rfl, ?_⟩
    rw [app_set0]
    refine ⟨Unit, (fun a2 a5 a6 a7 a8 (i1 : Nat) (x1 : Unit) => [(2, a2), (5, a5), (6, a6), (7, a7), (8, a8), (9, .one (.i .i64 ((i1 : Nat) : Int)))]) _ _ _ _ _ , fun (i1 : Nat) (x1 : Unit) (G1 : List Blk) => (∃ w, G1 = G0 ++ [⟨false, .by [] 8 w⟩] ∧ ∀ y, y < 8 → w y = if y < i1 then colN n m i0 y else 0), n, ⟨(), ⟨_, rfl, fun y hy => by simp [spl, hy]⟩, ⟨rfl, rfl, rfl, rfl, rfl, rfl, trivial⟩⟩, ?_⟩
    rintro i1 _ G1 hi1 ⟨w, rfl, hw⟩
    refine ⟨_, _, app_old hb2, rfl, ?_⟩
    refine ⟨fun h24 => ?_, fun h24 => ?_⟩
    · replace h24 := of_decide_eq_true h24
      refine ⟨i1, _, rfl, by omega, rfl, ?_⟩
      refine ⟨i0, _, rfl, by omega, rfl, ?_⟩
      refine ⟨_, _, app_old hb5, cat_u (by omega), ?_⟩
      refine ⟨i1, _, rfl, by omega, rfl, ?_⟩
      refine ⟨_, _, _, get_new, cput_u (by simp) (by omega), eqBk_rfl, ?_⟩
      refine ⟨((i1 + 1 : Nat) : Int), w64_id _ (by omega) (by omega), ?_⟩
      refine ⟨by omega, (), ?_, ⟨rfl, rfl, rfl, rfl, rfl, rfl, trivial⟩⟩
      refine ⟨_, app_set0, fun y hy => ?_⟩
      by_cases e : y = i1
      · subst e
        rw [show 0 + y * 1 = y by omega, upd_same, if_pos (by omega), hmv _ (by omega)]
        unfold colN
        rw [if_pos (by omega), show 0 + y * 8 + i0 * 1 = y * 8 + i0 by omega]
      · rw [upd_ne _ _ _ _ (by omega), hw y hy]
        by_cases h : y < i1
        · rw [if_pos h, if_pos (by omega)]
        · rw [if_neg h, if_neg (by omega)]
    · replace h24 := of_decide_eq_false h24
      have e1 : n = i1 := by omega
      subst e1
      refine ⟨_, _, app_old hb2, rfl, ?_⟩
      refine ⟨_, _, app_old hb2, rfl, ?_⟩
      refine ⟨i0, _, rfl, by omega, rfl, ?_⟩
      refine ⟨_, _, _, _, rw8 m i0, app_old hb5, ⟨by simp, by omega⟩, fun x hx => by rw [hmv _ (by omega), rw8, if_pos hx]; congr 1; omega, ?_⟩
      refine ⟨_, _, _, _, colN n m i0, get_new, ⟨by simp, by omega⟩, fun x hx => by rw [Nat.zero_add, hw x hx]; unfold colN; split <;> rfl, ?_⟩
      have hvm : ∀ x, bz m x < p := fun x => by rw [← hm]; exact bz_vec_lt (by omega) (by omega)
      have hz1 : Vp 8 p (rw8 m i0) := ⟨fun x => by unfold bz rw8; split; exact hvm _; simp; omega, fun x hx => if_neg (by omega)⟩
      have hz2 : Vp 8 p (colN n m i0) := ⟨fun x => by unfold bz colN; split; exact hvm _; simp; omega, fun x hx => if_neg (by omega)⟩
      have hleg : ∀ i, RR 8 p (legS p n m i) := by
        intro i
        rw [legS_red]
        refine (redL_rr hp fun v hv => ?_).1
        obtain ⟨j, -, hj⟩ := List.mem_flatMap.1 hv
        simp only [List.mem_cons, List.not_mem_nil, or_false] at hj
        rcases hj with rfl | rfl
        · exact ⟨fun x => by unfold bz rw8; split; exact hvm _; simp; omega, fun x hx => if_neg (by omega)⟩
        · exact ⟨fun x => by unfold bz colN; split; exact hvm _; simp; omega, fun x hx => if_neg (by omega)⟩
      have hr1 := hleg i0
      have hr2 := (putL_rr hp hr1 hz1).1
      have hl1 := hr1.len
      have hl2 := hr2.len
      refine ⟨_, s_l01Put_ok B E.2.2 (by omega) (by omega) (hV0.ext Ext.app) hr1.fs (by omega), ?_⟩
      rintro _ G42 ⟨b42, rfl, hE42, hV42⟩
      refine ⟨⟨kept1 get_new (hE42 _ _ get_new), kept1 (app_old hb2) (hE42 _ _ (app_old hb2)), trivial⟩, ?_⟩
      refine ⟨_, s_l01Put_ok B E.2.2 (by omega) (by omega) hV42 hr2.fs (by omega), ?_⟩
      rintro _ G44 ⟨b44, rfl, hE44, hV44⟩
      refine ⟨((i0 + 1 : Nat) : Int), w64_id _ (by omega) (by omega), ?_⟩
      refine ⟨by omega, _, ?_, ⟨rfl, rfl, rfl, rfl, trivial⟩⟩
      dsimp only
      rw [legS_succ]
      exact ⟨hV44, hE0.trans (Ext.app.trans (hE42.trans hE44))⟩
  · replace h17 := of_decide_eq_false h17
    have e0 : n = i0 := by omega
    subst e0
    exact ⟨rfl, x0, rfl, Ext.app.trans (Ext.app.trans (Ext.app.trans (Ext.app.trans hE0))), hV0⟩

theorem oc_0 {q : Prop} (h : oc q 1 = 0) : q := by
  apply Classical.byContradiction
  intro hq
  rw [oc_f hq] at h
  cases h
theorem rows8_vp {p : Int} {g : By} (h : ∀ x, x < 64 → bz g x < p) (hp : 1 ≤ p) : ∀ v ∈ rows8 g, Vp 8 p v := by
  intro v hv
  obtain ⟨i, hi, rfl⟩ := List.mem_map.1 hv
  have hi := List.mem_range.1 hi
  refine ⟨fun x => ?_, fun x hx => if_neg (by omega)⟩
  unfold bz rw8
  split
  · exact h _ (by omega)
  · simp; omega
theorem trT_lt {p : Int} {g : By} (h : ∀ x, x < 64 → bz g x < p) : ∀ x, x < 64 → bz (trT g) x < p := by
  intro x hx
  have e : trT g x = g (x % 8 * 8 + x / 8) := by
    have := trT_app (F := g) (a := x / 8) (b := x % 8) (by omega) (by omega)
    rwa [show x / 8 * 8 + x % 8 = x by omega] at this
  unfold bz
  rw [e]; exact h _ (by omega)
-- left out: i_LegsOf
end Hf
namespace Hf
open Go Classical
variable {P : Program} {ρ : Nat → FuncId}
def IQ (p n d : Int) (g f : By) : Prop := Hop p n f ∧ Mod p n.toNat d g f
end Hf
namespace Hf
open Go Classical
variable {P : Program} {ρ : Nat → FuncId}
theorem all_getD {L : List By} {q : By → Prop} : (∀ v ∈ L, q v) ↔ ∀ i, i < L.length → q (L.getD i z0) :=
  ⟨fun h i hi => h _ (getD_mem hi), fun h v hv => by
    obtain ⟨i, hi, rfl⟩ := List.mem_iff_getElem.1 hv
    have := h i hi
    rwa [List.getD_eq_getElem?_getD, List.getElem?_eq_getElem hi] at this⟩
/-- a module and vectors of it -/
def SQ (p n d : Int) (g f : By) (L : List By) : Prop := IQ p n d g f ∧ ∀ v ∈ L, Vec p d v 0
theorem SQ.vp {p n : Int} {d : Nat} {g f : By} {L : List By} (h : SQ p n d g f L) (hz : ∀ v ∈ L, ∀ x, 8 ≤ x → v x = 0) : ∀ v ∈ L, Vp d p v := by
  intro v hv
  have hp2 := h.1.1.1.1.1.1
  have hd : d ≤ 8 := by have := h.1.2.1.1.2.2; omega
  refine ⟨fun x => ?_, fun x hx => ?_⟩
  · rcases Nat.lt_or_ge x 8 with h8 | h8
    · have := (h.2 v hv x h8).1; rwa [Nat.zero_add] at this
    · rw [bz_eq0.2 (hz v hv x h8)]; omega
  · rcases Nat.lt_or_ge x 8 with h8 | h8
    · have := (h.2 v hv x h8).2 (by omega)
      rw [Nat.zero_add] at this
      exact bz_eq0.1 this
    · exact hz v hv x h8
end Hf
namespace Hf
open Go Classical
variable {P : Program} {ρ : Nat → FuncId}
/-- a list that the input brings along: its block may hold other things too -/
def VA (H : List Blk) (a : At) (L : List By) : Prop :=
  (a = .sn ∧ L = []) ∨ ∃ k off cap r cs fz, a = .sl k off L.length cap ∧ H[k]? = some ⟨r, .fo cs fz⟩ ∧ ∀ i x, i < L.length → x < 8 → cs[off + i * 8 + x]? = some (.int .u8 ((((L.getD i z0) x).toNat : Nat) : Int))
theorem VA.ext {H H' : List Blk} {a : At} {L : List By} (h : VA H a L) (e : Ext H H') : VA H' a L := by
  rcases h with h | ⟨k, off, cap, r, cs, fz, h1, h2, h3⟩
  · exact .inl h
  · exact .inr ⟨k, off, cap, r, cs, fz, h1, e k _ h2, h3⟩
theorem VA.lt {H : List Blk} {a : At} {L : List By} (h : VA H a L) : a.lt H.length = true := by
  rcases h with ⟨rfl, -⟩ | ⟨k, off, cap, r, cs, fz, rfl, h2, h3⟩
  · rfl
  · simp [At.lt, lt_of h2]
theorem VA.len {H : List Blk} {a : At} {L : List By} (h : VA H a L) : lenA a = some L.length := by
  rcases h with ⟨rfl, rfl⟩ | ⟨k, off, cap, r, cs, fz, rfl, -⟩ <;> rfl
theorem VA.at {H : List Blk} {a : At} {L : List By} (h : VA H a L) (i : Nat) (hi : i < L.length) :
    ∃ k off len cap q, a = .sl k off len cap ∧ i < len ∧ off + i * 8 = q ∧ ∃ r cs fz, H[k]? = some ⟨r, .fo cs fz⟩ ∧ ∀ y, y < 8 → cs[q + y]? = some (.int .u8 ((((L.getD i z0) y).toNat : Nat) : Int)) := by
  rcases h with ⟨rfl, rfl⟩ | ⟨k, off, cap, r, cs, fz, rfl, h2, h3⟩
  · simp at hi
  · exact ⟨k, off, L.length, cap, off + i * 8, rfl, hi, rfl, r, cs, fz, h2, fun y hy => h3 i y hi hy⟩
/-- room behind a list of n -/
def room (n : Nat) : Nat := if n % 6 = 5 then 0 else if n % 3 = 0 then 1 else n
theorem room_le {n : Nat} : room n ≤ n + 1 := by unfold room; split <;> (try split) <;> omega
def v201 : By := fun x => if x = 0 then 201 else 0
/-- a list and what stands behind it -/
def extL (L : List By) : List By := L ++ List.replicate (room L.length) v201
theorem extL_len {L : List By} : (extL L).length = L.length + room L.length := by simp [extL]
theorem extL_at {L : List By} {i : Nat} : (extL L).getD i z0 = if i < L.length then L.getD i z0 else if i < L.length + room L.length then v201 else z0 := by
  unfold extL
  rw [getD_app]
  split
  · rfl
  · rename_i h
    split
    · rename_i h2
      rw [List.getD_eq_getElem?_getD, List.getElem?_replicate, if_pos (by omega)]; rfl
    · rename_i h2
      rw [List.getD_eq_getElem?_getD, List.getElem?_replicate, if_neg (by omega)]; rfl
/-- an argument as the laws lay it: from the m-th block on, and room behind it -/
def VT (m : Nat) (H : List Blk) (a : At) (L : List By) : Prop :=
  ∃ k f, a = .sl k 0 L.length (L.length + room L.length) ∧ H[k]? = some ⟨false, .by [] ((L.length + room L.length) * 8) f⟩ ∧ m ≤ k ∧ ∀ i x, i < L.length + room L.length → x < 8 → f (i * 8 + x) = ((extL L).getD i z0) x
theorem VT.vw {m : Nat} {H : List Blk} {a : At} {L : List By} (h : VT m H a L) : VW m H a L := by
  obtain ⟨k, f, rfl, h2, h3, h4⟩ := h
  refine ⟨k, 0, _, _, f, rfl, h2, ⟨by omega, by omega, h3⟩, fun i x hi hx => ?_⟩
  rw [Nat.zero_add, h4 i x (by omega) hx, extL_at, if_pos hi]
theorem VT.vs {m : Nat} {H : List Blk} {a : At} {L : List By} (h : VT m H a L) : VS H a L := h.vw.vs
theorem VT.ext {m : Nat} {H H' : List Blk} {a : At} {L : List By} (h : VT m H a L) (e : Ext H H') : VT m H' a L := by
  obtain ⟨k, f, rfl, h2, h3, h4⟩ := h
  exact ⟨k, f, rfl, e _ _ h2, h3, h4⟩
theorem vt_full {H : List Blk} {L : List By} {k N : Nat} {f : By} (hN : N = L.length + room L.length) (hk : H[k]? = some ⟨false, .by [] ((L.length + room L.length) * 8) f⟩) (hf : ∀ i x, i < L.length + room L.length → x < 8 → f (i * 8 + x) = ((extL L).getD i z0) x) :
    VS H (.sl k (if N = 0 then 0 else 0 + 0 * 8) (N - 0) (N - 0)) (extL L) := by
  have e : (if N = 0 then 0 else 0 + 0 * 8) = 0 := by split <;> rfl
  rw [e]
  refine .inr ⟨k, 0, N - 0, false, _, f, by rw [extL_len, hN]; rfl, hk, ⟨by omega, by rw [extL_len]; omega⟩, fun i x hi hx => ?_⟩
  rw [extL_len] at hi
  rw [Nat.zero_add, hf i x hi hx]
theorem l_roomBehind_ok (B : Bs P ρ) (E : F_l_roomBehind P ρ) {n : Nat} (hn : n ≤ 4611686018427387904) :
    CallOK P ρ 364 [.i .i64 (n : Int)] [] (.one (.i .i64 ((room n : Nat) : Int))) [] := by
  refine (CallR.pure (call_of_q B.fn B.mo E rfl (fun _ _ => ?_) rfl) rfl).ok
  refine ⟨by omega, _, rfl, ?_⟩
  refine ⟨fun h5 => ?_, fun h5 => ?_⟩
  · replace h5 := eq_of_beq h5
    have e5 : n % 6 = 5 := by have h : ((n % 6 : Nat) : Int) = 5 := (Int.ofNat_tmod n 6).trans h5; omega
    exact ⟨rfl, by unfold room; rw [if_pos e5]; rfl, Ext.nil⟩
  · replace h5 := ne_of_beq_false h5
    have e5 : ¬ n % 6 = 5 := by have h : ¬ ((n % 6 : Nat) : Int) = 5 := fun q => h5 ((Int.ofNat_tmod n 6).symm.trans q); omega
    refine ⟨by omega, _, rfl, ?_⟩
    refine ⟨fun h8 => ?_, fun h8 => ?_⟩
    · replace h8 := eq_of_beq h8
      have e8 : n % 3 = 0 := by have h : ((n % 3 : Nat) : Int) = 0 := (Int.ofNat_tmod n 3).trans h8; omega
      exact ⟨rfl, by unfold room; rw [if_neg e5, if_pos e8]; rfl, Ext.nil⟩
    · replace h8 := ne_of_beq_false h8
      have e8 : ¬ n % 3 = 0 := by have h : ¬ ((n % 3 : Nat) : Int) = 0 := fun q => h8 ((Int.ofNat_tmod n 3).symm.trans q); omega
      exact ⟨rfl, by unfold room; rw [if_neg e5, if_neg e8]; rfl, Ext.nil⟩

theorem l_toVectorS_ok (B : Bs P ρ) (E : F_l_toVectorS P ρ) {H : List Blk} {a : At} {L : List By} (hL : VA H a L) (hlen : L.length ≤ 1000000) :
    CallR P ρ 349 [a, .b false] H (fun u G => ∃ b, u = .one b ∧ Ext H G ∧ VT H.length G b L) := by
  have hrl := room_le (n := L.length)
  refine call_of_q B.fn B.mo E.1 rfl (fun hAr hHp => ?_) (by simp only [List.all_cons, List.all_nil, hL.lt]; rfl)
  refine brB_f ?_
  refine brB_f ?_
  refine brB_f ?_
  refine brB_f ?_
  refine brB_f ?_
  refine ⟨_, (hL).len, ?_⟩
  refine ⟨_, (hL).len, ?_⟩
  refine ⟨_, l_roomBehind_ok B E.2.1 (n := L.length) (by omega), rfl, ?_⟩
  refine ⟨((L.length + room L.length : Nat) : Int), by rw [Int.natCast_add]; exact w64_id _ (by omega) (by omega), ?_⟩
  refine ⟨_, _, ⟨rfl, by omega, by omega⟩, rfl, ?_⟩
  refine ⟨Unit, (fun a0 a5 (i0 : Nat) (x0 : Unit) => [(0, a0), (5, a5), (6, .one (.i .i64 ((i0 : Nat) : Int)))]) _ _ , fun (i0 : Nat) (x0 : Unit) (G0 : List Blk) => (∃ w, G0 = H ++ [⟨false, .by [] ((L.length + room L.length) * 8) w⟩] ∧ ∀ i x, i < i0 → x < 8 → w (i * 8 + x) = L.getD i z0 x), L.length, ⟨(), ⟨_, rfl, fun i x h => absurd h (by omega)⟩, ⟨rfl, rfl, rfl, trivial⟩⟩, ?_⟩
  rintro i0 _ G0 hi0 ⟨w, rfl, hw⟩
  refine ⟨_, (hL).len, ?_⟩
  refine ⟨fun h24 => ?_, fun h24 => ?_⟩
  · replace h24 := of_decide_eq_true h24
    obtain ⟨k31, o31, n31, c31, q31, ea31, hl31, hq31, r31, C31, Z31, hk31, hf31⟩ := (hL.ext Ext.app).at i0 (by omega)
    refine ⟨k31, o31, n31, c31, i0, q31, ea31, rfl, hl31, hq31, ?_⟩
    refine ⟨_, _, _, _, hk31, hf31, ?_⟩
    refine ⟨_, l_toVector_ok B E.2.2 , rfl, ?_⟩
    refine ⟨_, _, _, _, _, _, rfl, rfl, by omega, rfl, ?_⟩
    refine ⟨_, _, _, get_new, cputs_by (by simp) (by omega), eqBk_rfl, ?_⟩
    rw [app_set0]
    refine ⟨((i0 + 1 : Nat) : Int), w64_id _ (by omega) (by omega), ?_⟩
    refine ⟨by omega, (), ?_, ⟨rfl, rfl, rfl, trivial⟩⟩
    refine ⟨_, rfl, fun i x hi hx => ?_⟩
    simp only [spl]
    by_cases e : i = i0
    · subst e
      rw [if_pos (by omega), show i * 8 + x - (0 + i * 8) = x by omega]
    · rw [if_neg (by omega)]
      exact hw i x (by omega) hx
  · replace h24 := of_decide_eq_false h24
    have e0 : L.length = i0 := by omega
    subst e0
    refine ⟨_, (hL).len, ?_⟩
    refine ⟨Unit, (fun a0 a5 (i1 : Nat) (x1 : Unit) => [(0, a0), (5, a5), (7, .one (.i .i64 ((L.length + i1 : Nat) : Int)))]) _ _ , fun (i1 : Nat) (x1 : Unit) (G1 : List Blk) => (∃ w, G1 = H ++ [⟨false, .by [] ((L.length + room L.length) * 8) w⟩] ∧ ∀ i x, i < L.length + i1 → x < 8 → w (i * 8 + x) = (extL L).getD i z0 x), room L.length, ⟨(), ?_, ⟨rfl, rfl, rfl, trivial⟩⟩, ?_⟩
    · refine ⟨w, rfl, fun i x hi hx => ?_⟩
      rw [extL_at, if_pos (by omega)]
      exact hw i x (by omega) hx
    rintro i1 _ G1 hi1 ⟨w1, rfl, hw1⟩
    refine ⟨_, rfl, ?_⟩
    refine ⟨fun h40 => ?_, fun h40 => ?_⟩
    · replace h40 := of_decide_eq_true h40
      refine ⟨_, _, _, _, _, _, rfl, rfl, by omega, rfl, ?_⟩
      refine ⟨_, _, _, get_new, cputs_by (by simp) (by omega), eqBk_rfl, ?_⟩
      rw [app_set0]
      refine ⟨((L.length + i1 + 1 : Nat) : Int), w64_id _ (by omega) (by omega), ?_⟩
      refine ⟨by omega, (), ?_, ⟨rfl, rfl, rfl, trivial⟩⟩
      refine ⟨_, rfl, fun i x hi hx => ?_⟩
      simp only [spl]
      by_cases e : i = L.length + i1
      · subst e
        rw [if_pos (by omega), extL_at, if_neg (by omega), if_pos (by omega), show (L.length + i1) * 8 + x - (0 + (L.length + i1) * 8) = x by omega]
        unfold v201
        by_cases e0 : x = 0
        · subst e0; rfl
        · simp [upd, e0]
      · rw [if_neg (by omega)]
        exact hw1 i x (by omega) hx
    · replace h40 := of_decide_eq_false h40
      refine ⟨_, (hL).len, ?_⟩
      refine ⟨0, L.length, rfl, rfl, ⟨by omega, by omega⟩, ?_⟩
      refine ⟨rfl, _, rfl, Ext.app, ⟨H.length, w1, ?_, get_new, Nat.le_refl _, fun i x hi hx => hw1 i x (by omega) hx⟩⟩
      congr 1
      split <;> rfl

theorem l_toVectorS_t_ok (B : Bs P ρ) (E : F_l_toVectorS P ρ) {H : List Blk} {a : At} {L : List By} (hL : VA H a L) (hlen : L.length ≤ 1000000) :
    CallR P ρ 349 [a, .b true] H (fun u G => ∃ b, u = .one b ∧ Ext H G ∧ ((L = [] ∧ b = .sn) ∨ VT H.length G b L)) := by
  have hrl := room_le (n := L.length)
  refine call_of_q B.fn B.mo E.1 rfl (fun hAr hHp => ?_) (by simp only [List.all_cons, List.all_nil, hL.lt]; rfl)
  refine brB_t ?_
  refine brB_t ?_
  refine ⟨_, (hL).len, ?_⟩
  refine brB_t ?_
  refine brB_t ?_
  refine ⟨fun h13 => ?_, fun h13 => ?_⟩
  · replace h13 := eq_of_beq h13
    refine ⟨rfl, .sn, rfl, Ext.refl, .inl ⟨List.length_eq_zero_iff.1 (by omega), rfl⟩⟩
  · replace h13 := ne_of_beq_false h13
    refine ⟨_, (hL).len, ?_⟩
    refine ⟨_, (hL).len, ?_⟩
    refine ⟨_, l_roomBehind_ok B E.2.1 (n := L.length) (by omega), rfl, ?_⟩
    refine ⟨((L.length + room L.length : Nat) : Int), by rw [Int.natCast_add]; exact w64_id _ (by omega) (by omega), ?_⟩
    refine ⟨_, _, ⟨rfl, by omega, by omega⟩, rfl, ?_⟩
    refine ⟨Unit, (fun a0 a5 (i0 : Nat) (x0 : Unit) => [(0, a0), (5, a5), (6, .one (.i .i64 ((i0 : Nat) : Int)))]) _ _ , fun (i0 : Nat) (x0 : Unit) (G0 : List Blk) => (∃ w, G0 = H ++ [⟨false, .by [] ((L.length + room L.length) * 8) w⟩] ∧ ∀ i x, i < i0 → x < 8 → w (i * 8 + x) = L.getD i z0 x), L.length, ⟨(), ⟨_, rfl, fun i x h => absurd h (by omega)⟩, ⟨rfl, rfl, rfl, trivial⟩⟩, ?_⟩
    rintro i0 _ G0 hi0 ⟨w, rfl, hw⟩
    refine ⟨_, (hL).len, ?_⟩
    refine ⟨fun h24 => ?_, fun h24 => ?_⟩
    · replace h24 := of_decide_eq_true h24
      obtain ⟨k31, o31, n31, c31, q31, ea31, hl31, hq31, r31, C31, Z31, hk31, hf31⟩ := (hL.ext Ext.app).at i0 (by omega)
      refine ⟨k31, o31, n31, c31, i0, q31, ea31, rfl, hl31, hq31, ?_⟩
      refine ⟨_, _, _, _, hk31, hf31, ?_⟩
      refine ⟨_, l_toVector_ok B E.2.2 , rfl, ?_⟩
      refine ⟨_, _, _, _, _, _, rfl, rfl, by omega, rfl, ?_⟩
      refine ⟨_, _, _, get_new, cputs_by (by simp) (by omega), eqBk_rfl, ?_⟩
      rw [app_set0]
      refine ⟨((i0 + 1 : Nat) : Int), w64_id _ (by omega) (by omega), ?_⟩
      refine ⟨by omega, (), ?_, ⟨rfl, rfl, rfl, trivial⟩⟩
      refine ⟨_, rfl, fun i x hi hx => ?_⟩
      simp only [spl]
      by_cases e : i = i0
      · subst e
        rw [if_pos (by omega), show i * 8 + x - (0 + i * 8) = x by omega]
      · rw [if_neg (by omega)]
        exact hw i x (by omega) hx
    · replace h24 := of_decide_eq_false h24
      have e0 : L.length = i0 := by omega
      subst e0
      refine ⟨_, (hL).len, ?_⟩
      refine ⟨Unit, (fun a0 a5 (i1 : Nat) (x1 : Unit) => [(0, a0), (5, a5), (7, .one (.i .i64 ((L.length + i1 : Nat) : Int)))]) _ _ , fun (i1 : Nat) (x1 : Unit) (G1 : List Blk) => (∃ w, G1 = H ++ [⟨false, .by [] ((L.length + room L.length) * 8) w⟩] ∧ ∀ i x, i < L.length + i1 → x < 8 → w (i * 8 + x) = (extL L).getD i z0 x), room L.length, ⟨(), ?_, ⟨rfl, rfl, rfl, trivial⟩⟩, ?_⟩
      · refine ⟨w, rfl, fun i x hi hx => ?_⟩
        rw [extL_at, if_pos (by omega)]
        exact hw i x (by omega) hx
      rintro i1 _ G1 hi1 ⟨w1, rfl, hw1⟩
      refine ⟨_, rfl, ?_⟩
      refine ⟨fun h40 => ?_, fun h40 => ?_⟩
      · replace h40 := of_decide_eq_true h40
        refine ⟨_, _, _, _, _, _, rfl, rfl, by omega, rfl, ?_⟩
        refine ⟨_, _, _, get_new, cputs_by (by simp) (by omega), eqBk_rfl, ?_⟩
        rw [app_set0]
        refine ⟨((L.length + i1 + 1 : Nat) : Int), w64_id _ (by omega) (by omega), ?_⟩
        refine ⟨by omega, (), ?_, ⟨rfl, rfl, rfl, trivial⟩⟩
        refine ⟨_, rfl, fun i x hi hx => ?_⟩
        simp only [spl]
        by_cases e : i = L.length + i1
        · subst e
          rw [if_pos (by omega), extL_at, if_neg (by omega), if_pos (by omega), show (L.length + i1) * 8 + x - (0 + (L.length + i1) * 8) = x by omega]
          unfold v201
          by_cases e0 : x = 0
          · subst e0; rfl
          · simp [upd, e0]
        · rw [if_neg (by omega)]
          exact hw1 i x (by omega) hx
      · replace h40 := of_decide_eq_false h40
        refine ⟨_, (hL).len, ?_⟩
        refine ⟨0, L.length, rfl, rfl, ⟨by omega, by omega⟩, ?_⟩
        refine ⟨rfl, _, rfl, Ext.app, .inr ⟨H.length, w1, ?_, get_new, Nat.le_refl _, fun i x hi hx => hw1 i x (by omega) hx⟩⟩
        congr 1
        split <;> rfl

theorem l_szVectorS_ok (B : Bs P ρ) (E : F_l_szVectorS P ρ) {H : List Blk} {a : At} {L : List By} (hL : VA H a L) (hlen : L.length ≤ 9223372036854775807) :
    CallR P ρ 348 [a, .i .i64 1000000] H (fun u G => u = .one (.i .i64 (if L.length ≤ 1000000 then 1000000 - (L.length : Int) else -1)) ∧ G = H) := by
  refine call_of_q B.fn B.mo E rfl (fun hAr hHp => ?_) (by simp only [List.all_cons, List.all_nil, hL.lt]; rfl)
  refine ⟨_, (hL).len, ?_⟩
  refine ⟨_, w64_id _ (by omega) (by omega), ?_⟩
  refine ⟨fun h10 => ?_, fun h10 => ?_⟩
  · replace h10 := of_decide_eq_true h10
    exact ⟨rfl, by rw [if_neg (by omega)]; rfl, rfl⟩
  · replace h10 := of_decide_eq_false h10
    exact ⟨rfl, by rw [if_pos (by omega)]; rfl, rfl⟩

theorem l_intactVectorS_ok (B : Bs P ρ) (E : F_l_intactVectorS P ρ) {H : List Blk} {a b : At} {L : List By} {m1 m2 : Nat} (hA : VT m1 H a L) (hB : VT m2 H b L) (hlen : L.length ≤ 1000000) :
    CallR P ρ 352 [a, b] H (fun u G => u = .one (.b true) ∧ G = H) := by
  have lA := hA.vs.lt
  have lB := hB.vs.lt
  have hrl := room_le (n := L.length)
  obtain ⟨k1, f1, rfl, hk1, -, hf1⟩ := hA
  obtain ⟨k2, f2, rfl, hk2, -, hf2⟩ := hB
  refine call_of_q B.fn B.mo E.1 rfl (fun hAr hHp => ?_) (by simp only [List.all_cons, List.all_nil, lA, lB]; rfl)
  refine ⟨_, rfl, ?_⟩
  refine ⟨_, rfl, ?_⟩
  refine ⟨_, l_roomBehind_ok B E.2.1 (n := L.length) (by omega), rfl, ?_⟩
  refine ⟨((L.length + room L.length : Nat) : Int), by rw [Int.natCast_add]; exact w64_id _ (by omega) (by omega), ?_⟩
  refine ⟨_, rfl, ?_⟩
  refine ⟨_, rfl, ?_⟩
  refine ⟨fun h17 => ?_, fun h17 => ?_⟩
  · replace h17 := eq_of_beq h17
    refine brB_t ?_
    refine brB_t ?_
    refine ⟨0, L.length + room L.length, rfl, rfl, ⟨by omega, by omega⟩, ?_⟩
    refine brB_t ?_
    refine brB_t ?_
    refine brB_t ?_
    refine ⟨0, L.length + room L.length, rfl, rfl, ⟨by omega, by omega⟩, ?_⟩
    refine brB_t ?_
    refine ⟨_, l_eqVectorS_ok B E.2.2 (L := extL L) (vt_full rfl hk1 hf1) (vt_full rfl hk2 hf2) (by rw [extL_len]; omega), ?_⟩
    rintro _ _ ⟨rfl, rfl⟩
    refine brB_t ?_
    exact ⟨rfl, rfl, rfl⟩
  · replace h17 := ne_of_beq_false h17
    exact absurd rfl h17

end Hf
namespace Hf
open Go Classical
section
variable {W n : Nat} {p : Int}
def dt (n : Nat) (u v : By) : Int := sm n fun i => bz u i * bz v i
theorem dt_add (hp : 1 ≤ p) (hp2 : p ≤ 256) (hn : n ≤ W) {r u w : By} {k : Int} : cg p (dt n r (addW W p u w k)) (dt n r u + k * dt n r w) := by
  refine (cg_sm (y := fun i => bz r i * bz u i + k * (bz r i * bz w i)) fun i hi => (cg_mul cg.rfl' (cg_add' hp hp2 (by omega))).trans (cg_of_eq (by grind))).trans (cg_of_eq ?_)
  rw [sm_add, sm_mul]; rfl
theorem dt_add' (hp : 1 ≤ p) (hp2 : p ≤ 256) (hn : n ≤ W) {r u w : By} {k : Int} : cg p (dt n (addW W p u w k) r) (dt n u r + k * dt n w r) := by
  refine (cg_sm (y := fun i => bz u i * bz r i + k * (bz w i * bz r i)) fun i hi => (cg_mul (cg_add' hp hp2 (by omega)) cg.rfl').trans (cg_of_eq (by grind))).trans (cg_of_eq ?_)
  rw [sm_add, sm_mul]; rfl
theorem dt_z {r : By} : dt n r z0 = 0 := sm_zero fun i _ => by rw [bz_z0, Int.mul_zero]
theorem dt_z' {r : By} : dt n z0 r = 0 := sm_zero fun i _ => by rw [bz_z0, Int.zero_mul]
/-- a solution of the equations E -/
def KerD (n : Nat) (p : Int) (E : List By) (v : By) : Prop := Vp n p v ∧ ∀ e ∈ E, cg p (dt n e v) 0
theorem KerD.sp (hp : 1 ≤ p) (hp2 : p ≤ 256) (hn : n ≤ W) {E : List By} {v : By} (h : KerD n p E v) {u : By} (hu : Sp' W p E u) : cg p (dt n u v) 0 := by
  induction hu with
  | z => rw [dt_z']; rfl
  | a h1 h2 ih =>
    refine (dt_add' hp hp2 hn).trans ((cg_add ih (cg_mul cg.rfl' (h.2 _ h2))).trans (cg_of_eq (by simp)))
theorem KerD.eq (hp : 1 ≤ p) (hp2 : p ≤ 256) (hn : n ≤ W) {E R : List By} (h : SpE W p R E) (hE : ∀ e ∈ E, Vp W p e) (hR : ∀ e ∈ R, Vp W p e) {v : By} : KerD n p E v ↔ KerD n p R v :=
  ⟨fun q => ⟨q.1, fun r hr => q.sp hp hp2 hn ((h r).1 (.mem hp hp2 hr (hR r hr)))⟩, fun q => ⟨q.1, fun r hr => q.sp hp hp2 hn ((h r).2 (.mem hp hp2 hr (hE r hr)))⟩⟩
theorem KerD.add (hp : 1 ≤ p) (hp2 : p ≤ 256) {E : List By} {u w : By} {k : Int} (hu : KerD n p E u) (hw : KerD n p E w) : KerD n p E (addW n p u w k) :=
  ⟨Vp.add hp hp2, fun e he => (dt_add hp hp2 (Nat.le_refl _)).trans ((cg_add (hu.2 e he) (cg_mul cg.rfl' (hw.2 e he))).trans (cg_of_eq (by simp)))⟩
theorem KerD.z (hp : 1 ≤ p) {E : List By} : KerD n p E z0 := ⟨Vp.z hp, fun e _ => by rw [dt_z]; rfl⟩
theorem KerD.of (hp : 1 ≤ p) (hp2 : p ≤ 256) (hn : n ≤ W) {E L : List By} (h : ∀ u ∈ L, KerD n p E u) {v : By} (hv : Sp' W p L v) : KerD n p E v := by
  induction hv with
  | z => exact .z hp
  | a h1 h2 ih => rw [addW_w hn ih.1 (h _ h2).1]; exact ih.add hp hp2 (h _ h2)

end
end Hf
namespace Hf
open Go Classical
section
variable {p : Int}
/-- the first entries are 1, and the later ones have 0 there -/
structure HR (W : Nat) (p : Int) (L : List By) : Prop where
  vp : ∀ r ∈ L, Vp W p r
  ld : ∀ r ∈ L, fstW W r < W ∧ r (fstW W r) = 1
  st : L.Pairwise fun a b => b (fstW W a) = 0
variable {W : Nat}
theorem HR.tl {r : By} {L : List By} (h : HR W p (r :: L)) : HR W p L := ⟨fun q hq => h.vp q (by simp [hq]), fun q hq => h.ld q (by simp [hq]), (List.pairwise_cons.1 h.st).2⟩
theorem byW1_self (hp : 1 ≤ p) (hp2 : p ≤ 256) {r : By} (hv : Vp W p r) (h1 : r (fstW W r) = 1) : byW1 W p r r = z0 := by
  rw [byW1_add hp hp2 hv]
  refine (Vp.add hp hp2).ext (Vp.z hp) fun x hx => (cg_add' hp hp2 hx).trans (cg_of_eq ?_)
  rw [one_bz h1, bz_z0]; omega
theorem byW1_at (hp : 1 ≤ p) (hp2 : p ≤ 256) {v r : By} {y : Nat} (hv : Vp W p v) (h : r y = 0) : byW1 W p v r y = v y := by
  rw [byW1_add hp hp2 hv]
  by_cases hy : y < W
  · apply bz_inj
    show bz _ y = bz v y
    rw [bz_add hp hp2 hy, bz_eq0.2 h, Int.mul_zero, Int.add_zero]
    have := hv.1 y
    exact Int.emod_eq_of_lt (by unfold bz; omega) this
  · rw [(Vp.add hp hp2).2 y (by omega), hv.2 y (by omega)]
theorem byW1_lead (hp : 1 ≤ p) (hp2 : p ≤ 256) {v r : By} (hv : Vp W p v) (hr : fstW W r < W ∧ r (fstW W r) = 1) : byW1 W p v r (fstW W r) = 0 := by
  rw [byW1_add hp hp2 hv]
  apply bz_eq0.1
  rw [bz_add hp hp2 hr.1, one_bz hr.2, Int.mul_one, Int.add_right_neg]
  exact Int.zero_emod p
theorem byW_at (hp : 1 ≤ p) (hp2 : p ≤ 256) {y : Nat} : ∀ {L : List By} {v : By}, Vp W p v → (∀ r ∈ L, r y = 0) → byW W p v L y = v y
  | [], _, _, _ => rfl
  | r :: L, v, hv, h => by
    show byW W p (byW1 W p v r) L y = v y
    rw [byW_at hp hp2 (byW1_vp hp hp2 hv) fun q hq => h q (by simp [hq]), byW1_at hp hp2 hv (h r (by simp))]
theorem HR.left (hp : 1 ≤ p) (hp2 : p ≤ 256) : ∀ {L : List By} {v : By}, HR W p L → Vp W p v → ∀ r ∈ L, byW W p v L (fstW W r) = 0
  | [], _, _, _, r, hr => by simp at hr
  | q :: L, v, h, hv, r, hr => by
    show byW W p (byW1 W p v q) L (fstW W r) = 0
    rcases List.mem_cons.1 hr with rfl | hr
    · rw [byW_at hp hp2 (byW1_vp hp hp2 hv) (List.pairwise_cons.1 h.st).1]
      exact byW1_lead hp hp2 hv (h.ld r (by simp))
    · exact h.tl.left hp hp2 (byW1_vp hp hp2 hv) r hr
theorem HR.kill (hp : 1 ≤ p) (hp2 : p ≤ 256) : ∀ {L : List By}, HR W p L → ∀ w ∈ L, byW W p w L = z0
  | [], _, w, hw => by simp at hw
  | q :: L, h, w, hw => by
    show byW W p (byW1 W p w q) L = z0
    rcases List.mem_cons.1 hw with rfl | hw
    · rw [byW1_self hp hp2 (h.vp w (by simp)) (h.ld w (by simp)).2]
      exact byW_fix fun r _ => rfl
    · have e : byW1 W p w q = w := by unfold byW1; rw [if_pos ((List.pairwise_cons.1 h.st).1 w hw)]
      rw [e]; exact h.tl.kill hp hp2 w hw
theorem eqB_z8 {v : By} (hv : Vp 8 p v) : eqB 8 v z0 = true ↔ v = z0 := by
  rw [eqB_iff]
  constructor
  · intro h; funext x
    rcases Nat.lt_or_ge x 8 with hx | hx
    · exact h x hx
    · exact hv.2 x hx
  · intro h x _; rw [h]
theorem SpE.one (hp : 1 ≤ p) (hp2 : p ≤ 256) {A B : List By} {u w : By} {k l : Int} (hAB : SpE W p A B) (hA : ∀ a ∈ A, Vp W p a) (hB : ∀ a ∈ B, Vp W p a) (hu : Vp W p u) (hw : Vp W p w) {s s' : By} (hs : Sp' W p A s) (hs' : Sp' W p A s') (h1 : w = addW W p s u k) (h2 : u = addW W p s' w l) :
    SpE W p (A ++ [w]) (B ++ [u]) := by
  have subA : ∀ {C : List By} {v : By}, Sp' W p A v → Sp' W p (A ++ C) v := fun h => h.sub hp hp2 fun r hr => .mem hp hp2 (List.mem_append_left _ hr) (hA r hr)
  have subB : ∀ {C : List By} {v : By}, Sp' W p B v → Sp' W p (B ++ C) v := fun h => h.sub hp hp2 fun r hr => .mem hp hp2 (List.mem_append_left _ hr) (hB r hr)
  refine SpE.of hp hp2 (fun r hr => ?_) (fun r hr => ?_)
  · rcases List.mem_append.1 hr with h | h
    · exact subB ((hAB r).1 (.mem hp hp2 h (hA r h)))
    · rw [List.mem_singleton.1 h, h1]
      exact (subB ((hAB s).1 hs)).add hp hp2 (.mem hp hp2 (by simp) hu)
  · rcases List.mem_append.1 hr with h | h
    · exact subA ((hAB r).2 (.mem hp hp2 h (hB r h)))
    · rw [List.mem_singleton.1 h, h2]
      exact (subA hs').add hp hp2 (.mem hp hp2 (by simp) hw)
theorem Sp'.congr {A B : List By} (h : ∀ r, r ∈ A ↔ r ∈ B) : SpE W p A B := by
  have one : ∀ {A B : List By}, (∀ r, r ∈ A → r ∈ B) → ∀ v, Sp' W p A v → Sp' W p B v := by
    intro A B h v hv
    induction hv with
    | z => exact .z
    | a h1 h2 ih => exact .a ih (h _ h2)
  exact fun v => ⟨one (fun r => (h r).1) v, one (fun r => (h r).2) v⟩

/-! ### what is left over are the solutions -/
theorem HR.app (hp : 1 ≤ p) (hp2 : p ≤ 256) {V Z : List By} (h : HR W p V) (hz : ∀ z ∈ Z, Vp W p z ∧ ∀ r ∈ V, z (fstW W r) = 0) {u : By} (hu : Sp' W p (V ++ Z) u) : Sp' W p Z (byW W p u V) := by
  have hv : ∀ w ∈ V ++ Z, Vp W p w := by
    intro w hw
    rcases List.mem_append.1 hw with h' | h'
    · exact h.vp w h'
    · exact (hz w h').1
  induction hu with
  | z => rw [byW_fix fun r _ => rfl]; exact .z
  | a h1 h2 ih =>
    rename_i u w k
    rw [byW_lin hp hp2 (fun r hr => (h.ld r hr).1) (h1.vp hp hp2) (hv _ h2)]
    rcases List.mem_append.1 h2 with h' | h'
    · rw [h.kill hp hp2 _ h', add_z hp hp2 (byW_vp hp hp2 (h1.vp hp hp2))]; exact ih
    · rw [byW_fix fun r hr => (hz _ h').2 r hr]; exact .a ih h'
end
end Hf
namespace Hf
open Go Classical
section
variable {p : Int} {W n : Nat}
/-- a combination -/
def cmF (n : Nat) (p : Int) (a : Nat → By) (x : By) : By := vec 8 p fun y => sm n fun i => bz x i * bz (a i) y
theorem cmF_vp (hp : 1 ≤ p) (hp2 : p ≤ 256) {a : Nat → By} {x : By} : Vp 8 p (cmF n p a x) := ⟨fun x => bz_vec_lt hp hp2, fun x hx => vec_out hx⟩
theorem cmF_add (hp : 1 ≤ p) (hp2 : p ≤ 256) (hn : n ≤ W) {a : Nat → By} {u w : By} {k : Int} : cmF n p a (addW W p u w k) = addW 8 p (cmF n p a u) (cmF n p a w) k := by
  refine (cmF_vp hp hp2).ext (Vp.add hp hp2) fun y hy => ?_
  refine (cg_vec hp hp2 hy).trans (cg.symm ((cg_add' hp hp2 hy).trans ((cg_add (cg_vec hp hp2 hy) (cg_mul cg.rfl' (cg_vec hp hp2 hy))).trans (cg.symm ?_))))
  rw [← sm_mul, ← sm_add]
  exact cg_sm fun i hi => (cg_mul (cg_add' hp hp2 (by omega)) cg.rfl').trans (cg_of_eq (by grind))
theorem cmF_z {a : Nat → By} : cmF n p a z0 = z0 := vec_zero fun y _ => sm_zero fun i _ => by rw [bz_z0, Int.zero_mul]
end
end Hf
namespace Hf
open Go Classical
section
variable {p : Int} {n d : Nat} {g f : By}
end
theorem nodup_sub : ∀ {A B : List Nat}, A.Nodup → (∀ x ∈ A, x ∈ B) → A.length ≤ B.length ∧ (A.length = B.length → ∀ x ∈ B, x ∈ A)
  | [], B, _, _ => ⟨Nat.zero_le _, fun h x hx => by
    have : B = [] := List.length_eq_zero_iff.1 h.symm
    subst this; cases hx⟩
  | a :: A, B, hn, hs => by
    obtain ⟨h1, h2⟩ := List.nodup_cons.1 hn
    have ha : a ∈ B := hs a (by simp)
    have hle := List.length_erase_of_mem ha
    have hpos : 0 < B.length := List.length_pos_of_mem ha
    obtain ⟨q1, q2⟩ := nodup_sub (A := A) (B := B.erase a) h2 fun x hx => (List.mem_erase_of_ne (by rintro rfl; exact h1 hx)).2 (hs x (by simp [hx]))
    refine ⟨by simp only [List.length_cons]; omega, fun h x hx => ?_⟩
    by_cases e : x = a
    · subst e; simp
    · exact List.mem_cons_of_mem _ (q2 (by simp only [List.length_cons] at h; omega) x ((List.mem_erase_of_ne e).2 hx))
section
variable {p : Int}
/-- a space of the same size that lies in another one -/
theorem RR.same (hp1 : 1 ≤ p) (hp2 : p ≤ 256) {A B : List By} (hA : RR 8 p A) (hB : RR 8 p B) (h : ∀ u ∈ A, Sp' 8 p B u) : A.length ≤ B.length ∧ (A.length = B.length → SpE 8 p A B) := by
  have nA : (A.map (fstW 8)).Nodup := by
    rw [List.nodup_iff_pairwise_ne, List.pairwise_map]
    exact hA.sorted.imp fun h => Nat.ne_of_lt h
  have sub : ∀ x ∈ A.map (fstW 8), x ∈ B.map (fstW 8) := by
    intro x hx
    obtain ⟨u, hu, rfl⟩ := List.mem_map.1 hx
    obtain ⟨b, hb, e⟩ := hB.lead hp1 hp2 (h u hu) (hA.nz hu)
    exact List.mem_map.2 ⟨b, hb, e⟩
  obtain ⟨q1, q2⟩ := nodup_sub nA sub
  simp only [List.length_map] at q1 q2
  refine ⟨q1, fun e => SpE.of hp1 hp2 h fun b hb => ?_⟩
  have hbv := hB.vp b hb
  refine (hA.in_iff hp1 hp2 hbv).2 ?_
  apply Classical.byContradiction
  intro hn
  obtain ⟨s, m1, m2, m3⟩ := byW_sp hp1 hp2 (L := A) (M := A) (v := b) (fun _ h => h) hbv
  have hr : Sp' 8 p B (byW 8 p b A) := by
    rw [m3]
    exact (Sp'.mem hp1 hp2 hb hbv).add hp1 hp2 (m1.sub hp1 hp2 h)
  obtain ⟨c, hc, e2⟩ := hB.lead hp1 hp2 hr hn
  have hcA := q2 e _ (List.mem_map.2 ⟨c, hc, rfl⟩)
  obtain ⟨a, ha, e3⟩ := List.mem_map.1 hcA
  have h0 := hA.left hp1 hp2 hbv a ha
  have hl : fstW 8 (byW 8 p b A) < 8 := by rw [← e2, ← e3]; exact hA.fs a ha
  have := fstW_ne (W := 8) hl
  rw [e3, e2] at h0
  exact this h0
end
end Hf
namespace Hf
open Go Classical
section
variable {p : Int} {n : Nat} {f : By}
def cpV (p : Int) (n : Nat) (f v : By) : By := vec 64 p (cop n f 530 v)
noncomputable def lgL (p : Int) (n : Nat) (f v : By) : List By := rows8 (cpV p n f v) ++ rows8 (trT (cpV p n f v))
def pdV (p : Int) (n : Nat) (f v w : By) : By := vec 8 p (prd n f 10 v w)
def anV (p : Int) (n : Nat) (f v : By) : By := vec 8 p fun y => sm n fun i => bz v i * bz f (1042 + i * 8 + y)
def unV (f : By) : By := fun x => if x < 8 then f (2 + x) else 0
theorem cp_lt (hp : 1 ≤ p) (hp2 : p ≤ 256) {v : By} : ∀ x, x < 64 → bz (cpV p n f v) x < p := fun x _ => bz_vec_lt hp hp2
theorem lg_vp (hp : 1 ≤ p) (hp2 : p ≤ 256) {v : By} : ∀ w ∈ lgL p n f v, Vp 8 p w := by
  intro w hw
  rcases List.mem_append.1 hw with h | h
  · exact rows8_vp (cp_lt hp hp2) hp w h
  · exact rows8_vp (trT_lt (cp_lt hp hp2)) hp w h
theorem pd_vp (hp : 1 ≤ p) (hp2 : p ≤ 256) {v w : By} : Vp 8 p (pdV p n f v w) := ⟨fun x => bz_vec_lt hp hp2, fun x hx => vec_out hx⟩
theorem an_vp (hp : 1 ≤ p) (hp2 : p ≤ 256) {v : By} : Vp 8 p (anV p n f v) := ⟨fun x => bz_vec_lt hp hp2, fun x hx => vec_out hx⟩
/-- entries of a coproduct -/
theorem cp_add (hp : 1 ≤ p) (hp2 : p ≤ 256) (hn : n ≤ 8) {u w : By} {k : Int} {x : Nat} (hx : x < 64) : cg p (bz (cpV p n f (addW 8 p u w k)) x) (bz (cpV p n f u) x + k * bz (cpV p n f w) x) := by
  refine (cg_vec hp hp2 hx).trans (cg.symm ((cg_add (cg_vec hp hp2 hx) (cg_mul cg.rfl' (cg_vec hp hp2 hx))).trans (cg.symm ?_)))
  unfold cop
  by_cases h : x / 8 < n
  · rw [if_pos h, if_pos h, if_pos h, ← sm_mul, ← sm_add]
    exact cg_sm fun i hi => (cg_mul (cg_add' hp hp2 (by omega)) cg.rfl').trans (cg_of_eq (by grind))
  · rw [if_neg h, if_neg h, if_neg h]; exact cg_of_eq (by omega)
theorem cp_z : cpV p n f z0 = fun _ => 0 := vec_zero fun y _ => by
  unfold cop
  split
  · exact sm_zero fun i _ => by rw [bz_z0, Int.zero_mul]
  · rfl
theorem row_add (hp : 1 ≤ p) (hp2 : p ≤ 256) (hn : n ≤ 8) {u w : By} {k : Int} {j : Nat} (hj : j < 8) : rw8 (cpV p n f (addW 8 p u w k)) j = addW 8 p (rw8 (cpV p n f u) j) (rw8 (cpV p n f w) j) k := by
  refine (rows8_vp (cp_lt hp hp2) hp _ (List.mem_map_of_mem (List.mem_range.2 hj))).ext (Vp.add hp hp2) fun x hx => ?_
  refine cg.trans ?_ (cg_add' hp hp2 hx).symm
  have e : ∀ g : By, bz (rw8 g j) x = bz g (j * 8 + x) := fun g => by unfold bz rw8; rw [if_pos hx]
  rw [e, e, e]
  exact cp_add hp hp2 hn (by omega)
theorem col_add (hp : 1 ≤ p) (hp2 : p ≤ 256) (hn : n ≤ 8) {u w : By} {k : Int} {j : Nat} (hj : j < 8) : rw8 (trT (cpV p n f (addW 8 p u w k))) j = addW 8 p (rw8 (trT (cpV p n f u)) j) (rw8 (trT (cpV p n f w)) j) k := by
  refine (rows8_vp (trT_lt (cp_lt hp hp2)) hp _ (List.mem_map_of_mem (List.mem_range.2 hj))).ext (Vp.add hp hp2) fun x hx => ?_
  refine cg.trans ?_ (cg_add' hp hp2 hx).symm
  have e : ∀ g : By, bz (rw8 (trT g) j) x = bz g (x * 8 + j) := fun g => by unfold bz rw8; rw [if_pos hx, trT_app hj hx]
  rw [e, e, e]
  exact cp_add hp hp2 hn (by omega)
theorem pd_add_l (hp : 1 ≤ p) (hp2 : p ≤ 256) (hn : n ≤ 8) {u w x : By} {k : Int} : pdV p n f (addW 8 p u w k) x = addW 8 p (pdV p n f u x) (pdV p n f w x) k := by
  refine (pd_vp hp hp2).ext (Vp.add hp hp2) fun y hy => ?_
  refine (cg_vec hp hp2 hy).trans (cg.symm ((cg_add' hp hp2 hy).trans ((cg_add (cg_vec hp hp2 hy) (cg_mul cg.rfl' (cg_vec hp hp2 hy))).trans (cg.symm ?_))))
  unfold prd
  rw [← sm_mul, ← sm_add]
  refine cg_sm fun i hi => ?_
  rw [← sm_mul, ← sm_add]
  exact cg_sm fun j hj => (cg_mul (cg_mul (cg_add' hp hp2 (by omega)) cg.rfl') cg.rfl').trans (cg_of_eq (by grind))
theorem pd_add_r (hp : 1 ≤ p) (hp2 : p ≤ 256) (hn : n ≤ 8) {u w x : By} {k : Int} : pdV p n f x (addW 8 p u w k) = addW 8 p (pdV p n f x u) (pdV p n f x w) k := by
  refine (pd_vp hp hp2).ext (Vp.add hp hp2) fun y hy => ?_
  refine (cg_vec hp hp2 hy).trans (cg.symm ((cg_add' hp hp2 hy).trans ((cg_add (cg_vec hp hp2 hy) (cg_mul cg.rfl' (cg_vec hp hp2 hy))).trans (cg.symm ?_))))
  unfold prd
  rw [← sm_mul, ← sm_add]
  refine cg_sm fun i hi => ?_
  rw [← sm_mul, ← sm_add]
  exact cg_sm fun j hj => (cg_mul (cg_mul cg.rfl' (cg_add' hp hp2 (by omega))) cg.rfl').trans (cg_of_eq (by grind))
theorem pd_z_l {x : By} : pdV p n f z0 x = z0 := vec_zero fun y _ => sm_zero fun i _ => sm_zero fun j _ => by rw [bz_z0, Int.zero_mul, Int.zero_mul]
theorem pd_z_r {x : By} : pdV p n f x z0 = z0 := vec_zero fun y _ => sm_zero fun i _ => sm_zero fun j _ => by rw [bz_z0, Int.mul_zero, Int.zero_mul]
theorem an_add (hp : 1 ≤ p) (hp2 : p ≤ 256) (hn : n ≤ 8) {u w : By} {k : Int} : anV p n f (addW 8 p u w k) = addW 8 p (anV p n f u) (anV p n f w) k := cmF_add hp hp2 hn
theorem an_z : anV p n f z0 = z0 := cmF_z

/-- led into itself -/
def LegC (p : Int) (n : Nat) (f : By) (T : List By) : Prop := ∀ u ∈ T, ∀ w ∈ lgL p n f u, Sp' 8 p T w
def Clo (p : Int) (n : Nat) (f : By) (T : List By) : Prop := Sp' 8 p T (unV f) ∧ (∀ u ∈ T, ∀ w ∈ T, Sp' 8 p T (pdV p n f u w)) ∧ LegC p n f T ∧ ∀ u ∈ T, Sp' 8 p T (anV p n f u)
theorem lg_mem {v w : By} : w ∈ lgL p n f v ↔ ∃ j, j < 8 ∧ (w = rw8 (cpV p n f v) j ∨ w = rw8 (trT (cpV p n f v)) j) := by
  unfold lgL rows8
  rw [List.mem_append]
  constructor
  · rintro (h | h) <;> obtain ⟨j, hj, rfl⟩ := List.mem_map.1 h
    · exact ⟨j, List.mem_range.1 hj, .inl rfl⟩
    · exact ⟨j, List.mem_range.1 hj, .inr rfl⟩
  · rintro ⟨j, hj, rfl | rfl⟩
    · exact .inl (List.mem_map_of_mem (List.mem_range.2 hj))
    · exact .inr (List.mem_map_of_mem (List.mem_range.2 hj))
theorem rw8_0 {j : Nat} : rw8 (fun _ => 0) j = z0 := by funext x; unfold rw8 z0; split <;> rfl
theorem trT_0 : ∀ x, x < 64 → trT (fun _ => 0) x = 0 := by
  intro x hx
  have := trT_app (F := fun _ => 0) (a := x / 8) (b := x % 8) (by omega) (by omega)
  rwa [show x / 8 * 8 + x % 8 = x by omega] at this
theorem rw8_t0 {j : Nat} (hj : j < 8) : rw8 (trT (fun _ => 0)) j = z0 := by
  funext x
  unfold rw8
  split
  · exact trT_0 _ (by omega)
  · rfl
/-- the legs of all of a space -/
theorem leg_sp (hp : 1 ≤ p) (hp2 : p ≤ 256) (hn : n ≤ 8) {S T : List By} (h : ∀ u ∈ S, ∀ w ∈ lgL p n f u, Sp' 8 p T w) {v : By} (hv : Sp' 8 p S v) : ∀ w ∈ lgL p n f v, Sp' 8 p T w := by
  induction hv with
  | z =>
    intro w hw
    obtain ⟨j, hj, rfl | rfl⟩ := lg_mem.1 hw
    · rw [cp_z, rw8_0]; exact .z
    · rw [cp_z, rw8_t0 hj]; exact .z
  | a q1 q2 ih =>
    rename_i u w k
    intro x hx
    obtain ⟨j, hj, rfl | rfl⟩ := lg_mem.1 hx
    · rw [row_add hp hp2 hn hj]
      exact (ih _ (lg_mem.2 ⟨j, hj, .inl rfl⟩)).add hp hp2 (h _ q2 _ (lg_mem.2 ⟨j, hj, .inl rfl⟩))
    · rw [col_add hp hp2 hn hj]
      exact (ih _ (lg_mem.2 ⟨j, hj, .inr rfl⟩)).add hp hp2 (h _ q2 _ (lg_mem.2 ⟨j, hj, .inr rfl⟩))
theorem an_sp (hp : 1 ≤ p) (hp2 : p ≤ 256) (hn : n ≤ 8) {S T : List By} (h : ∀ u ∈ S, Sp' 8 p T (anV p n f u)) {v : By} (hv : Sp' 8 p S v) : Sp' 8 p T (anV p n f v) := by
  induction hv with
  | z => rw [an_z]; exact .z
  | a q1 q2 ih => rw [an_add hp hp2 hn]; exact ih.add hp hp2 (h _ q2)
theorem pd_sp (hp : 1 ≤ p) (hp2 : p ≤ 256) (hn : n ≤ 8) {S S' T : List By} (h : ∀ u ∈ S, ∀ w ∈ S', Sp' 8 p T (pdV p n f u w)) {v w : By} (hv : Sp' 8 p S v) (hw : Sp' 8 p S' w) : Sp' 8 p T (pdV p n f v w) := by
  induction hv with
  | z => rw [pd_z_l]; exact .z
  | a q1 q2 ih =>
    rw [pd_add_l hp hp2 hn]
    refine ih.add hp hp2 ?_
    clear ih
    induction hw with
    | z => rw [pd_z_r]; exact .z
    | a r1 r2 ih2 => rw [pd_add_r hp hp2 hn]; exact ih2.add hp hp2 (h _ q2 _ r2)
/-- what a closed space has is led into it -/
theorem LegC.sp (hp : 1 ≤ p) (hp2 : p ≤ 256) (hn : n ≤ 8) {T : List By} (h : LegC p n f T) {v : By} (hv : Sp' 8 p T v) : ∀ w ∈ lgL p n f v, Sp' 8 p T w := leg_sp hp hp2 hn h hv
/-- closed, told by another list of the same space -/
theorem LegC.eq (hp : 1 ≤ p) (hp2 : p ≤ 256) (hn : n ≤ 8) {S T : List By} (hS : ∀ u ∈ S, Vp 8 p u) (e : SpE 8 p S T) (h : LegC p n f T) : LegC p n f S := fun u hu w hw =>
  (e w).2 (h.sp hp hp2 hn ((e u).1 (.mem hp hp2 hu (hS u hu))) w hw)
theorem Clo.eq (hp : 1 ≤ p) (hp2 : p ≤ 256) (hn : n ≤ 8) {S T : List By} (hS : ∀ u ∈ S, Vp 8 p u) (e : SpE 8 p S T) (h : Clo p n f T) : Clo p n f S := by
  have m : ∀ u ∈ S, Sp' 8 p T u := fun u hu => (e u).1 (.mem hp hp2 hu (hS u hu))
  exact ⟨(e _).2 h.1, fun u hu w hw => (e _).2 (pd_sp hp hp2 hn h.2.1 (m u hu) (m w hw)), h.2.2.1.eq hp hp2 hn hS e, fun u hu => (e _).2 (an_sp hp hp2 hn h.2.2.2 (m u hu))⟩
/-- the products, the legs and the S of a list, and the unit -/
noncomputable def clsL (p : Int) (n : Nat) (f : By) (L : List By) : List By := unV f :: L.flatMap fun v => L.map (pdV p n f v) ++ lgL p n f v ++ [anV p n f v]
theorem cls_iff {S T : List By} : (∀ u ∈ clsL p n f S, Sp' 8 p T u) ↔ Sp' 8 p T (unV f) ∧ (∀ u ∈ S, ∀ w ∈ S, Sp' 8 p T (pdV p n f u w)) ∧ (∀ u ∈ S, ∀ w ∈ lgL p n f u, Sp' 8 p T w) ∧ ∀ u ∈ S, Sp' 8 p T (anV p n f u) := by
  unfold clsL
  constructor
  · intro h
    refine ⟨h _ (by simp), fun u hu w hw => h _ ?_, fun u hu w hw => h _ ?_, fun u hu => h _ ?_⟩
    all_goals refine List.mem_cons_of_mem _ (List.mem_flatMap.2 ⟨u, hu, ?_⟩)
    · exact List.mem_append_left _ (List.mem_append_left _ (List.mem_map_of_mem hw))
    · exact List.mem_append_left _ (List.mem_append_right _ hw)
    · exact List.mem_append_right _ (by simp)
  · rintro ⟨h1, h2, h3, h4⟩ u hu
    rcases List.mem_cons.1 hu with rfl | hu
    · exact h1
    · obtain ⟨v, hv, hu⟩ := List.mem_flatMap.1 hu
      rcases List.mem_append.1 hu with hu | hu
      · rcases List.mem_append.1 hu with hu | hu
        · obtain ⟨w, hw, rfl⟩ := List.mem_map.1 hu; exact h2 v hv w hw
        · exact h3 v hv u hu
      · obtain rfl : u = anV p n f v := by simpa using hu
        exact h4 v hv
theorem un_vp (h : HShp p n f) : Vp 8 p (unV f) := by
  have hb := h.b
  refine ⟨fun x => ?_, fun x hx => if_neg (by omega)⟩
  unfold bz unV
  split
  · rename_i hx; exact (h.2.1 x hx).1
  · simp; omega
theorem cls_vp (h : HShp p n f) {L : List By} : ∀ u ∈ clsL p n f L, Vp 8 p u := by
  have hb := h.b
  intro u hu
  rcases List.mem_cons.1 hu with rfl | hu
  · exact un_vp h
  · obtain ⟨v, hv, hu⟩ := List.mem_flatMap.1 hu
    rcases List.mem_append.1 hu with hu | hu
    · rcases List.mem_append.1 hu with hu | hu
      · obtain ⟨w, hw, rfl⟩ := List.mem_map.1 hu; exact pd_vp (by omega) (by omega)
      · exact lg_vp (by omega) (by omega) u hu
    · obtain rfl : u = anV p n f v := by simpa using hu
      exact an_vp (by omega) (by omega)
/-- the least closed space that has a list -/
def Gen (p : Int) (n : Nat) (f : By) (L R : List By) : Prop := RR 8 p R ∧ (∀ u ∈ L, Sp' 8 p R u) ∧ Clo p n f R ∧ ∀ T, Clo p n f T → (∀ u ∈ L, Sp' 8 p T u) → ∀ u ∈ R, Sp' 8 p T u
/-- a reduced list is closed if what it generates is as long -/
theorem Gen.sub (hp : 1 ≤ p) (hp2 : p ≤ 256) (hn : n ≤ 8) {L R : List By} (hL : RR 8 p L) (h : Gen p n f L R) : R.length = L.length ↔ Clo p n f L := by
  obtain ⟨q1, q2⟩ := hL.same hp hp2 h.1 h.2.1
  constructor
  · intro e
    exact h.2.2.1.eq hp hp2 hn hL.vp (q2 e.symm)
  · intro c
    have := (h.1.same hp hp2 hL (h.2.2.2 L c fun u hu => .mem hp hp2 hu (hL.vp u hu))).1
    omega
end
end Hf
namespace Hf
open Go Classical
theorem VS.fr {l : List Nat} {H H' : List Blk} {a : At} {L : List By} (h : VS H a L) (e : Fr l H H') (hn : ∀ k ∈ spB a, k ∉ l) : VS H' a L := by
  rcases h with h | ⟨k, off, cap, r, N, f, rfl, h2, h3, h4⟩
  · exact .inl h
  · exact .inr ⟨k, off, cap, r, N, f, rfl, e _ _ (hn k (by simp [spB])) h2, h3, h4⟩
theorem VW.fr {m : Nat} {l : List Nat} {H H' : List Blk} {a : At} {L : List By} (h : VW m H a L) (e : Fr l H H') (hn : blkOf a ∉ l) : VW m H' a L := by
  obtain ⟨k, off, cap, N, f, rfl, h2, h3, h4⟩ := h
  exact ⟨k, off, cap, N, f, rfl, e _ _ hn h2, h3, h4⟩
theorem VW.lt {m : Nat} {H : List Blk} {a : At} {L : List By} (h : VW m H a L) : blkOf a < H.length := by
  obtain ⟨k, off, cap, N, f, rfl, h2, h3, h4⟩ := h
  exact lt_of h2
theorem VW.sp {m : Nat} {H : List Blk} {a : At} {L : List By} (h : VW m H a L) : spB a = [blkOf a] := by
  obtain ⟨k, off, cap, N, f, rfl, h2, h3, h4⟩ := h
  rfl
end Hf
namespace Hf
open Go Classical
section
variable {p : Int} {n : Nat} {f : By}
/-- a Hopf algebra and vectors of it -/
def HQ (p n : Int) (f : By) (L : List By) : Prop := Hop p n f ∧ ∀ v ∈ L, Vec p n v 0
theorem HQ.vn {L : List By} (h : HQ p (n : Int) f L) (hz : ∀ v ∈ L, ∀ x, 8 ≤ x → v x = 0) : ∀ v ∈ L, Vp n p v := by
  intro v hv
  have hb := h.1.1.b
  have h2 := h.2 v hv
  refine ⟨fun x => ?_, fun x hx => ?_⟩
  · by_cases hx : x < 8
    · have := (h2 x hx).1; rwa [Nat.zero_add] at this
    · unfold bz; rw [hz v hv x (by omega)]; simp; omega
  · by_cases h8 : x < 8
    · have := (h2 x h8).2 (by omega); rw [Nat.zero_add] at this; exact bz_eq0.1 this
    · exact hz v hv x (by omega)
theorem red_vn {m : Nat} (hp : Pr p) (hm : m ≤ 8) {L : List By} (h : ∀ v ∈ L, Vp m p v) : ∀ v ∈ redL p L, Vp m p v := by
  intro v hv
  have hp1 := hp.1
  have hp2 := hp.2.1
  have q := redL_rr hp fun v hv => (h v hv).mono hm
  have := (q.2 v).1 (.mem (by omega) (by omega) hv (q.1.vp v hv))
  exact (this.w1 (by omega) (by omega) hm h).vp (by omega) (by omega)
theorem legS_sp (hs : HShp p (n : Int) f) {v : By} : SpE 8 p (legS p n (cpV p n f v) n) (lgL p n f v) := by
  have hpr := hs.1.1
  have hp2 := hpr.1
  have hp3 := hpr.2.1
  have hn8 : n ≤ 8 := by have := hs.1.2.2; omega
  have hlt : ∀ x, x < 64 → bz (cpV p n f v) x < p := fun x _ => bz_vec_lt (by omega) (by omega)
  have hz : ∀ j k, j < 8 → k < 8 → n ≤ j ∨ n ≤ k → cpV p n f v (j * 8 + k) = 0 := fun j k hj hk hz => bz_eq0.1 (cop_z hs hj hk hz)
  rw [legS_red]
  unfold lgL
  generalize hm : cpV p n f v = m at hlt hz
  have hcol : ∀ j, j < 8 → colN n m j = rw8 (trT m) j := by
    intro j hj
    funext k
    unfold colN rw8
    by_cases hk : k < 8
    · rw [if_pos hk, trT_app hj hk]
      by_cases hk2 : k < n
      · rw [if_pos hk2]
      · rw [if_neg hk2, hz k j hk hj (.inl (by omega))]
    · rw [if_neg hk, if_neg (by omega)]
  have hA : ∀ w ∈ (List.range n).flatMap (fun j => [rw8 m j, colN n m j]), w ∈ rows8 m ++ rows8 (trT m) := by
    intro w hw
    obtain ⟨j, hj, hw⟩ := List.mem_flatMap.1 hw
    have hj := List.mem_range.1 hj
    simp only [List.mem_cons, List.not_mem_nil, or_false] at hw
    rcases hw with rfl | rfl
    · exact List.mem_append_left _ (List.mem_map_of_mem (List.mem_range.2 (by omega)))
    · rw [hcol j (by omega)]
      exact List.mem_append_right _ (List.mem_map_of_mem (List.mem_range.2 (by omega)))
  have hvB : ∀ w ∈ rows8 m ++ rows8 (trT m), Vp 8 p w := by
    intro w hw
    rcases List.mem_append.1 hw with h | h
    · exact rows8_vp hlt (by omega) w h
    · exact rows8_vp (trT_lt hlt) (by omega) w h
  have hvA : ∀ w ∈ (List.range n).flatMap (fun j => [rw8 m j, colN n m j]), Vp 8 p w := fun w hw => hvB w (hA w hw)
  refine (redL_rr hpr hvA).2.trans (SpE.of (by omega) (by omega) (fun w hw => .mem (by omega) (by omega) (hA w hw) (hvA w hw)) fun w hw => ?_)
  have hzr : ∀ g : By, (∀ x, x < 8 → g x = 0) → (∀ x, 8 ≤ x → g x = 0) → g = z0 := fun g h1 h2 => by
    funext x
    by_cases h : x < 8
    · exact h1 x h
    · exact h2 x (by omega)
  rcases List.mem_append.1 hw with h | h <;> obtain ⟨j, hj, rfl⟩ := List.mem_map.1 h <;> have hj := List.mem_range.1 hj
  · by_cases hjn : j < n
    · exact .mem (by omega) (by omega) (List.mem_flatMap.2 ⟨j, List.mem_range.2 hjn, by simp⟩) (hvB _ hw)
    · rw [hzr (rw8 m j) (fun x hx => by unfold rw8; rw [if_pos hx]; exact hz j x hj hx (.inl (by omega))) fun x hx => if_neg (by omega)]; exact .z
  · by_cases hjn : j < n
    · exact .mem (by omega) (by omega) (List.mem_flatMap.2 ⟨j, List.mem_range.2 hjn, by simp [hcol j hj]⟩) (hvB _ hw)
    · rw [hzr (rw8 (trT m) j) (fun x hx => by unfold rw8; rw [if_pos hx, trT_app hj hx]; exact hz x j hx hj (.inr (by omega))) fun x hx => if_neg (by omega)]; exact .z
theorem legS_rr (hs : HShp p (n : Int) f) {v : By} : RR 8 p (legS p n (cpV p n f v) n) := by
  have hpr := hs.1.1
  have hp2 := hpr.1
  have hp3 := hpr.2.1
  have hlt : ∀ x, x < 64 → bz (cpV p n f v) x < p := fun x _ => bz_vec_lt (by omega) (by omega)
  rw [legS_red]
  refine (redL_rr hpr ?_).1
  intro w hw
  obtain ⟨j, hj, hw⟩ := List.mem_flatMap.1 hw
  have hj := List.mem_range.1 hj
  have hn8 : n ≤ 8 := by have := hs.1.2.2; omega
  simp only [List.mem_cons, List.not_mem_nil, or_false] at hw
  rcases hw with rfl | rfl
  · exact rows8_vp hlt (by omega) _ (List.mem_map_of_mem (List.mem_range.2 (by omega)))
  · refine ⟨fun x => ?_, fun x hx => if_neg (by omega)⟩
    unfold bz colN
    split
    · exact hlt _ (by omega)
    · simp; omega
/-- a reduced list between a list and every closed space that has it -/
structure Mn (C : List By → Prop) (p : Int) (L Y : List By) : Prop where
  rr : RR 8 p Y
  has : ∀ u ∈ L, Sp' 8 p Y u
  le : ∀ T, C T → (∀ u ∈ L, Sp' 8 p T u) → ∀ u ∈ Y, Sp' 8 p T u
theorem Mn.red {C : List By → Prop} (hp : Pr p) {L : List By} (h : ∀ v ∈ L, Vp 8 p v) : Mn C p L (redL p L) := by
  have hp1 := hp.1
  have hp2 := hp.2.1
  obtain ⟨q1, q2⟩ := redL_rr hp h
  exact ⟨q1, fun u hu => (q2 u).2 (.mem (by omega) (by omega) hu (h u hu)), fun T _ hT u hu => ((q2 u).1 (.mem (by omega) (by omega) hu (q1.vp u hu))).sub (by omega) (by omega) hT⟩
theorem Mn.put {C : List By → Prop} (hp : Pr p) {L Y : List By} (h : Mn C p L Y) {w : By} (hw : Vp 8 p w) (hC : ∀ T, C T → (∀ u ∈ L, Sp' 8 p T u) → Sp' 8 p T w) :
    Mn C p L (putL p Y w) ∧ Sp' 8 p (putL p Y w) w ∧ ∀ u, Sp' 8 p Y u → Sp' 8 p (putL p Y w) u := by
  have hp1 := hp.1
  have hp2 := hp.2.1
  obtain ⟨q1, q2⟩ := putL_rr hp h.rr hw
  have m : ∀ u, Sp' 8 p Y u → Sp' 8 p (putL p Y w) u := fun u hu => hu.sub (by omega) (by omega) fun v hv => (q2 v).2 (.mem (by omega) (by omega) (List.mem_cons_of_mem _ hv) (h.rr.vp v hv))
  refine ⟨⟨q1, fun u hu => m u (h.has u hu), fun T hT hL u hu => ?_⟩, (q2 w).2 (.mem (by omega) (by omega) (by simp) hw), m⟩
  refine ((q2 u).1 (.mem (by omega) (by omega) hu (q1.vp u hu))).sub (by omega) (by omega) fun v hv => ?_
  rcases List.mem_cons.1 hv with rfl | hv
  · exact hC T hT hL
  · exact h.le T hT hL v hv
/-- what has grown lies before the old, and it is the old if it is as long -/
theorem Mn.grow {C : List By → Prop} (hp : Pr p) {L S Y : List By} (hS : Mn C p L S) (hY : Mn C p L Y) (h : ∀ u, Sp' 8 p S u → Sp' 8 p Y u) : S.length ≤ Y.length ∧ (Y.length = S.length → SpE 8 p S Y) := by
  have hp1 := hp.1
  have hp2 := hp.2.1
  obtain ⟨a, b⟩ := hS.rr.same (by omega) (by omega) hY.rr fun u hu => h u (.mem (by omega) (by omega) hu (hS.rr.vp u hu))
  exact ⟨a, fun e => b e.symm⟩
theorem Mn.leg (hp : 1 ≤ p) (hp2 : p ≤ 256) (hn : n ≤ 8) {L Y : List By} (h : Mn (LegC p n f) p L Y) {u w : By} (hu : Sp' 8 p Y u) (hw : w ∈ lgL p n f u) :
    ∀ T, LegC p n f T → (∀ u ∈ L, Sp' 8 p T u) → Sp' 8 p T w := fun T hT hL => hT.sp hp hp2 hn (hu.sub hp hp2 (h.le T hT hL)) w hw
end
/-- an append of many changes its own block alone -/
theorem vw_appF {m : Nat} {H : List Blk} {a b : At} {L M : List By} (hL : VW m H a L) (hM : VS H b M) (hb : L.length + M.length ≤ 1000000000) (hm : m ≤ H.length) :
    apB 8 8 H a b fun a' H' => VW m H' a' (L ++ M) ∧ Fr [blkOf a] H H' ∧ (blkOf a' = blkOf a ∨ blkOf a' = H.length) ∧ H.length ≤ H'.length := by
  obtain ⟨k, off, cap, N, f, e, hk, ⟨h1, h2, h3⟩, hf⟩ := hL
  have := vw_app (m := m) (L := L) (M := M) ⟨k, off, cap, N, f, e, hk, ⟨h1, h2, h3⟩, hf⟩ hM hb hm
  subst e
  obtain ⟨mm, g, N', f', q1, q2, q3, q4, q5⟩ := this
  refine ⟨mm, g, N', f', q1, q2, q3, fun hc => ⟨(q4 hc).1, fun j B hj e => set_other e (by intro q; subst q; exact hj (by simp [blkOf])), .inl rfl, by simp⟩, fun hc cap' hc' => ⟨(q5 hc cap' hc').1, fun j B hj e => app_old e, .inr rfl, by simp⟩⟩
theorem Fr.up {m k : Nat} {H H' : List Blk} (h : Fr [k] H H') (hk : m ≤ k) : Upto m H H' := h.upto fun j hj => by simp at hj; omega
theorem VW.ge {m : Nat} {H : List Blk} {a : At} {L : List By} (h : VW m H a L) : m ≤ blkOf a := by
  obtain ⟨k, off, cap, N, f, rfl, h2, h3, h4⟩ := h
  exact h3.2.2
variable {P : Program} {ρ : Nat → FuncId}
theorem hq_iff {p n : Int} {f g : By} {L : List By} (h : ∀ i x, i < L.length + room L.length → x < 8 → g (i * 8 + x) = ((extL L).getD i z0) x) :
    (Hop p n f ∧ ∀ i, i < L.length → Vec p n g (i * 8)) ↔ (Hop p n f ∧ ∀ v ∈ L, Vec p n v 0) := by
  refine and_congr Iff.rfl ((forall_congr' fun i => ?_).trans all_getD.symm)
  refine forall_congr' fun hi => forall_congr' fun k => forall_congr' fun hk => ?_
  have e : bz g (i * 8 + k) = bz (L.getD i z0) (0 + k) := by
    unfold bz; rw [h i k (by omega) hk, extL_at, if_pos hi, Nat.zero_add]
  rw [e]
theorem code_vt (B : Bs P ρ) (E : E_i_Hopf_code P ρ) {H : List Blk} {k m : Nat} {r : Bool} {p n : Int} {f : By} {a : At} {L : List By} (hk : H[k]? = some ⟨r, .by [p, n] 1106 f⟩) (hL : (L = [] ∧ a = .sn) ∨ VT m H a L) (hlen : L.length ≤ 1000000) :
    CallR P ρ 27 [.pt k 0, a] H fun u G => u = .one (.i .i64 (oc (Hop p n f ∧ ∀ v ∈ L, Vec p n v 0) 1)) ∧ G = H := by
  rcases hL with ⟨rfl, rfl⟩ | ⟨k', g, rfl, hk', -, hg⟩
  · have := CallOK.at1 hk (i_Hopf_code_nil_ok B E (n := n) (p := p) (f := f)) (args := [.pt k 0, .sn]) rfl rfl
    refine this.mono fun v G h => ⟨h.1.trans ?_, h.2⟩
    by_cases q : Hop p n f
    · rw [if_pos q, oc_t ⟨q, by simp⟩]
    · rw [if_neg q, oc_f fun c => q c.1]
  · have hr := room_le (n := L.length)
    have := CallOK.at2 hk hk' (i_Hopf_code_ok B E (n := n) (p := p) (f := f) (l := g) (len := L.length) (cap := L.length + room L.length) (N := (L.length + room L.length) * 8) (by omega) (by omega)) (args := [.pt k 0, .sl k' 0 L.length (L.length + room L.length)]) rfl rfl
    refine this.mono fun v G h => ⟨h.1.trans ?_, h.2⟩
    rw [propext (hq_iff hg)]
theorem codeS_vt (B : Bs P ρ) (E : E_s_l03Code P ρ) {H : List Blk} {m : Nat} {p n : Int} {f : By} {a : At} {L : List By} (hL : VT m H a L) (hlen : L.length ≤ 1000000) :
    CallR P ρ 40 [.ag [p, n] 1106 f, a] H fun u G => u = .one (.i .i64 (oc (Hop p n f ∧ ∀ v ∈ L, Vec p n v 0) 1)) ∧ G = H := by
  obtain ⟨k', g, rfl, hk', -, hg⟩ := hL
  have hr := room_le (n := L.length)
  have := CallOK.at1 hk' (s_l03Code_ok B E (n := n) (p := p) (f := f) (l := g) (len := L.length) (cap := L.length + room L.length) (N := (L.length + room L.length) * 8) (by omega) (by omega)) (args := [.ag [p, n] 1106 f, .sl k' 0 L.length (L.length + room L.length)]) rfl rfl
  refine this.mono fun v G h => ⟨h.1.trans ?_, h.2⟩
  rw [propext (hq_iff hg)]
end Hf
namespace Hf
open Go Classical
variable {P : Program} {ρ : Nat → FuncId}
theorem r8_len {g : By} : (rows8 g).length = 8 := by simp [rows8]
theorem cls_len {p : Int} {n : Nat} {f : By} {L : List By} : ∀ {M : List By}, (M.flatMap fun v => L.map (pdV p n f v) ++ lgL p n f v ++ [anV p n f v]).length = M.length * (L.length + 17)
  | [] => by simp
  | v :: M => by
    rw [List.flatMap_cons, List.length_append, cls_len, List.length_append, List.length_append, List.length_map, show (lgL p n f v).length = 16 by simp [lgL, rows8], List.length_cons (as := M), Nat.add_mul]
    simp; omega
theorem in_cls {p : Int} (hp : 1 ≤ p) (hp2 : p ≤ 256) {L M : List By} (hR : RR 8 p L) (hM : ∀ v ∈ M, Vp 8 p v) : inL p L M = true ↔ ∀ u ∈ M, Sp' 8 p L u := by
  unfold inL
  rw [List.all_eq_true]
  refine forall_congr' fun u => forall_congr' fun hu => ?_
  rw [hR.in_iff hp hp2 (hM u hu), ← byL_W]
  exact eqB_z8 (by rw [byL_W]; exact byW_vp hp hp2 (hM u hu))
theorem i_Hopf_antipode_ok (B : Bs P ρ) (E : F_i_Hopf_antipode P ρ) {H : List Blk} {k n : Nat} {r : Bool} {p : Int} {f v : By} (hk : H[k]? = some ⟨r, .by [p, (n : Int)] 1106 f⟩) (hp : 1 ≤ p) (hp2 : p ≤ 256) (hn : n ≤ 8) (hv : ∀ j, n ≤ j → j < 8 → bz v j = 0) :
    CallR P ρ 374 [.pt k 0, .ag [] 8 v] H (fun u G => u = .one (.ag [] 8 (anV p n f v)) ∧ G = H) := by
  refine CallR.pure (call_of_q B.fn B.mo E.1 rfl (fun hA hH => ?_) (by simp [At.lt, lt_of hk])) rfl
  refine ⟨_, rfl, ?_⟩
  refine ⟨_, rfl, ?_⟩
  refine ⟨_, _, _, _, v, app_old get_new, ⟨by simp, by omega⟩, fun x _ => congrArg _ (Nat.zero_add x).symm, ?_⟩
  refine ⟨_, CallOK.at1 (app_old (app_old hk)) (i_Hopf_field_ok B E.2.1 (p := p) (n := (n : Int)) (f := f)) rfl rfl, ?_⟩
  rintro _ _ ⟨rfl, rfl⟩
  refine ⟨⟨kept1 (app_old get_new) (app_old get_new), trivial⟩, ?_⟩
  refine ⟨_, CallOK.at1 (app_old (app_old hk)) (i_field_apply_ok B E.2.2 (m := n) (p := p) (n := (n : Int)) (v := v) (f := f) (hd := [p, (n : Int)]) (N := 1106) (off := 1042) hp hp2 (by simp) (by omega) hn hv) rfl rfl, ?_⟩
  rintro _ _ ⟨rfl, rfl⟩
  refine ⟨_, _, _, get_new, cputs_by (by simp) (by omega), eqBk_rfl, ?_⟩
  rw [app_set0]
  refine ⟨rfl, _, _, _, _, anV p n f v, get_new, ⟨by simp, by omega⟩, fun x hx => ?_, rfl, Ext.app.trans Ext.app⟩
  simp [spl, hx, anV]

theorem i_Hopf_holds_ok (B : Bs P ρ) (E : F_i_Hopf_holds P ρ) {H : List Blk} {k : Nat} {r : Bool} {p n : Int} {f : By} {a b : At} {L M : List By} (hk : H[k]? = some ⟨r, .by [p, n] 1106 f⟩) (hp : 1 ≤ p) (hp2 : p ≤ 256) (hL : VS H a L) (hl : ∀ r ∈ L, fst8 r < 8) (hlen : L.length ≤ 1000000) (hM : VS H b M) (hMv : ∀ v ∈ M, ∀ x, x < 8 → bz v x < p) (hMl : M.length ≤ 1000000) :
    CallR P ρ 372 [.pt k 0, a, b] H (fun u G => u = .one (.b (inL p L M)) ∧ G = H) := by
  refine CallR.pure (call_of_q B.fn B.mo E.1 rfl (fun hA hH => ?_) (by simp only [List.all_cons, List.all_nil, hL.lt, hM.lt]; simp [At.lt, lt_of hk])) rfl
  refine ⟨_, _, hk, rfl, ?_⟩
  refine ⟨_, i_within_ok B E.2 hp hp2 hL hl hlen hM hMv hMl, ?_⟩
  rintro _ _ ⟨rfl, rfl⟩
  exact ⟨rfl, rfl, Ext.refl⟩

theorem i_Hopf_closing_ok (B : Bs P ρ) (E : F_i_Hopf_closing P ρ) {H : List Blk} {k n : Nat} {r : Bool} {p : Int} {f : By} {a : At} {L : List By} (hk : H[k]? = some ⟨r, .by [p, (n : Int)] 1106 f⟩) (hp : 1 ≤ p) (hp2 : p ≤ 256) (hn : n ≤ 8) (hL : VS H a L) (hv : ∀ v ∈ L, ∀ j, n ≤ j → j < 8 → bz v j = 0) (hlen : L.length ≤ 8) :
    CallR P ρ 367 [.pt k 0, a] H (fun u G => ∃ b, u = .one b ∧ Ext H G ∧ VW H.length G b (clsL p n f L)) := by
  have hkl := lt_of hk
  refine call_of_q B.fn B.mo E.1 rfl (fun hAr hHp => ?_) (by simp only [List.all_cons, List.all_nil, hL.lt]; simp [At.lt, lt_of hk])
  refine ⟨_, _, _, _, unV f, hk, ⟨by simp, by omega⟩, fun x hx => if_pos hx, ?_⟩
  refine ⟨_, rfl, ?_⟩
  refine ⟨_, (hL).len, ?_⟩
  refine ⟨At, (fun a0 a1 a15 a16 (i0 : Nat) (x0 : At) => [(0, a0), (1, a1), (5, .one x0), (15, a15), (16, a16), (17, .one (.i .i64 ((i0 : Nat) : Int)))]) _ _ _ _ , fun (i0 : Nat) (x0 : At) (G0 : List Blk) => (VW H.length G0 x0 (unV f :: (L.take i0).flatMap fun v => L.map (pdV p n f v) ++ lgL p n f v ++ [anV p n f v]) ∧ Upto H.length H G0), L.length, ⟨_, ⟨VW.one (Nat.le_refl _), Ext.app.upto⟩, ⟨rfl, rfl, rfl, rfl, rfl, rfl, trivial⟩⟩, ?_⟩
  rintro i0 x0 G0 hi0 ⟨hV0, hU0⟩
  have hE0 : Ext H G0 := Upto.ext Ext.refl hU0 (Nat.le_refl _)
  have hl0 := hE0.len
  have hb0 := hV0.lt
  refine ⟨fun h18 => ?_, fun h18 => ?_⟩
  · replace h18 := of_decide_eq_true h18
    obtain ⟨k19, o19, n19, c19, q19, ea19, hl19, hq19, r19, N19, f19, hk19, hN19, hf19⟩ := (hL.ext hE0).at i0 (by omega)
    refine ⟨k19, o19, n19, c19, i0, q19, ea19, rfl, hl19, hq19, ?_⟩
    refine ⟨_, _, _, _, _, hk19, ⟨by simp, hN19⟩, hf19, ?_⟩
    refine ⟨_, rfl, ?_⟩
    refine ⟨_, _, _, get_new, cputs_by (by simp) (by omega), eqBk_rfl, ?_⟩
    rw [app_set0]
    refine ⟨_, (hL).len, ?_⟩
    refine ⟨At, (fun a0 a1 a7 a15 a16 a17 a21 a22 (i1 : Nat) (x1 : At) => [(0, a0), (1, a1), (5, .one x1), (7, a7), (15, a15), (16, a16), (17, a17), (21, a21), (22, a22), (23, .one (.i .i64 ((i1 : Nat) : Int)))]) _ _ _ _ _ _ _ _ , fun (i1 : Nat) (x1 : At) (G1 : List Blk) => (VW H.length G1 x1 ((unV f :: (L.take i0).flatMap fun v => L.map (pdV p n f v) ++ lgL p n f v ++ [anV p n f v]) ++ (L.take i1).map (pdV p n f (L.getD i0 z0))) ∧ Upto H.length H G1 ∧ blkOf x1 ≠ G0.length ∧ G0.length < G1.length ∧ ∃ w, G1[G0.length]? = some ⟨false, .by [] 8 w⟩ ∧ ∀ x, x < 8 → w x = L.getD i0 z0 x), L.length, ⟨_, ⟨by simpa using hV0.ext Ext.app, hU0.trans Ext.app.upto, by omega, by simp, _, get_new, fun x hx => by simp [spl, hx]⟩, ⟨rfl, rfl, rfl, rfl, rfl, rfl, rfl, rfl, rfl, rfl, trivial⟩⟩, ?_⟩
    rintro i1 x1 G1 hi1 ⟨hV1, hU1, hne1, hl1, w1, hw1, hwe1⟩
    have hE1 : Ext H G1 := Upto.ext Ext.refl hU1 (Nat.le_refl _)
    have hge1 := hV1.ge
    refine ⟨fun h24 => ?_, fun h24 => ?_⟩
    · replace h24 := of_decide_eq_true h24
      obtain ⟨k25, o25, n25, c25, q25, ea25, hl25, hq25, r25, N25, f25, hk25, hN25, hf25⟩ := (hL.ext hE1).at i1 (by omega)
      refine ⟨k25, o25, n25, c25, i1, q25, ea25, rfl, hl25, hq25, ?_⟩
      refine ⟨_, _, _, _, _, hk25, ⟨by simp, hN25⟩, hf25, ?_⟩
      refine ⟨_, rfl, ?_⟩
      refine ⟨_, _, _, get_new, cputs_by (by simp) (by omega), eqBk_rfl, ?_⟩
      rw [app_set0]
      refine ⟨_, _, _, _, L.getD i0 z0, app_old hw1, ⟨by simp, by omega⟩, fun x hx => by rw [Nat.zero_add, hwe1 x hx], ?_⟩
      refine ⟨_, _, _, _, L.getD i1 z0, get_new, ⟨by simp, by omega⟩, fun x hx => by simp [spl, hx], ?_⟩
      refine ⟨_, CallOK.at1 (app_old (hE1 _ _ hk)) (i_Hopf_product_ok B E.2.1 (v := L.getD i0 z0) (w := L.getD i1 z0) hp hp2 hn) rfl rfl, ?_⟩
      rintro _ _ ⟨rfl, rfl⟩
      refine ⟨_, rfl, ?_⟩
      have hcl := cls_len (p := p) (n := n) (f := f) (L := L) (M := L.take i0)
      have htk : (L.take i0).length * (L.length + 17) ≤ 8 * 25 := Nat.mul_le_mul (by rw [List.length_take]; omega) (by omega)
      refine ⟨_, vw_appF ((hV1.ext Ext.app).ext Ext.app) (VS.one (v := pdV p n f (L.getD i0 z0) (L.getD i1 z0))) (by have h1 := List.length_take_le i1 L; rw [List.length_append, List.length_cons, hcl, List.length_map, List.length_singleton]; omega) (by simp; omega), ?_⟩
      rintro a33 G33 ⟨hv33, hf33, hb33, hl33⟩
      refine ⟨((i1 + 1 : Nat) : Int), w64_id _ (by omega) (by omega), ?_⟩
      refine ⟨by omega, _, ?_, ⟨rfl, rfl, rfl, rfl, rfl, rfl, rfl, rfl, rfl, rfl, trivial⟩⟩
      dsimp only
      rw [take_getD (by omega), List.map_append, ← List.append_assoc]
      refine ⟨hv33, hU1.trans (Ext.app.upto.trans (Ext.app.upto.trans (hf33.up hge1))), ?_, ?_, w1, hf33 _ _ (by simp; omega) (app_old (app_old hw1)), hwe1⟩
      · rcases hb33 with q | q
        · rw [q]; exact hne1
        · rw [q]; simp; omega
      · simp at hl33; omega
    · replace h24 := of_decide_eq_false h24
      have e1 : L.length = i1 := by omega
      subst e1
      refine ⟨_, _, _, _, L.getD i0 z0, hw1, ⟨by simp, by omega⟩, fun x hx => by rw [Nat.zero_add, hwe1 x hx], ?_⟩
      refine ⟨_, _, _, _, L.getD i0 z0, hw1, ⟨by simp, by omega⟩, fun x hx => by rw [Nat.zero_add, hwe1 x hx], ?_⟩
      refine ⟨_, CallOK.at1 (hE1 _ _ hk) (i_Hopf_coproduct_ok B E.2.2.1 (p := p) (n := n) (f := f) (v := L.getD i0 z0) hp hp2 hn (hv _ (getD_mem (by omega)))) rfl rfl, ?_⟩
      rintro _ _ ⟨rfl, rfl⟩
      refine ⟨⟨kept1 hw1 hw1, trivial⟩, ?_⟩
      refine ⟨_, i_legs_ok B E.2.2.2.1 (g := cpV p n f (L.getD i0 z0)), ?_⟩
      rintro _ G39 ⟨b39, rfl, hV39, hE39⟩
      refine ⟨⟨kept1 hw1 (hE39 _ _ hw1), trivial⟩, ?_⟩
      have hcl := cls_len (p := p) (n := n) (f := f) (L := L) (M := L.take i0)
      have htk : (L.take i0).length * (L.length + 17) ≤ 8 * 25 := Nat.mul_le_mul (by rw [List.length_take]; omega) (by omega)
      rw [List.take_length] at hV1
      refine ⟨_, vw_appF ((hV1.ext hE39)) hV39.vs (by rw [List.length_append, List.length_cons, hcl, List.length_map, List.length_append, r8_len, r8_len]; omega) (by have := hE1.len; have := hE39.len; omega), ?_⟩
      rintro a40 G40 ⟨hv40, hf40, hb40, hl40⟩
      have hU40 := (hU1.trans hE39.upto).trans (hf40.up hge1)
      have hw40 := hf40 _ _ (by simp; omega) (hE39 _ _ hw1)
      refine ⟨⟨kept1 (hE39 _ _ hw1) hw40, trivial⟩, ?_⟩
      refine ⟨_, i_Hopf_antipode_ok B E.2.2.2.2 (hU40 _ _ hkl hk) hp hp2 hn (hv _ (getD_mem (by omega))), ?_⟩
      rintro _ _ ⟨rfl, rfl⟩
      refine ⟨_, rfl, ?_⟩
      refine ⟨_, vw_appF (hv40.ext Ext.app) (VS.one (v := anV p n f (L.getD i0 z0))) (by rw [List.length_append, List.length_append, List.length_cons, hcl, List.length_map, List.length_append, r8_len, r8_len, List.length_singleton]; omega) (by have := hE1.len; have := hE39.len; simp; omega), ?_⟩
      rintro a45 G45 ⟨hv45, hf45, hb45, hl45⟩
      refine ⟨((i0 + 1 : Nat) : Int), w64_id _ (by omega) (by omega), ?_⟩
      refine ⟨by omega, _, ?_, ⟨rfl, rfl, rfl, rfl, rfl, rfl, trivial⟩⟩
      dsimp only
      rw [take_getD (by omega), List.flatMap_append, List.flatMap_cons, List.flatMap_nil, List.append_nil]
      refine ⟨by simpa only [lgL, List.append_assoc, List.cons_append] using hv45, ?_⟩
      exact hU40.trans (Ext.app.upto.trans (hf45.up hv40.ge))
  · replace h18 := of_decide_eq_false h18
    have e0 : L.length = i0 := by omega
    subst e0
    rw [List.take_length] at hV0
    exact ⟨rfl, x0, rfl, Upto.ext Ext.refl hU0 (Nat.le_refl _), hV0⟩

theorem i_Hopf_isSub_ok (B : Bs P ρ) (E : F_i_Hopf_isSub P ρ) {H : List Blk} {k n : Nat} {r : Bool} {p : Int} {f : By} {a : At} {L : List By} (hk : H[k]? = some ⟨r, .by [p, (n : Int)] 1106 f⟩) (hs : HShp p n f) (hL : VS H a L) (hR : RR 8 p L) (hv : ∀ v ∈ L, Vp n p v) :
    CallR P ρ 365 [.pt k 0, a] H (fun u G => u = .one (.b (decide (Clo p n f L))) ∧ Ext H G) := by
  have hpr := hs.1.1
  have hp2 := hpr.1
  have hp3 := hpr.2.1
  have hn8 : n ≤ 8 := by have := hs.1.2.2; omega
  have hlen := hR.len
  refine call_of_q B.fn B.mo E.1 rfl (fun hAr hHp => ?_) (by simp only [List.all_cons, List.all_nil, hL.lt]; simp [At.lt, lt_of hk])
  refine ⟨_, i_Hopf_closing_ok B E.2.1 hk (by omega) (by omega) hn8 hL (fun v h j h1 h2 => bz_eq0.2 ((hv v h).2 j h1)) hlen, ?_⟩
  rintro _ G9 ⟨b9, rfl, hE9, hV9⟩
  have hcv := cls_vp hs (L := L)
  have hcl : (clsL p n f L).length ≤ 1000 := by
    unfold clsL
    rw [List.length_cons, cls_len]
    have : L.length * (L.length + 17) ≤ 8 * 25 := Nat.mul_le_mul hlen (by omega)
    omega
  refine ⟨_, i_Hopf_holds_ok B E.2.2 (hE9 _ _ hk) (by omega) (by omega) (hL.ext hE9) hR.fs (by omega) hV9.vs (fun v h x _ => (hcv v h).1 x) (by omega), ?_⟩
  rintro _ _ ⟨rfl, rfl⟩
  refine ⟨rfl, ?_, hE9⟩
  rw [show inL p L (clsL p n f L) = decide (Clo p n f L) from by rw [Bool.eq_iff_iff, decide_eq_true_iff, in_cls (by omega) (by omega) hR hcv]; exact cls_iff]; rfl

theorem s_l01Reduce_b_ok (B : Bs P ρ) (E : F_s_l01Reduce P ρ) {H : List Blk} {p : Int} {a : At} {L : List By} (hp : Pr p) (hL : VS H a L) (hv : ∀ v ∈ L, Vp 8 p v) (hlen : L.length ≤ 2000000) :
    CallR P ρ 270 [.i .i64 p, a] H (fun u G => ∃ b, u = .one b ∧ Ext H G ∧ VS G b (redL p L)) := by
  have hp2 := hp.1
  have hp3 := hp.2.1
  refine call_of_q B.fn B.mo E.1 rfl (fun hAr hHp => ?_) (by simp only [List.all_cons, List.all_nil, hL.lt]; rfl)
  refine ⟨_, rfl, ?_⟩
  refine ⟨At, (fun a0 a1 (i0 : Nat) (x0 : At) => [(0, a0), (1, a1), (5, .one x0), (6, .one (.i .i64 ((i0 : Nat) : Int)))]) _ _ , fun (i0 : Nat) (x0 : At) (G0 : List Blk) => (VS G0 x0 (redL p (L.take i0)) ∧ Ext H G0), L.length, ⟨_, ⟨(VW.nil (m := 0) (Nat.zero_le _)).vs, Ext.app⟩, ⟨rfl, rfl, rfl, rfl, trivial⟩⟩, ?_⟩
  rintro i0 x0 G0 hi0 ⟨hV0, hE0⟩
  refine ⟨_, (hL).len, ?_⟩
  refine ⟨fun h11 => ?_, fun h11 => ?_⟩
  · replace h11 := of_decide_eq_true h11
    obtain ⟨k18, o18, n18, c18, q18, ea18, hl18, hq18, r18, N18, f18, hk18, hN18, hf18⟩ := (hL.ext hE0).at i0 (by omega)
    refine ⟨k18, o18, n18, c18, i0, q18, ea18, rfl, hl18, hq18, ?_⟩
    refine ⟨_, _, _, _, _, hk18, ⟨by simp, hN18⟩, hf18, ?_⟩
    have hr := (redL_rr hp fun v h => hv v (List.mem_of_mem_take (i := i0) h)).1
    have hrl := hr.len
    refine ⟨_, s_l01Put_ok B E.2 (by omega) (by omega) hV0 hr.fs (by omega), ?_⟩
    rintro _ G20 ⟨b20, rfl, hE20, hV20⟩
    refine ⟨((i0 + 1 : Nat) : Int), w64_id _ (by omega) (by omega), ?_⟩
    refine ⟨by omega, _, ?_, ⟨rfl, rfl, rfl, rfl, trivial⟩⟩
    dsimp only
    rw [take_getD (by omega), redL_snoc]
    exact ⟨hV20, hE0.trans hE20⟩
  · replace h11 := of_decide_eq_false h11
    have e0 : L.length = i0 := by omega
    subst e0
    exact ⟨rfl, x0, rfl, hE0, by rw [List.take_length] at hV0; exact hV0⟩

set_option maxHeartbeats 1000000 in
theorem s_l07Closed_ok (B : Bs P ρ) (E : F_s_l07Closed P ρ) {H : List Blk} {n : Nat} {p : Int} {f : By} {a : At} {L : List By} (hs : HShp p n f) (hL : VS H a L) (hv : ∀ v ∈ L, Vp 8 p v) (hlen : L.length ≤ 2000000) :
    CallR P ρ 373 [.ag [p, (n : Int)] 1106 f, a] H (fun u G => ∃ b R, u = .one b ∧ Ext H G ∧ VS G b R ∧ Mn (LegC p n f) p L R ∧ LegC p n f R) := by
  have hpr := hs.1.1
  have hp2 := hpr.1
  have hp3 := hpr.2.1
  have hn8 : n ≤ 8 := by have := hs.1.2.2; omega
  refine call_of_q B.fn B.mo E.1 rfl (fun hAr hHp => ?_) (by simp only [List.all_cons, List.all_nil, hL.lt]; rfl)
  refine ⟨_, rfl, ?_⟩
  refine ⟨_, _, get_new, rfl, ?_⟩
  refine ⟨_, s_l01Reduce_b_ok B E.2.1 hpr (hL.ext Ext.app) hv hlen, ?_⟩
  rintro _ G13 ⟨b13, rfl, hE13, hV13⟩
  refine ⟨At × List By, (fun a2 (i0 : Nat) (x0 : At × List By) => match x0 with | ⟨x, S⟩ => [(2, a2), (5, .one x)]) _ , fun (i0 : Nat) (x0 : At × List By) (G0 : List Blk) => match x0 with | ⟨x, S⟩ => (VS G0 x S ∧ Mn (LegC p n f) p L S ∧ i0 ≤ S.length ∧ Ext (H ++ [⟨false, .by [p, (n : Int)] 1106 f⟩]) G0), 8, ⟨(_, redL p L), ⟨hV13, Mn.red hpr hv, Nat.zero_le _, hE13⟩, ⟨rfl, rfl, trivial⟩⟩, ?_⟩
  rintro i0 ⟨x, S⟩ G0 hi0 ⟨hV0, hS, hSi, hE0⟩
  have hk0 := hE0 _ _ get_new
  have hSlen := hS.rr.len
  refine ⟨At × List By, (fun a2 a5 (i1 : Nat) (x1 : At × List By) => match x1 with | ⟨y, Y⟩ => [(2, a2), (5, a5), (6, .one y), (7, .one (.i .i64 ((i1 : Nat) : Int)))]) _ _ , fun (i1 : Nat) (x1 : At × List By) (G1 : List Blk) => match x1 with | ⟨y, Y⟩ => (VS G1 y Y ∧ Mn (LegC p n f) p L Y ∧ (∀ u, Sp' 8 p S u → Sp' 8 p Y u) ∧ (∀ j, j < i1 → ∀ w ∈ lgL p n f (S.getD j z0), Sp' 8 p Y w) ∧ Ext G0 G1), S.length, ⟨(_, S), ⟨hV0, hS, fun u h => h, fun j h => absurd h (by omega), Ext.refl⟩, ⟨rfl, rfl, rfl, rfl, trivial⟩⟩, ?_⟩
  rintro i1 ⟨y, Y⟩ G1 hi1 ⟨hV1, hY, hSY, hYl, hE1⟩
  refine ⟨_, (hV0.ext hE1).len, ?_⟩
  refine ⟨fun h18 => ?_, fun h18 => ?_⟩
  · replace h18 := of_decide_eq_true h18
    refine .inl ⟨_, _, _, _, hE1 _ _ hk0, ⟨rfl, by omega⟩, ?_⟩
    obtain ⟨k24, o24, n24, c24, q24, ea24, hl24, hq24, r24, N24, f24, hk24, hN24, hf24⟩ := ((hV0.ext hE1)).at i1 (by omega)
    refine ⟨k24, o24, n24, c24, i1, q24, ea24, rfl, hl24, hq24, ?_⟩
    refine ⟨_, _, _, _, _, hk24, ⟨by simp, hN24⟩, hf24, ?_⟩
    refine ⟨_, s_l07Legs_ok B E.2.2.1 (n := n) (p := p) (f := f) (v := S.getD i1 z0) hpr hn8, ?_⟩
    rintro _ G26 ⟨b26, rfl, hE26, hV26⟩
    have hlr : RR 8 p (legS p n (vec 64 p (cop n f 530 (S.getD i1 z0))) n) := legS_rr hs (v := S.getD i1 z0)
    have hlp : SpE 8 p (legS p n (vec 64 p (cop n f 530 (S.getD i1 z0))) n) _ := legS_sp hs (v := S.getD i1 z0)
    generalize legS p n (vec 64 p (cop n f 530 (S.getD i1 z0))) n = K at hV26 hlr hlp
    have hlen26 := hlr.len
    refine ⟨At × List By, (fun a2 a5 a7 a8 (i2 : Nat) (x2 : At × List By) => match x2 with | ⟨z, Z⟩ => [(2, a2), (5, a5), (6, .one z), (7, a7), (8, a8), (9, .one (.i .i64 ((i2 : Nat) : Int)))]) _ _ _ _ , fun (i2 : Nat) (x2 : At × List By) (G2 : List Blk) => match x2 with | ⟨z, Z⟩ => (VS G2 z Z ∧ Mn (LegC p n f) p L Z ∧ (∀ u, Sp' 8 p Y u → Sp' 8 p Z u) ∧ (∀ j, j < i2 → Sp' 8 p Z (K.getD j z0)) ∧ Ext G26 G2), K.length, ⟨(_, Y), ⟨hV1.ext hE26, hY, fun u h => h, fun j h => absurd h (by omega), Ext.refl⟩, ⟨rfl, rfl, rfl, rfl, rfl, rfl, trivial⟩⟩, ?_⟩
    rintro i2 ⟨z, Z⟩ G2 hi2 ⟨hV2, hZ, hYZ, hZl, hE2⟩
    refine ⟨_, (hV26.ext hE2).len, ?_⟩
    refine ⟨fun h30 => ?_, fun h30 => ?_⟩
    · replace h30 := of_decide_eq_true h30
      refine ⟨_, _, hE2 _ _ (hE26 _ _ (hE1 _ _ hk0)), rfl, ?_⟩
      obtain ⟨k38, o38, n38, c38, q38, ea38, hl38, hq38, r38, N38, f38, hk38, hN38, hf38⟩ := ((hV26.ext hE2)).at i2 (by omega)
      refine ⟨k38, o38, n38, c38, i2, q38, ea38, rfl, hl38, hq38, ?_⟩
      refine ⟨_, _, _, _, _, hk38, ⟨by simp, hN38⟩, hf38, ?_⟩
      have hZlen := hZ.rr.len
      refine ⟨_, s_l01Put_ok B E.2.2.2 (by omega) (by omega) hV2 hZ.rr.fs (by omega), ?_⟩
      rintro _ G40 ⟨b40, rfl, hE40, hV40⟩
      have hmem : K.getD i2 z0 ∈ K := getD_mem (by omega)
      have hmv := hlr.vp _ hmem
      obtain ⟨q1, q2, q3⟩ := hZ.put hpr hmv fun T hT hLT => by
        have := (hlp _).1 (.mem (by omega) (by omega) hmem hmv)
        exact this.sub (by omega) (by omega) fun w hw => hS.leg (by omega) (by omega) hn8 (.mem (by omega) (by omega) (getD_mem (by omega)) (hS.rr.vp _ (getD_mem (by omega)))) hw T hT hLT
      refine ⟨((i2 + 1 : Nat) : Int), w64_id _ (by omega) (by omega), ?_⟩
      refine ⟨by omega, (_, putL p Z (K.getD i2 z0)), ?_, ⟨rfl, rfl, rfl, rfl, rfl, rfl, trivial⟩⟩
      refine ⟨hV40, q1, fun u h => q3 u (hYZ u h), fun j hj => ?_, hE2.trans hE40⟩
      by_cases e : j = i2
      · subst e; exact q2
      · exact q3 _ (hZl j (by omega))
    · replace h30 := of_decide_eq_false h30
      have e2 : K.length = i2 := by omega
      subst e2
      refine ⟨((i1 + 1 : Nat) : Int), w64_id _ (by omega) (by omega), ?_⟩
      refine ⟨by omega, (_, Z), ?_, ⟨rfl, rfl, rfl, rfl, trivial⟩⟩
      refine ⟨hV2, hZ, fun u h => hYZ u (hSY u h), fun j hj w hw => ?_, hE1.trans (hE26.trans hE2)⟩
      by_cases e : j = i1
      · subst e
        refine ((hlp w).2 (.mem (by omega) (by omega) hw (lg_vp (by omega) (by omega) w hw))).sub (by omega) (by omega) fun r hr => ?_
        obtain ⟨t, ht, rfl⟩ := List.mem_iff_getElem.1 hr
        have := hZl t ht
        rwa [List.getD_eq_getElem?_getD, List.getElem?_eq_getElem ht] at this
      · exact hYZ _ (hYl j (by omega) w hw)
  · replace h18 := of_decide_eq_false h18
    have e1 : S.length = i1 := by omega
    subst e1
    refine ⟨_, (hV1).len, ?_⟩
    refine ⟨_, (hV0.ext hE1).len, ?_⟩
    have hgr := Mn.grow hpr hS hY hSY
    have hYlen := hY.rr.len
    refine ⟨fun h45 => ?_, fun h45 => ?_⟩
    · replace h45 := eq_of_beq h45
      have he := hgr.2 (by omega)
      refine ⟨rfl, x, S, rfl, Ext.app.trans (hE0.trans hE1), hV0.ext hE1, hS, fun u hu w hw => ?_⟩
      obtain ⟨t, ht, rfl⟩ := List.mem_iff_getElem.1 hu
      have := hYl t (by omega) w (by rw [List.getD_eq_getElem?_getD, List.getElem?_eq_getElem ht]; exact hw)
      exact (he w).2 this
    · replace h45 := ne_of_beq_false h45
      refine ⟨by omega, (_, Y), ?_, ⟨rfl, rfl, trivial⟩⟩
      exact ⟨hV1, hY, by omega, hE0.trans hE1⟩

end Hf
namespace Hf
open Go Classical
variable {P : Program} {ρ : Nat → FuncId}
theorem Clo.pd {p : Int} {n : Nat} {f : By} (hp : 1 ≤ p) (hp2 : p ≤ 256) (hn : n ≤ 8) {T : List By} (h : Clo p n f T) {u w : By} (hu : Sp' 8 p T u) (hw : Sp' 8 p T w) : Sp' 8 p T (pdV p n f u w) := pd_sp hp hp2 hn h.2.1 hu hw
theorem Clo.an {p : Int} {n : Nat} {f : By} (hp : 1 ≤ p) (hp2 : p ≤ 256) (hn : n ≤ 8) {T : List By} (h : Clo p n f T) {u : By} (hu : Sp' 8 p T u) : Sp' 8 p T (anV p n f u) := an_sp hp hp2 hn h.2.2.2 hu
theorem Clo.leg {p : Int} {n : Nat} {f : By} {T : List By} (h : Clo p n f T) : LegC p n f T := h.2.2.1
/-- the least space led into itself, inside the least closed one -/
theorem Mn.leg_in {p : Int} {n : Nat} {f : By} (hp : 1 ≤ p) (hp2 : p ≤ 256) {L M R : List By} (h : Mn (LegC p n f) p M R) (hM : ∀ T, Clo p n f T → (∀ u ∈ L, Sp' 8 p T u) → ∀ u ∈ M, Sp' 8 p T u) (hL : ∀ u ∈ L, Sp' 8 p R u) : Mn (Clo p n f) p L R :=
  ⟨h.rr, hL, fun T hT hLT => h.le T hT.leg (hM T hT hLT)⟩
theorem one_all {q : By → Prop} {v : By} {L : List By} (h : q v) (h' : ∀ u ∈ L, q u) : ∀ u ∈ [v] ++ L, q u := fun u hu => by
  rcases List.mem_append.1 hu with hu | hu
  · rw [List.mem_singleton.1 hu]; exact h
  · exact h' u hu
theorem mem_at {L : List By} {u : By} (h : u ∈ L) : ∃ j, j < L.length ∧ L.getD j z0 = u := by
  obtain ⟨t, ht, rfl⟩ := List.mem_iff_getElem.1 h
  exact ⟨t, ht, by rw [List.getD_eq_getElem?_getD, List.getElem?_eq_getElem ht]; rfl⟩
set_option maxHeartbeats 2000000 in
theorem s_l07Generated_ok (B : Bs P ρ) (E : F_s_l07Generated P ρ) {H : List Blk} {n : Nat} {p : Int} {f : By} {a : At} {L : List By} (hs : HShp p n f) (hL : VS H a L) (hv : ∀ v ∈ L, Vp 8 p v) (hlen : L.length ≤ 1000000) :
    CallR P ρ 366 [.ag [p, (n : Int)] 1106 f, a] H (fun u G => ∃ b R, u = .one b ∧ Ext H G ∧ VS G b R ∧ Gen p n f L R) := by
  have hpr := hs.1.1
  have hp2 := hpr.1
  have hp3 := hpr.2.1
  have hn8 : n ≤ 8 := by have := hs.1.2.2; omega
  refine call_of_q B.fn B.mo E.1 rfl (fun hAr hHp => ?_) (by simp only [List.all_cons, List.all_nil, hL.lt]; rfl)
  refine ⟨_, rfl, ?_⟩
  refine .inl ⟨_, _, _, _, get_new, ⟨rfl, by omega⟩, ?_⟩
  refine ⟨_, _, _, _, unV f, get_new, ⟨by simp, by omega⟩, fun x hx => if_pos hx, ?_⟩
  refine ⟨_, rfl, ?_⟩
  refine ⟨⟨kept1 get_new (app_old get_new), trivial⟩, ?_⟩
  refine ⟨_, vw_app (VW.one (m := H.length + 1) (v := unV f) (by simp)) ((hL.ext Ext.app).ext Ext.app) (by simp; omega) (by simp), ?_⟩
  rintro a14 G14 ⟨hv14, hu14⟩
  have hk14 := hu14 _ _ (by omega) (app_old get_new)
  refine ⟨⟨kept1 (app_old get_new) hk14, trivial⟩, ?_⟩
  refine ⟨_, s_l07Closed_ok B E.2.1 (L := [unV f] ++ L) hs hv14.vs (one_all (un_vp hs) hv) (by simp; omega), ?_⟩
  rintro _ G15 ⟨b15, R15, rfl, hE15, hV15, hM15, hC15⟩
  have hE15' : Ext (H ++ [⟨false, .by [p, (n : Int)] 1106 f⟩]) G15 := (Upto.ext Ext.app hu14 (by simp)).trans hE15
  have hmn := hM15.leg_in (L := L) (n := n) (f := f) (by omega) (by omega) (fun T hT hLT => one_all hT.1 hLT) (fun u hu => hM15.has u (List.mem_append_right _ hu))
  have hun15 := hM15.has (unV f) (by simp)
  refine ⟨At × List By, (fun a2 (i0 : Nat) (x0 : At × List By) => match x0 with | ⟨x, S⟩ => [(2, a2), (5, .one x)]) _ , fun (i0 : Nat) (x0 : At × List By) (G0 : List Blk) => match x0 with | ⟨x, S⟩ => (VS G0 x S ∧ Mn (Clo p n f) p L S ∧ Sp' 8 p S (unV f) ∧ i0 ≤ S.length ∧ Ext (H ++ [⟨false, .by [p, (n : Int)] 1106 f⟩]) G0), 8, ⟨(_, R15), ⟨hV15, hmn, hun15, Nat.zero_le _, hE15'⟩, ⟨rfl, rfl, trivial⟩⟩, ?_⟩
  rintro i0 ⟨x, S⟩ G0 hi0 ⟨hV0, hS, hSu, hSi, hE0⟩
  have hk0 := hE0 _ _ get_new
  have hSlen := hS.rr.len
  refine ⟨At × List By, (fun a2 a5 (i1 : Nat) (x1 : At × List By) => match x1 with | ⟨y, Y⟩ => [(2, a2), (5, a5), (6, .one y), (7, .one (.i .i64 ((i1 : Nat) : Int)))]) _ _ , fun (i1 : Nat) (x1 : At × List By) (G1 : List Blk) => match x1 with | ⟨y, Y⟩ => (VS G1 y Y ∧ Mn (Clo p n f) p L Y ∧ (∀ u, Sp' 8 p S u → Sp' 8 p Y u) ∧ (∀ j, j < i1 → Sp' 8 p Y (anV p n f (S.getD j z0)) ∧ ∀ l, l < S.length → Sp' 8 p Y (pdV p n f (S.getD j z0) (S.getD l z0))) ∧ Ext G0 G1), S.length, ⟨(_, S), ⟨hV0, hS, fun u h => h, fun j h => absurd h (by omega), Ext.refl⟩, ⟨rfl, rfl, rfl, rfl, trivial⟩⟩, ?_⟩
  rintro i1 ⟨y, Y⟩ G1 hi1 ⟨hV1, hY, hSY, hYl, hE1⟩
  refine ⟨_, (hV0.ext hE1).len, ?_⟩
  have hk1 := hE1 _ _ hk0
  refine ⟨fun h20 => ?_, fun h20 => ?_⟩
  · replace h20 := of_decide_eq_true h20
    refine ⟨_, _, hE1 _ _ hk0, rfl, ?_⟩
    refine ⟨_, _, hE1 _ _ hk0, rfl, ?_⟩
    refine ⟨_, _, hE1 _ _ hk0, rfl, ?_⟩
    refine ⟨_, _, _, _, sh f 1042, hE1 _ _ hk0, ⟨by simp, by omega⟩, fun x hx => by simp [sh_app], ?_⟩
    obtain ⟨k34, o34, n34, c34, q34, ea34, hl34, hq34, r34, N34, f34, hk34, hN34, hf34⟩ := ((hV0.ext hE1)).at i1 (by omega)
    refine ⟨k34, o34, n34, c34, i1, q34, ea34, rfl, hl34, hq34, ?_⟩
    refine ⟨_, _, _, _, _, hk34, ⟨by simp, hN34⟩, hf34, ?_⟩
    refine ⟨_, s_l01Apply_ok B E.2.2.1 (n := n) (p := p) (f := sh f 1042) (v := S.getD i1 z0) (by omega) (by omega) hn8, rfl, ?_⟩
    have hmem : S.getD i1 z0 ∈ S := getD_mem (by omega)
    have hYlen := hY.rr.len
    have hsp1 := Sp'.mem (p := p) (W := 8) (by omega) (by omega) hmem (hS.rr.vp _ hmem)
    have han : (vec 8 p fun y => sm n fun i => bz (S.getD i1 z0) i * bz (sh f 1042) (i * 8 + y)) = anV p n f (S.getD i1 z0) := by
      unfold anV; simp only [bz, sh_app, Nat.add_assoc]
    rw [han]
    refine ⟨_, s_l01Put_ok B E.2.2.2.1 (by omega) (by omega) hV1 hY.rr.fs (by omega), ?_⟩
    rintro _ G37 ⟨b37, rfl, hE37, hV37⟩
    obtain ⟨q1, q2, q3⟩ := hY.put hpr (an_vp (n := n) (f := f) (v := S.getD i1 z0) (by omega) (by omega)) fun T hT hLT => hT.an (by omega) (by omega) hn8 (hS.le T hT hLT _ hmem)
    have hq3 : ∀ u, Sp' 8 p S u → Sp' 8 p (putL p Y (anV p n f (S.getD i1 z0))) u := fun u h => q3 u (hSY u h)
    have hq4 : ∀ j, j < i1 → Sp' 8 p (putL p Y (anV p n f (S.getD i1 z0))) (anV p n f (S.getD j z0)) ∧ ∀ l, l < S.length → Sp' 8 p (putL p Y (anV p n f (S.getD i1 z0))) (pdV p n f (S.getD j z0) (S.getD l z0)) := fun j hj => ⟨q3 _ (hYl j hj).1, fun l hl => q3 _ ((hYl j hj).2 l hl)⟩
    generalize putL p Y (anV p n f (S.getD i1 z0)) = Y1 at hV37 q1 q2 hq3 hq4
    refine ⟨At × List By, (fun a2 a5 a7 (i2 : Nat) (x2 : At × List By) => match x2 with | ⟨z, Z⟩ => [(2, a2), (5, a5), (6, .one z), (7, a7), (8, .one (.i .i64 ((i2 : Nat) : Int)))]) _ _ _ , fun (i2 : Nat) (x2 : At × List By) (G2 : List Blk) => match x2 with | ⟨z, Z⟩ => (VS G2 z Z ∧ Mn (Clo p n f) p L Z ∧ (∀ u, Sp' 8 p Y1 u → Sp' 8 p Z u) ∧ (∀ l, l < i2 → Sp' 8 p Z (pdV p n f (S.getD i1 z0) (S.getD l z0))) ∧ Ext G37 G2), S.length, ⟨(_, Y1), ⟨hV37, q1, fun u h => h, fun j h => absurd h (by omega), Ext.refl⟩, ⟨rfl, rfl, rfl, rfl, rfl, trivial⟩⟩, ?_⟩
    rintro i2 ⟨z, Z⟩ G2 hi2 ⟨hV2, hZ, hYZ, hZl, hE2⟩
    have hE02 : Ext G0 G2 := hE1.trans (hE37.trans hE2)
    refine ⟨_, (hV0.ext hE02).len, ?_⟩
    refine ⟨fun h41 => ?_, fun h41 => ?_⟩
    · replace h41 := of_decide_eq_true h41
      refine ⟨_, _, hE02 _ _ hk0, rfl, ?_⟩
      refine .inl ⟨_, _, _, _, hE02 _ _ hk0, ⟨rfl, by omega⟩, ?_⟩
      refine ⟨_, s_l03Algebra_ok B E.2.2.2.2.1 (p := p) (n := (n : Int)) (f := f), rfl, ?_⟩
      obtain ⟨k51, o51, n51, c51, q51, ea51, hl51, hq51, r51, N51, f51, hk51, hN51, hf51⟩ := ((hV0.ext hE02)).at i1 (by omega)
      refine ⟨k51, o51, n51, c51, i1, q51, ea51, rfl, hl51, hq51, ?_⟩
      refine ⟨_, _, _, _, _, hk51, ⟨by simp, hN51⟩, hf51, ?_⟩
      obtain ⟨k55, o55, n55, c55, q55, ea55, hl55, hq55, r55, N55, f55, hk55, hN55, hf55⟩ := ((hV0.ext hE02)).at i2 (by omega)
      refine ⟨k55, o55, n55, c55, i2, q55, ea55, rfl, hl55, hq55, ?_⟩
      refine ⟨_, _, _, _, _, hk55, ⟨by simp, hN55⟩, hf55, ?_⟩
      refine ⟨_, s_l01Times_ok B E.2.2.2.2.2 (n := n) (p := p) (f := f) (v := S.getD i1 z0) (w := S.getD i2 z0) (by omega) (by omega) hn8, rfl, ?_⟩
      have hmem2 : S.getD i2 z0 ∈ S := getD_mem (by omega)
      have hZlen := hZ.rr.len
      rw [show vec 8 p (prd n f 10 (S.getD i1 z0) (S.getD i2 z0)) = pdV p n f (S.getD i1 z0) (S.getD i2 z0) from rfl]
      refine ⟨_, s_l01Put_ok B E.2.2.2.1 (by omega) (by omega) hV2 hZ.rr.fs (by omega), ?_⟩
      rintro _ G58 ⟨b58, rfl, hE58, hV58⟩
      obtain ⟨r1, r2, r3⟩ := hZ.put hpr (pd_vp (n := n) (f := f) (v := S.getD i1 z0) (w := S.getD i2 z0) (by omega) (by omega)) fun T hT hLT => hT.pd (by omega) (by omega) hn8 (hS.le T hT hLT _ hmem) (hS.le T hT hLT _ hmem2)
      refine ⟨((i2 + 1 : Nat) : Int), w64_id _ (by omega) (by omega), ?_⟩
      refine ⟨by omega, (_, putL p Z (pdV p n f (S.getD i1 z0) (S.getD i2 z0))), ?_, ⟨rfl, rfl, rfl, rfl, rfl, trivial⟩⟩
      refine ⟨hV58, r1, fun u h => r3 u (hYZ u h), fun l hl => ?_, hE2.trans hE58⟩
      by_cases e : l = i2
      · subst e; exact r2
      · exact r3 _ (hZl l (by omega))
    · replace h41 := of_decide_eq_false h41
      have e2 : S.length = i2 := by omega
      subst e2
      refine ⟨((i1 + 1 : Nat) : Int), w64_id _ (by omega) (by omega), ?_⟩
      refine ⟨by omega, (_, Z), ?_, ⟨rfl, rfl, rfl, rfl, trivial⟩⟩
      refine ⟨hV2, hZ, fun u h => hYZ u (hq3 u h), fun j hj => ?_, hE02⟩
      by_cases e : j = i1
      · subst e; exact ⟨hYZ _ q2, hZl⟩
      · exact ⟨hYZ _ (hq4 j (by omega)).1, fun l hl => hYZ _ ((hq4 j (by omega)).2 l hl)⟩
  · replace h20 := of_decide_eq_false h20
    have e1 : S.length = i1 := by omega
    subst e1
    refine .inl ⟨_, _, _, _, hE1 _ _ hk0, ⟨rfl, by omega⟩, ?_⟩
    have hYlen := hY.rr.len
    refine ⟨_, s_l07Closed_ok B E.2.1 (L := Y) hs hV1 hY.rr.vp (by omega), ?_⟩
    rintro _ G61 ⟨b61, R61, rfl, hE61, hV61, hM61, hC61⟩
    have hmn1 := hM61.leg_in (L := L) (n := n) (f := f) (by omega) (by omega) hY.le (fun u hu => (hY.has u hu).sub (by omega) (by omega) hM61.has)
    have hSR : ∀ u, Sp' 8 p S u → Sp' 8 p R61 u := fun u h => (hSY u h).sub (by omega) (by omega) hM61.has
    have hYR : ∀ u, Sp' 8 p Y u → Sp' 8 p R61 u := fun u h => h.sub (by omega) (by omega) hM61.has
    have hgr := Mn.grow hpr hS hmn1 hSR
    have hRlen := hmn1.rr.len
    refine ⟨_, (hV61).len, ?_⟩
    refine ⟨_, ((hV0.ext hE1).ext hE61).len, ?_⟩
    refine ⟨fun h66 => ?_, fun h66 => ?_⟩
    · replace h66 := eq_of_beq h66
      have he := hgr.2 (by omega)
      refine ⟨rfl, x, S, rfl, Ext.app.trans (hE0.trans (hE1.trans hE61)), (hV0.ext hE1).ext hE61, hS.rr, hS.has, ⟨hSu, ?_, hC61.eq (by omega) (by omega) hn8 hS.rr.vp he, ?_⟩, hS.le⟩
      · intro u hu w hw
        obtain ⟨j, hj, rfl⟩ := mem_at hu
        obtain ⟨l, hl, rfl⟩ := mem_at hw
        exact (he _).2 (hYR _ ((hYl j hj).2 l hl))
      · intro u hu
        obtain ⟨j, hj, rfl⟩ := mem_at hu
        exact (he _).2 (hYR _ (hYl j hj).1)
    · replace h66 := ne_of_beq_false h66
      refine ⟨by omega, (_, R61), ?_, ⟨rfl, rfl, trivial⟩⟩
      exact ⟨hV61, hmn1, hSR _ hSu, by omega, hE0.trans (hE1.trans hE61)⟩

theorem s_l07Sub_ok (B : Bs P ρ) (E : F_s_l07Sub P ρ) {H : List Blk} {n : Nat} {p : Int} {f : By} {a : At} {L : List By} (hs : HShp p n f) (hL : VS H a L) (hR : RR 8 p L) :
    CallR P ρ 363 [.ag [p, (n : Int)] 1106 f, a] H (fun u G => u = .one (.b (decide (Clo p n f L))) ∧ Ext H G) := by
  have hpr := hs.1.1
  have hp2 := hpr.1
  have hp3 := hpr.2.1
  have hn8 : n ≤ 8 := by have := hs.1.2.2; omega
  have hlen := hR.len
  refine call_of_q B.fn B.mo E.1 rfl (fun hAr hHp => ?_) (by simp only [List.all_cons, List.all_nil, hL.lt]; rfl)
  refine ⟨_, rfl, ?_⟩
  refine .inl ⟨_, _, _, _, get_new, ⟨rfl, by omega⟩, ?_⟩
  refine ⟨_, s_l07Generated_ok B E.2 hs (hL.ext Ext.app) hR.vp (by omega), ?_⟩
  rintro _ G7 ⟨b7, R7, rfl, hE7, hV7, hG7⟩
  refine ⟨_, (hV7).len, ?_⟩
  refine ⟨_, (hL.ext (Ext.app.trans hE7)).len, ?_⟩
  refine ⟨rfl, ?_, Ext.app.trans hE7⟩
  have e := hG7.sub (by omega) (by omega) hn8 hR
  rw [show ((R7.length : Int) == (L.length : Int)) = decide (Clo p n f L) from by rw [Bool.eq_iff_iff, decide_eq_true_iff, ← e, beq_iff_eq]; omega]; rfl

end Hf
namespace Hf
open Go Classical
variable {P : Program} {ρ : Nat → FuncId}
theorem VS.two {H : List Blk} {v w g : By} (h : ∀ x, x < 8 → g x = v x) (h' : ∀ x, x < 8 → g (8 + x) = w x) : VS (H ++ [⟨false, .by [] (2 * 8) g⟩]) (.sl H.length 0 2 2) [v, w] := by
  refine .inr ⟨H.length, 0, 2, false, _, g, rfl, get_new, ⟨by omega, by simp⟩, fun i x hi hx => ?_⟩
  have hi : i < 2 := by simpa using hi
  match i, hi with
  | 0, _ => rw [show 0 + 0 * 8 + x = x by omega, h x hx]; rfl
  | 1, _ => rw [show 0 + 1 * 8 + x = 8 + x by omega, h' x hx]; rfl
def adV (p : Int) (n : Nat) (f : By) (i : Nat) (v : By) (r : Bool) : By := vec 8 p (adj p n f (bas i) v r)
theorem ad_vp {p : Int} {n : Nat} {f v : By} {i : Nat} {r : Bool} (hp : 1 ≤ p) (hp2 : p ≤ 256) : Vp 8 p (adV p n f i v r) := ⟨fun x => bz_vec_lt hp hp2, fun x hx => vec_out hx⟩
def NrmA (p : Int) (n : Nat) (f : By) (L : List By) (i : Nat) (v : By) : Prop := Sp' 8 p L (adV p n f i v false) ∧ Sp' 8 p L (adV p n f i v true)
def NrmC (p : Int) (n : Nat) (f : By) (L : List By) : Prop := Clo p n f L ∧ ∀ i, i < n → ∀ j, j < L.length → NrmA p n f L i (L.getD j z0)
theorem bas_vec {p : Int} {n i : Nat} (hp : 2 ≤ p) (hi : i < n) (hn : n ≤ 8) : Vec p n (bas i) 0 := by
  intro k hk
  rw [Nat.zero_add]
  refine ⟨bas_lt hp i k, fun h => ?_⟩
  refine bz_eq0.2 ?_
  unfold bas; rw [if_neg (by omega)]
theorem ad_vp2 {p : Int} {n : Nat} {f v : By} {i : Nat} (hp : 1 ≤ p) (hp2 : p ≤ 256) : ∀ u ∈ [adV p n f i v false, adV p n f i v true], Vp 8 p u := by
  intro u hu
  simp only [List.mem_cons, List.not_mem_nil, or_false] at hu
  rcases hu with rfl | rfl <;> exact ad_vp hp hp2
theorem in_two {p : Int} {n : Nat} {f v : By} {L : List By} {i : Nat} (hp : 1 ≤ p) (hp2 : p ≤ 256) (hR : RR 8 p L) : inL p L [adV p n f i v false, adV p n f i v true] = true ↔ NrmA p n f L i v := by
  rw [in_cls hp hp2 hR (ad_vp2 hp hp2)]
  unfold NrmA
  simp
theorem s_l07In_ok (B : Bs P ρ) (E : F_s_l07In P ρ) {H : List Blk} {p : Int} {v : By} {a : At} {L : List By} (hp : 1 ≤ p) (hp2 : p ≤ 256) (hL : VS H a L) (hR : RR 8 p L) (hv : Vp 8 p v) :
    CallR P ρ 375 [.i .i64 p, .ag [] 8 v, a] H (fun u G => u = .one (.b (decide (Sp' 8 p L v))) ∧ G = H) := by
  have hlen := hR.len
  refine CallR.pure (call_of_q B.fn B.mo E.1 rfl (fun hA hH => ?_) (by simp only [List.all_cons, List.all_nil, hL.lt]; rfl)) rfl
  refine ⟨_, rfl, ?_⟩
  refine ⟨_, _, _, _, v, get_new, ⟨by simp, by omega⟩, fun x _ => congrArg _ (Nat.zero_add x).symm, ?_⟩
  refine ⟨_, s_l01By_ok B E.2.1 hp hp2 (hL.ext Ext.app) hR.fs (by omega), ?_⟩
  rintro _ _ ⟨rfl, rfl⟩
  refine ⟨_, s_l01Zero_ok B E.2.2 , rfl, ?_⟩
  refine ⟨rfl, ?_, Ext.app⟩
  rw [show eqB 8 (byL p v L) (fun _ => 0) = decide (Sp' 8 p L v) from by
    rw [Bool.eq_iff_iff, decide_eq_true_iff, hR.in_iff hp hp2 hv, ← byL_W]
    exact eqB_z8 (by rw [byL_W]; exact byW_vp hp hp2 hv)]; rfl

set_option maxHeartbeats 1000000 in
theorem s_l07Normal_ok (B : Bs P ρ) (E : F_s_l07Normal P ρ) {H : List Blk} {n : Nat} {p : Int} {f : By} {a : At} {L : List By} (hs : HShp p n f) (hL : VS H a L) (hR : RR 8 p L) :
    CallR P ρ 370 [.ag [p, (n : Int)] 1106 f, a] H (fun u G => u = .one (.b (decide (NrmC p n f L))) ∧ Ext H G) := by
  have hpr := hs.1.1
  have hp2 := hpr.1
  have hp3 := hpr.2.1
  have hn8 : n ≤ 8 := by have := hs.1.2.2; omega
  have hlen := hR.len
  refine call_of_q B.fn B.mo E.1 rfl (fun hAr hHp => ?_) (by simp only [List.all_cons, List.all_nil, hL.lt]; rfl)
  refine ⟨_, rfl, ?_⟩
  refine .inl ⟨_, _, _, _, get_new, ⟨rfl, by omega⟩, ?_⟩
  refine ⟨_, s_l07Sub_ok B E.2.1 hs (hL.ext Ext.app) hR, ?_⟩
  rintro _ G9 ⟨rfl, hE9⟩
  refine ⟨fun h10 => ?_, fun h10 => ?_⟩
  · skip
    have hc : ¬ Clo p n f L := by simpa using h10
    exact ⟨rfl, by rw [decide_eq_false fun q : NrmC p n f L => hc q.1]; rfl, Ext.app.trans hE9⟩
  · skip
    have hc : Clo p n f L := by simpa using h10
    refine ⟨Unit, (fun a1 a2 (i0 : Nat) (x0 : Unit) => [(1, a1), (2, a2), (5, .one (.i .i64 ((i0 : Nat) : Int)))]) _ _ , fun (i0 : Nat) (x0 : Unit) (G0 : List Blk) => ((∀ j, j < i0 → ∀ i, i < n → NrmA p n f L i (L.getD j z0)) ∧ Ext (H ++ [⟨false, .by [p, (n : Int)] 1106 f⟩]) G0), L.length, ⟨(), ⟨fun j h => absurd h (by omega), hE9⟩, ⟨rfl, rfl, rfl, trivial⟩⟩, ?_⟩
    rintro i0 _ G0 hi0 ⟨hF0, hE0⟩
    have hk0 := hE0 _ _ get_new
    have hV0 := (hL.ext Ext.app).ext hE0
    refine ⟨_, (hV0).len, ?_⟩
    refine ⟨fun h14 => ?_, fun h14 => ?_⟩
    · replace h14 := of_decide_eq_true h14
      refine ⟨Unit, (fun a1 a2 a5 (i1 : Nat) (x1 : Unit) => [(1, a1), (2, a2), (5, a5), (6, .one (.i .i64 ((i1 : Nat) : Int)))]) _ _ _ , fun (i1 : Nat) (x1 : Unit) (G1 : List Blk) => ((∀ i, i < i1 → NrmA p n f L i (L.getD i0 z0)) ∧ G1 = G0), n, ⟨(), ⟨fun i h => absurd h (by omega), rfl⟩, ⟨rfl, rfl, rfl, rfl, trivial⟩⟩, ?_⟩
      rintro i1 _ G1 hi1 ⟨hF1, rfl⟩
      refine ⟨_, _, hk0, rfl, ?_⟩
      refine ⟨fun h20 => ?_, fun h20 => ?_⟩
      · replace h20 := of_decide_eq_true h20
        refine ⟨_, _, hk0, rfl, ?_⟩
        refine .inl ⟨_, _, _, _, hk0, ⟨rfl, by omega⟩, ?_⟩
        refine ⟨_, s_l01Basis_ok B E.2.2.1 (i := i1) (by omega), rfl, ?_⟩
        obtain ⟨k30, o30, n30, c30, q30, ea30, hl30, hq30, r30, N30, f30, hk30, hN30, hf30⟩ := (hV0).at i0 (by omega)
        refine ⟨k30, o30, n30, c30, i0, q30, ea30, rfl, hl30, hq30, ?_⟩
        refine ⟨_, _, _, _, _, hk30, ⟨by simp, hN30⟩, hf30, ?_⟩
        refine ⟨_, s_l07Adjoint_ok B E.2.2.2.1 (n := n) (p := p) (f := f) (a := bas i1) (b := L.getD i0 z0) (r := false) (by omega) (by omega) hn8, rfl, ?_⟩
        rw [show vec 8 p (adj p n f (bas i1) (L.getD i0 z0) false) = adV p n f i1 (L.getD i0 z0) false from rfl]
        refine ⟨_, s_l07In_ok B E.2.2.2.2 (by omega) (by omega) hV0 hR (ad_vp (by omega) (by omega)), ?_⟩
        rintro _ _ ⟨rfl, rfl⟩
        refine ⟨fun h36 => ?_, fun h36 => ?_⟩
        · skip
          have q36 : ¬ Sp' 8 p L (adV p n f i1 (L.getD i0 z0) false) := by simpa using h36
          refine brB_t ?_
          refine brB_t ?_
          refine brB_t ?_
          refine brB_t ?_
          refine brB_t ?_
          refine brB_t ?_
          refine brB_t ?_
          refine brB_t ?_
          refine brB_t ?_
          refine brB_t ?_
          refine brB_t ?_
          refine brB_t ?_
          refine brB_t ?_
          refine brB_t ?_
          exact ⟨rfl, by rw [decide_eq_false fun q : NrmC p n f L => q36 (q.2 i1 (by omega) i0 (by omega)).1]; rfl, Ext.app.trans hE0⟩
        · skip
          have q36 : Sp' 8 p L (adV p n f i1 (L.getD i0 z0) false) := by simpa using h36
          refine brB_f ?_
          refine ⟨_, _, hk0, rfl, ?_⟩
          refine brB_f ?_
          refine .inl ⟨_, _, _, _, hk0, ⟨rfl, by omega⟩, ?_⟩
          refine brB_f ?_
          refine brB_f ?_
          refine ⟨_, s_l01Basis_ok B E.2.2.1 (i := i1) (by omega), rfl, ?_⟩
          refine brB_f ?_
          refine brB_f ?_
          refine brB_f ?_
          obtain ⟨k44, o44, n44, c44, q44, ea44, hl44, hq44, r44, N44, f44, hk44, hN44, hf44⟩ := (hV0).at i0 (by omega)
          refine ⟨k44, o44, n44, c44, i0, q44, ea44, rfl, hl44, hq44, ?_⟩
          refine brB_f ?_
          refine ⟨_, _, _, _, _, hk44, ⟨by simp, hN44⟩, hf44, ?_⟩
          refine brB_f ?_
          refine ⟨_, s_l07Adjoint_ok B E.2.2.2.1 (n := n) (p := p) (f := f) (a := bas i1) (b := L.getD i0 z0) (r := true) (by omega) (by omega) hn8, rfl, ?_⟩
          refine brB_f ?_
          refine brB_f ?_
          rw [show vec 8 p (adj p n f (bas i1) (L.getD i0 z0) true) = adV p n f i1 (L.getD i0 z0) true from rfl]
          refine ⟨_, s_l07In_ok B E.2.2.2.2 (by omega) (by omega) hV0 hR (ad_vp (by omega) (by omega)), ?_⟩
          rintro _ _ ⟨rfl, rfl⟩
          refine brB_f ?_
          refine brB_f ?_
          refine ⟨fun h50 => ?_, fun h50 => ?_⟩
          · skip
            have q50 : ¬ Sp' 8 p L (adV p n f i1 (L.getD i0 z0) true) := by simpa using h50
            exact ⟨rfl, by rw [decide_eq_false fun q : NrmC p n f L => q50 (q.2 i1 (by omega) i0 (by omega)).2]; rfl, Ext.app.trans hE0⟩
          · skip
            have q50 : Sp' 8 p L (adV p n f i1 (L.getD i0 z0) true) := by simpa using h50
            refine ⟨((i1 + 1 : Nat) : Int), w64_id _ (by omega) (by omega), ?_⟩
            refine ⟨by omega, (), ?_, ⟨rfl, rfl, rfl, rfl, trivial⟩⟩
            refine ⟨fun i hi => ?_, rfl⟩
            by_cases e : i = i1
            · subst e; exact ⟨q36, q50⟩
            · exact hF1 i (by omega)
      · replace h20 := of_decide_eq_false h20
        have e1 : n = i1 := by omega
        subst e1
        refine ⟨((i0 + 1 : Nat) : Int), w64_id _ (by omega) (by omega), ?_⟩
        refine ⟨by omega, (), ?_, ⟨rfl, rfl, rfl, trivial⟩⟩
        refine ⟨fun j hj => ?_, hE0⟩
        by_cases e : j = i0
        · subst e; exact hF1
        · exact hF0 j (by omega)
    · replace h14 := of_decide_eq_false h14
      have e0 : L.length = i0 := by omega
      subst e0
      exact ⟨rfl, by rw [decide_eq_true (show NrmC p n f L from ⟨hc, fun i hi j hj => hF0 j hj i hi⟩)]; rfl, Ext.app.trans hE0⟩

set_option maxHeartbeats 1000000 in
theorem i_Hopf_isNormal_ok (B : Bs P ρ) (E : F_i_Hopf_isNormal P ρ) {H : List Blk} {k n : Nat} {r : Bool} {p : Int} {f : By} {a : At} {L : List By} (hk : H[k]? = some ⟨r, .by [p, (n : Int)] 1106 f⟩) (hs : HShp p n f) (hL : VS H a L) (hR : RR 8 p L) (hv : ∀ v ∈ L, Vp n p v) :
    CallR P ρ 371 [.pt k 0, a] H (fun u G => u = .one (.b (decide (NrmC p n f L))) ∧ Ext H G) := by
  have hpr := hs.1.1
  have hp2 := hpr.1
  have hp3 := hpr.2.1
  have hn8 : n ≤ 8 := by have := hs.1.2.2; omega
  have hlen := hR.len
  refine call_of_q B.fn B.mo E.1 rfl (fun hAr hHp => ?_) (by simp only [List.all_cons, List.all_nil, hL.lt]; simp [At.lt, lt_of hk])
  refine ⟨_, i_Hopf_isSub_ok B E.2.1 hk hs hL hR hv, ?_⟩
  rintro _ G10 ⟨rfl, hE10⟩
  refine ⟨fun h11 => ?_, fun h11 => ?_⟩
  · skip
    have hc : ¬ Clo p n f L := by simpa using h11
    exact ⟨rfl, by rw [decide_eq_false fun q : NrmC p n f L => hc q.1]; rfl, hE10⟩
  · skip
    have hc : Clo p n f L := by simpa using h11
    refine ⟨_, _, hE10 _ _ hk, rfl, ?_⟩
    refine ⟨Unit, (fun a0 a1 a15 (i0 : Nat) (x0 : Unit) => [(0, a0), (1, a1), (15, a15), (16, .one (.i .i64 ((i0 : Nat) : Int)))]) _ _ _ , fun (i0 : Nat) (x0 : Unit) (G0 : List Blk) => ((∀ i, i < i0 → ∀ j, j < L.length → NrmA p n f L i (L.getD j z0)) ∧ Ext H G0), n, ⟨(), ⟨fun j h => absurd h (by omega), hE10⟩, ⟨rfl, rfl, rfl, rfl, trivial⟩⟩, ?_⟩
    rintro i0 _ G0 hi0 ⟨hF0, hE0⟩
    refine ⟨fun h17 => ?_, fun h17 => ?_⟩
    · replace h17 := of_decide_eq_true h17
      refine ⟨_, (hL.ext hE0).len, ?_⟩
      refine ⟨Unit, (fun a0 a1 a5 a15 a16 a19 a20 (i1 : Nat) (x1 : Unit) => [(0, a0), (1, a1), (5, a5), (15, a15), (16, a16), (19, a19), (20, a20), (21, .one (.i .i64 ((i1 : Nat) : Int)))]) _ _ _ _ _ _ _ , fun (i1 : Nat) (x1 : Unit) (G1 : List Blk) => ((∀ j, j < i1 → NrmA p n f L i0 (L.getD j z0)) ∧ Ext H G1), L.length, ⟨(), ⟨fun i h => absurd h (by omega), hE0⟩, ⟨rfl, rfl, rfl, rfl, rfl, rfl, rfl, rfl, trivial⟩⟩, ?_⟩
      rintro i1 _ G1 hi1 ⟨hF1, hE1⟩
      refine ⟨fun h22 => ?_, fun h22 => ?_⟩
      · replace h22 := of_decide_eq_true h22
        obtain ⟨k23, o23, n23, c23, q23, ea23, hl23, hq23, r23, N23, f23, hk23, hN23, hf23⟩ := (hL.ext hE1).at i1 (by omega)
        refine ⟨k23, o23, n23, c23, i1, q23, ea23, rfl, hl23, hq23, ?_⟩
        refine ⟨_, _, _, _, _, hk23, ⟨by simp, hN23⟩, hf23, ?_⟩
        refine ⟨_, rfl, ?_⟩
        refine ⟨_, _, _, get_new, cputs_by (by simp) (by omega), eqBk_rfl, ?_⟩
        rw [app_set0]
        refine ⟨_, i_basis_ok B E.2.2.1 (i := i0) (by omega), rfl, ?_⟩
        refine ⟨_, _, _, _, L.getD i1 z0, get_new, ⟨by simp, by omega⟩, fun x hx => by simp [spl, hx], ?_⟩
        refine ⟨_, _, _, _, L.getD i1 z0, get_new, ⟨by simp, by omega⟩, fun x hx => by simp [spl, hx], ?_⟩
        refine ⟨_, CallOK.at1 (app_old (hE1 _ _ hk)) (i_Hopf_adjoint_ok B E.2.2.2.1 (p := p) (n := n) (f := f) (a := bas i0) (b := L.getD i1 z0) (r := false) hs (bas_vec hp2 (by omega) hn8)) rfl rfl, ?_⟩
        rintro _ _ ⟨rfl, rfl⟩
        refine ⟨⟨kept1 get_new get_new, trivial⟩, ?_⟩
        refine ⟨_, i_basis_ok B E.2.2.1 (i := i0) (by omega), rfl, ?_⟩
        refine ⟨_, CallOK.at1 (app_old (hE1 _ _ hk)) (i_Hopf_adjoint_ok B E.2.2.2.1 (p := p) (n := n) (f := f) (a := bas i0) (b := L.getD i1 z0) (r := true) hs (bas_vec hp2 (by omega) hn8)) rfl rfl, ?_⟩
        rintro _ _ ⟨rfl, rfl⟩
        refine ⟨_, rfl, ?_⟩
        refine ⟨_, i_Hopf_holds_ok B E.2.2.2.2 (L := L) (M := [adV p n f i0 (L.getD i1 z0) false, adV p n f i0 (L.getD i1 z0) true]) (app_old (app_old (hE1 _ _ hk))) (by omega) (by omega) ((hL.ext hE1).ext (Ext.app.trans Ext.app)) hR.fs (by omega) (VS.two (fun x hx => by simp only [spl]; rw [if_neg (by omega), if_pos (by omega)]; exact congrArg _ (by omega)) fun x hx => by simp only [spl]; rw [if_pos (by omega)]; exact congrArg _ (by omega)) (fun v hv x _ => (ad_vp2 (by omega) (by omega) v hv).1 x) (by simp), ?_⟩
        rintro _ _ ⟨rfl, rfl⟩
        refine ⟨fun h39 => ?_, fun h39 => ?_⟩
        · skip
          have q39 : ¬ NrmA p n f L i0 (L.getD i1 z0) := fun q => by rw [(in_two (by omega) (by omega) hR).2 q] at h39; cases h39
          exact ⟨rfl, by rw [decide_eq_false fun q : NrmC p n f L => q39 (q.2 i0 (by omega) i1 (by omega))]; rfl, hE1.trans (Ext.app.trans Ext.app)⟩
        · skip
          have q39 : NrmA p n f L i0 (L.getD i1 z0) := (in_two (by omega) (by omega) hR).1 (by simpa using h39)
          refine ⟨((i1 + 1 : Nat) : Int), w64_id _ (by omega) (by omega), ?_⟩
          refine ⟨by omega, (), ?_, ⟨rfl, rfl, rfl, rfl, rfl, rfl, rfl, rfl, trivial⟩⟩
          refine ⟨fun j hj => ?_, hE1.trans (Ext.app.trans Ext.app)⟩
          by_cases e : j = i1
          · subst e; exact q39
          · exact hF1 j (by omega)
      · replace h22 := of_decide_eq_false h22
        have e1 : L.length = i1 := by omega
        subst e1
        refine ⟨((i0 + 1 : Nat) : Int), w64_id _ (by omega) (by omega), ?_⟩
        refine ⟨by omega, (), ?_, ⟨rfl, rfl, rfl, rfl, trivial⟩⟩
        refine ⟨fun i hi => ?_, hE1⟩
        by_cases e : i = i0
        · subst e; exact hF1
        · exact hF0 i (by omega)
    · replace h17 := of_decide_eq_false h17
      have e0 : n = i0 := by omega
      subst e0
      exact ⟨rfl, by rw [decide_eq_true (show NrmC p n f L from ⟨hc, fun i hi j hj => hF0 i hi j hj⟩)]; rfl, hE0⟩

/-- is the space a normal sub Hopf algebra, if all is well -/
noncomputable def nsubV (p n : Int) (f : By) (L : List By) : Bool := if HQ p n f L then decide (NrmC p n.toNat f (redL p L)) else false
theorem s_IsNormalSub_ok (B : Bs P ρ) (E : F_s_IsNormalSub P ρ) {H : List Blk} {m : Nat} {p n : Int} {f : By} {a : At} {L : List By} (hL : VT m H a L) (hlen : L.length ≤ 1000000) (hz : ∀ v ∈ L, ∀ x, 8 ≤ x → v x = 0) :
    CallR P ρ 360 [.ag [p, n] 1106 f, a] H (fun u G => u = .tup [.b (nsubV p n f L), .i .i64 (oc (HQ p n f L) 1)] ∧ G = H) := by
  refine CallR.pure (call_of_q B.fn B.mo E.1 rfl (fun hA hH => ?_) (by simp only [List.all_cons, List.all_nil, hL.vs.lt]; rfl)) rfl
  refine ⟨_, rfl, ?_⟩
  refine .inl ⟨_, _, _, _, get_new, ⟨rfl, by omega⟩, ?_⟩
  refine ⟨_, codeS_vt B E.2.1 (hL.ext Ext.app) hlen, ?_⟩
  rintro _ _ ⟨rfl, rfl⟩
  rw [show (Hop p n f ∧ ∀ v ∈ L, Vec p n v 0) = HQ p n f L from rfl]
  refine ⟨fun h11 => ?_, fun h11 => ?_⟩
  · replace h11 := bne_t h11
    refine ⟨rfl, ?_, Ext.app⟩
    have hq : ¬ HQ p n f L := fun q => h11 (oc_t q)
    unfold nsubV; rw [if_neg hq]; rfl
  · replace h11 := bne_f h11
    have hq : HQ p n f L := oc_0 h11
    obtain ⟨n, rfl⟩ : ∃ m : Nat, n = (m : Int) := ⟨n.toNat, by have := hq.1.1.1.2.1; omega⟩
    have hs := hq.1.1
    have hpr := hs.1.1
    have hp2 := hpr.1
    have hp3 := hpr.2.1
    have hn8 : n ≤ 8 := by have := hs.1.2.2; omega
    have hvn := hq.vn hz
    have hvp : ∀ v ∈ L, Vp 8 p v := fun v h => (hvn v h).mono hn8
    have hrr := (redL_rr hpr hvp).1
    refine .inl ⟨_, _, _, _, get_new, ⟨rfl, by omega⟩, ?_⟩
    refine ⟨_, _, get_new, rfl, ?_⟩
    refine ⟨_, s_l01Reduce_ok B E.2.2.1 hpr (hL.vs.ext Ext.app) hvp hlen, ?_⟩
    rintro _ G17 ⟨b17, rfl, hE17, hV17⟩
    refine ⟨⟨kept1 get_new (hE17 _ _ get_new), trivial⟩, ?_⟩
    refine ⟨_, s_l07Normal_ok B E.2.2.2 hs hV17 hrr, ?_⟩
    rintro _ G18 ⟨rfl, hE18⟩
    refine ⟨rfl, ?_, Ext.app.trans (hE17.trans hE18)⟩
    unfold nsubV; rw [if_pos hq, oc_t hq]; rfl

theorem i_IsNormalSub_ok (B : Bs P ρ) (E : F_i_IsNormalSub P ρ) {H : List Blk} {m : Nat} {p n : Int} {f : By} {a : At} {L : List By} (hL : (L = [] ∧ a = .sn) ∨ VT m H a L) (hlen : L.length ≤ 1000000) (hz : ∀ v ∈ L, ∀ x, 8 ≤ x → v x = 0) :
    CallR P ρ 361 [.ag [p, n] 1106 f, a] H (fun u G => u = .tup [.b (nsubV p n f L), .i .i64 (oc (HQ p n f L) 1)] ∧ G = H) := by
  have hV : VS H a L := hL.elim (fun h => .inl ⟨h.2, h.1⟩) VT.vs
  refine CallR.pure (call_of_q B.fn B.mo E.1 rfl (fun hA hH => ?_) (by simp only [List.all_cons, List.all_nil, hV.lt]; rfl)) rfl
  refine ⟨_, rfl, ?_⟩
  refine ⟨_, code_vt B E.2.1 get_new (hL.imp id fun h => h.ext Ext.app) hlen, ?_⟩
  rintro _ _ ⟨rfl, rfl⟩
  rw [show (Hop p n f ∧ ∀ v ∈ L, Vec p n v 0) = HQ p n f L from rfl]
  refine ⟨fun h10 => ?_, fun h10 => ?_⟩
  · replace h10 := bne_t h10
    refine ⟨rfl, ?_, Ext.app⟩
    have hq : ¬ HQ p n f L := fun q => h10 (oc_t q)
    unfold nsubV; rw [if_neg hq]; rfl
  · replace h10 := bne_f h10
    have hq : HQ p n f L := oc_0 h10
    obtain ⟨n, rfl⟩ : ∃ m : Nat, n = (m : Int) := ⟨n.toNat, by have := hq.1.1.1.2.1; omega⟩
    have hs := hq.1.1
    have hpr := hs.1.1
    have hp2 := hpr.1
    have hp3 := hpr.2.1
    have hn8 : n ≤ 8 := by have := hs.1.2.2; omega
    have hvn := hq.vn hz
    have hvp : ∀ v ∈ L, Vp 8 p v := fun v h => (hvn v h).mono hn8
    have hrr := (redL_rr hpr hvp).1
    refine ⟨_, i_Hopf_span_ok B E.2.2.1 (k := H.length) get_new hpr (hV.ext Ext.app) hvp hlen, ?_⟩
    rintro _ G13 ⟨b13, rfl, hE13, hV13⟩
    refine ⟨_, i_Hopf_isNormal_ok B E.2.2.2 (hE13 _ _ get_new) hs hV13.vs hrr (red_vn hpr hn8 hvn), ?_⟩
    rintro _ G14 ⟨rfl, hE14⟩
    refine ⟨rfl, ?_, Ext.app.trans (hE13.trans hE14)⟩
    unfold nsubV; rw [if_pos hq, oc_t hq]; rfl

theorem l_FnExactIsNormalSub_ok (B : Bs P ρ) (E : F_l_FnExactIsNormalSub P ρ) {H : List Blk} {p n : Int} {f : By} {a : At} {L : List By} (hL : VA H a L) (hz : ∀ v ∈ L, ∀ x, 8 ≤ x → v x = 0) (hlen : L.length ≤ 9223372036854775807) :
    CallR P ρ 362 [.ag [p, n] 1106 f, a] H (fun u G => u = .one (.b true) ∧ G = H) := by
  refine CallR.pure (call_of_q B.fn B.mo E.1 rfl (fun hA hH => ?_) (by simp only [List.all_cons, List.all_nil, hL.lt]; rfl)) rfl
  refine ⟨_, rfl, ?_⟩
  have hEx : Ext (H ++ [(⟨false, .by [p, n] 1106 f⟩ : Blk)]) (H ++ [(⟨false, .by [p, n] 1106 f⟩ : Blk)]) := Ext.refl
  have hE0 : Ext H (H ++ [(⟨false, .by [p, n] 1106 f⟩ : Blk)]) := Ext.app
  refine ⟨_, l_szVectorS_ok B E.2.1 (hL.ext hE0) hlen, ?_⟩
  rintro _ _ ⟨rfl, rfl⟩
  refine ⟨fun h17 => ?_, fun h17 => ?_⟩
  · replace h17 := of_decide_eq_true h17
    exact ⟨rfl, rfl, hE0⟩
  · replace h17 := of_decide_eq_false h17
    have hl6 : L.length ≤ 1000000 := by
      apply Classical.byContradiction
      intro q
      rw [if_neg q] at h17
      omega
    refine .inl ⟨_, _, _, _, (hEx _ _ get_new), ⟨rfl, by omega⟩, ?_⟩
    refine ⟨_, l_toHopf_ok B E.2.2.1 , rfl, ?_⟩
    refine ⟨_, l_toVectorS_ok B E.2.2.2.1 (hL.ext (hE0.trans hEx)) hl6, ?_⟩
    rintro _ G1 ⟨b1, rfl, hE1, hV1⟩
    have hEx := hEx.trans hE1
    refine ⟨_, s_IsNormalSub_ok B E.2.2.2.2.1 hV1 hl6 hz, ?_⟩
    rintro _ _ ⟨rfl, rfl⟩
    refine ⟨_, l_toVectorS_ok B E.2.2.2.1 (hL.ext (hE0.trans hEx)) hl6, ?_⟩
    rintro _ G2 ⟨b2, rfl, hE2, hV2⟩
    have hEx := hEx.trans hE2
    refine .inl ⟨_, _, _, _, (hEx _ _ get_new), ⟨rfl, by omega⟩, ?_⟩
    refine ⟨_, l_toHopf_ok B E.2.2.1 , rfl, ?_⟩
    refine ⟨_, i_IsNormalSub_ok B E.2.2.2.2.2.1 (.inr hV2) hl6 hz, ?_⟩
    rintro _ _ ⟨rfl, rfl⟩
    refine ⟨fun h38 => ?_, fun h38 => ?_⟩
    · skip
      simp at h38
    · skip
      refine brB_f ?_
      refine brB_f ?_
      refine brB_f ?_
      refine brB_f' (by simp) ?_
      refine ⟨_, l_toVectorS_ok B E.2.2.2.1 (hL.ext (hE0.trans hEx)) hl6, ?_⟩
      rintro _ G3 ⟨b3, rfl, hE3, hV3⟩
      have hEx := hEx.trans hE3
      refine ⟨_, l_intactVectorS_ok B E.2.2.2.2.2.2 (hV2.ext hE3) hV3 hl6, ?_⟩
      rintro _ _ ⟨rfl, rfl⟩
      refine brB_f ?_
      refine .inl ⟨_, _, _, _, (hEx _ _ get_new), ⟨rfl, by omega⟩, ?_⟩
      refine ⟨_, l_toHopf_ok B E.2.2.1 , rfl, ?_⟩
      refine ⟨_, l_toVectorS_t_ok B E.2.2.2.1 (hL.ext (hE0.trans hEx)) hl6, ?_⟩
      rintro _ G4 ⟨b4, rfl, hE4, hV4⟩
      have hEx := hEx.trans hE4
      refine ⟨_, i_IsNormalSub_ok B E.2.2.2.2.2.1 hV4 hl6 hz, ?_⟩
      rintro _ _ ⟨rfl, rfl⟩
      refine ⟨fun h59 => ?_, fun h59 => ?_⟩
      · skip
        simp at h59
      · skip
        refine brB_f ?_
        refine brB_f ?_
        refine brB_f ?_
        refine brB_f' (by simp) ?_
        exact ⟨rfl, rfl, hE0.trans hEx⟩

end Hf
