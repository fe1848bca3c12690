/- Contracts of the functions that the law reaches. -/
import Derived.Test.YtkkjaohppodccadC2
set_option linter.unusedVariables false
set_option linter.unusedSimpArgs false
namespace Hf
open Go Classical
variable {P : Program} {ρ : Nat → FuncId}
theorem VI.lt {H : List Blk} {a : At} {L : List Int} (h : VI H a L) : a.lt H.length = true := by
  unfold VI at h
  cases a with
  | sn => rfl
  | sl k o m c => obtain ⟨r, l, h1, -⟩ := h; simp [At.lt, lt_of h1]
  | _ => exact h.elim
theorem eqSt_self {fs : List (Nat × Nat)} {hd : List Int} {f : By} : eqSt fs hd hd f f = true := by
  unfold eqSt
  rw [Bool.and_eq_true]
  exact ⟨by simp, List.all_eq_true.2 fun p _ => eqB_self⟩
theorem eqSt_522 {hd : List Int} {f g : By} (h : ∀ x, 2 ≤ x → x < 522 → f x = g x) : eqSt [(2, 8), (10, 512)] hd hd f g = true := by
  unfold eqSt
  rw [Bool.and_eq_true]
  refine ⟨by simp, List.all_eq_true.2 fun p hp => eqB_iff.2 fun x hx => ?_⟩
  simp only [List.mem_cons, List.not_mem_nil, or_false] at hp
  rcases hp with rfl | rfl
  · exact h (2 + x) (by omega) (by have : x < 8 := hx; omega)
  · exact h (10 + x) (by omega) (by have : x < 512 := hx; omega)
theorem dcV_t {p n : Int} {f : By} (h : Alg p n f) : dcV p n f = .tup [.ag [p, n] 522 (dcF f), .i .i64 0] := by
  unfold dcV; rw [if_pos h, if_pos h, if_pos h, oc_t h]
theorem daV_t {p n : Int} {f : By} (h : Cog p n f) : daV p n f = .tup [.ag [p, n] 522 (daF f), .i .i64 0] := by
  unfold daV; rw [if_pos h, if_pos h, if_pos h, oc_t h]
theorem dcV_ex {p n : Int} {f : By} : ∃ a m g, dcV p n f = .tup [.ag [a, m] 522 g, .i .i64 (oc (Alg p n f) 1)] ∧ (Alg p n f → p = a ∧ n = m ∧ dcF f = g) :=
  ⟨_, _, _, rfl, fun h => ⟨(if_pos h).symm, (if_pos h).symm, (if_pos h).symm⟩⟩
theorem daV_ex {p n : Int} {f : By} : ∃ a m g, daV p n f = .tup [.ag [a, m] 522 g, .i .i64 (oc (Cog p n f) 1)] ∧ (Cog p n f → p = a ∧ n = m ∧ daF f = g) :=
  ⟨_, _, _, rfl, fun h => ⟨(if_pos h).symm, (if_pos h).symm, (if_pos h).symm⟩⟩
theorem dgQ_len {n a : Nat} : (dgQ n a).length = 4 := rfl
theorem ffL_len {p n : Int} {f : By} : (ffL p n f).length ≤ 100 := by
  unfold ffL
  split
  · unfold ffQ
    split
    · rw [dgQ_len]; omega
    · simp
  · simp
theorem coV_t {p : Int} {n : Nat} {f v : By} (h : cgQ p n f [v]) : coV p n f v = cpF p n f v := by
  unfold coV; rw [if_pos h, Int.toNat_natCast]
theorem cgQ_1 {p : Int} {n : Nat} {f v : By} (h : Cog p n f) (hv : Vec p n v 0) : cgQ p n f [v] := ⟨h, fun w hw => by rw [List.mem_singleton.1 hw]; exact hv⟩
theorem spl_cp {p : Int} {m : Nat} {f v : By} : spl (fun _ => 0) 0 64 (cpF p m f v) = cpF p m f v := z_spl _ _ fun k hk => by unfold cpF; rw [if_neg (by omega)]
set_option maxRecDepth 100000 in
set_option maxHeartbeats 8000000 in
theorem l_FnCoalgebras_ok (B : Bs P ρ) (E : F_l_FnCoalgebras P ρ) {H : List Blk} {a : At} (hV : CV H a) :
    CallR P ρ 474 [a] H (fun u G => u = .one (.b true) ∧ G = H) := by
  obtain ⟨n0, hn0, hn1⟩ := hV.len
  refine CallR.pure (call_of_q B.fn B.mo E.1 rfl (fun hAr hHp => ?_) (by simp only [List.all_cons, List.all_nil, hV.lt]; rfl)) rfl
  refine ⟨_, l_big_ok B E.2.1 hn0 hV.lt, ?_⟩
  rintro _ H ⟨rfl, rfl⟩
  refine ⟨fun h55 => ?_, fun h55 => ?_⟩
  · skip
    exact ⟨rfl, rfl, Ext.refl⟩
  · skip
    have hC : CB H a := hV.cb hn0 (by have hh := h55; simp at hh; omega)
    refine ⟨_, s_DrawIsCoalgebra_ok B E.2.2.1 hC, ?_⟩
    rintro _ G57 ⟨p, n, f, rfl, hE57⟩
    refine ⟨G57.length + 0, rfl, ?_⟩
    refine ⟨_, _, _, at_k, cputs_2, eqBk_rfl, ?_⟩
    rw [app_set]
    refine .inl ⟨_, _, _, _, at_k, ⟨rfl, by omega⟩, ?_⟩
    refine ⟨_, i_IsCoalgebra_ok B E.2.2.2.1 (p := p) (n := n) (f := f), rfl, ?_⟩
    refine .inl ⟨_, _, _, _, at_k, ⟨rfl, by omega⟩, ?_⟩
    refine ⟨_, s_IsCoalgebra_ok B E.2.2.2.2.1 (p := p) (n := n) (f := f), rfl, ?_⟩
    refine brB_f' (by simp) ?_
    refine ⟨_, s_DrawFirstCoFault_ok B E.2.2.2.2.2.1 (hC.ext (hE57.trans Ext.app)), ?_⟩
    rintro _ G64 ⟨p2, n2, f2, rfl, hE64⟩
    have hb3 := hE64 _ _ (at_k (i := 0))
    have hX64 : Ext H G64 := (hE57.trans Ext.app).trans hE64
    refine ⟨G64.length + 0, rfl, ?_⟩
    refine ⟨_, _, _, at_k, cputs_2, eqBk_rfl, ?_⟩
    rw [app_set]
    refine .inl ⟨_, _, _, _, at_k, ⟨rfl, by omega⟩, ?_⟩
    refine ⟨_, s_FirstCoFault_ok B E.2.2.2.2.2.2.1 (p := p2) (n := n2) (f := f2), ?_⟩
    rintro _ G67 ⟨b67, rfl, hE67, hV67⟩
    refine .inl ⟨_, _, _, _, hE67 _ _ (at_k (i := 0)), ⟨rfl, by omega⟩, ?_⟩
    refine ⟨_, i_FirstCoFault_ok B E.2.2.2.2.2.2.2.1 (p := p2) (n := n2) (f := f2), ?_⟩
    rintro _ G72 ⟨b72, rfl, hE72, hV72⟩
    refine ⟨fun h78 => ?_, fun h78 => ?_⟩
    · replace h78 := bne_t h78
      exact absurd rfl h78
    · replace h78 := bne_f h78
      refine brB_f ?_
      refine brB_f ?_
      refine ⟨_, l_likeInts_ok B E.2.2.2.2.2.2.2.2.1 (L := ffL p2 n2 f2) hV72 (hV67.ext hE72) hV72.lt (hV67.ext hE72).lt ffL_len, ?_⟩
      rintro _ G81 ⟨rfl, rfl⟩
      have hX72 : Ext H G81 := hX64.trans (Ext.app.trans (hE67.trans hE72))
      refine brB_f ?_
      refine brB_f ?_
      refine brB_f ?_
      refine ⟨_, s_DrawCoproductIn_ok B E.2.2.2.2.2.2.2.2.2.1 (hC.ext hX72), ?_⟩
      rintro _ G86 ⟨p3, n3, f3, v3, rfl, hE86⟩
      have hb3' := hE86 _ _ (hE72 _ _ (hE67 _ _ (app_old hb3)))
      have hX86 : Ext H G86 := hX72.trans hE86
      refine ⟨G86.length + 0, rfl, ?_⟩
      refine ⟨G86.length + 1, by simp, ?_⟩
      rw [ap2]
      refine ⟨_, _, _, at_k, cputs_2, eqBk_rfl, ?_⟩
      rw [app_set]
      refine ⟨_, _, _, at_k, cputs_by (by simp) (by omega), eqBk_rfl, ?_⟩
      rw [app_set]
      refine .inl ⟨_, _, _, _, at_k, ⟨rfl, by omega⟩, ?_⟩
      refine ⟨_, _, _, _, v3, at_k, ⟨by simp, by omega⟩, fun x hx => by simp [spl, hx], ?_⟩
      refine ⟨_, s_CoproductIn_ok B E.2.2.2.2.2.2.2.2.2.2.1 (p := p3) (n := n3) (f := f3) (v := v3), rfl, ?_⟩
      generalize hR : coV p3 n3 f3 v3 = R
      generalize hc : oc (cgQ p3 n3 f3 [v3]) 1 = c
      refine ⟨G86.length + 2, by simp, ?_⟩
      rw [as1]
      refine ⟨_, _, _, at_k, cputs_by (by simp) (by omega), eqBk_rfl, ?_⟩
      rw [app_set]
      refine .inl ⟨_, _, _, _, at_k, ⟨rfl, by omega⟩, ?_⟩
      refine ⟨_, _, _, _, v3, at_k, ⟨by simp, by omega⟩, fun x hx => by simp [spl, hx], ?_⟩
      refine ⟨_, i_CoproductIn_ok B E.2.2.2.2.2.2.2.2.2.2.2.1 (p := p3) (n := n3) (f := f3) (v := v3), rfl, ?_⟩
      rw [hR, hc]
      refine ⟨G86.length + 3, by simp, ?_⟩
      rw [as1]
      refine ⟨_, _, _, at_k, cputs_by (by simp) (by omega), eqBk_rfl, ?_⟩
      rw [app_set]
      refine ⟨fun h104 => ?_, fun h104 => ?_⟩
      · replace h104 := bne_t h104
        exact absurd rfl h104
      · replace h104 := bne_f h104
        refine ⟨_, _, _, _, R, at_k, ⟨by simp, by omega⟩, fun x hx => by simp [spl, hx], ?_⟩
        refine brB_f ?_
        refine ⟨_, _, _, _, R, at_k, ⟨by simp, by omega⟩, fun x hx => by simp [spl, hx], ?_⟩
        refine brB_f ?_
        refine brB_f ?_
        refine brB_f' (by rw [eqB_self]; rfl) ?_
        refine .inl ⟨_, _, _, _, at_k, ⟨rfl, by omega⟩, ?_⟩
        refine ⟨_, _, _, _, v3, at_k, ⟨by simp, by omega⟩, fun x hx => by simp [spl, hx], ?_⟩
        refine ⟨_, s_CounitIn_ok B E.2.2.2.2.2.2.2.2.2.2.2.2.1 (p := p3) (n := n3) (f := f3) (v := v3), rfl, ?_⟩
        generalize hU : (if cgQ p3 n3 f3 [v3] then cuV p3 f3 v3 else 0) = U
        rw [hc]
        refine .inl ⟨_, _, _, _, at_k, ⟨rfl, by omega⟩, ?_⟩
        refine ⟨_, _, _, _, v3, at_k, ⟨by simp, by omega⟩, fun x hx => by simp [spl, hx], ?_⟩
        refine ⟨_, i_CounitIn_ok B E.2.2.2.2.2.2.2.2.2.2.2.2.2.1 (p := p3) (n := n3) (f := f3) (v := v3), rfl, ?_⟩
        rw [hU, hc]
        refine ⟨fun h124 => ?_, fun h124 => ?_⟩
        · replace h124 := bne_t h124
          exact absurd rfl h124
        · replace h124 := bne_f h124
          refine brB_f ?_
          refine brB_f ?_
          refine brB_f ?_
          refine ⟨fun h128 => ?_, fun h128 => ?_⟩
          · replace h128 := bne_t h128
            exact absurd rfl h128
          · replace h128 := bne_f h128
            refine ⟨_, s_DrawDualCoalgebra_ok B E.2.2.2.2.2.2.2.2.2.2.2.2.2.2.1 (hC.ext (hX86.trans Ext.app)), ?_⟩
            rintro _ G130 ⟨pa, na, fa, rfl, hE130⟩
            have hk3 := hE130 _ _ (app_old hb3')
            have hk9 := hE130 _ _ (at_k (i := 0))
            have hk10 := hE130 _ _ (at_k (i := 1))
            have hk13 := hE130 _ _ (at_k (i := 3))
            have hX130 : Ext H G130 := (hX86.trans Ext.app).trans hE130
            refine ⟨G130.length + 0, rfl, ?_⟩
            refine ⟨_, _, _, at_k, cputs_2, eqBk_rfl, ?_⟩
            rw [app_set]
            refine .inl ⟨_, _, _, _, at_k, ⟨rfl, by omega⟩, ?_⟩
            refine ⟨_, s_DualCoalgebra_ok B E.2.2.2.2.2.2.2.2.2.2.2.2.2.2.2.1 (p := pa) (n := na) (f := fa), rfl, ?_⟩
            obtain ⟨pd, nd, fd, hd, hdA⟩ := @dcV_ex pa na fa
            generalize hca : oc (Alg pa na fa) 1 = ca at hd
            rw [hd]
            refine ⟨G130.length + 1, by simp, ?_⟩
            rw [as1]
            refine ⟨_, _, _, at_k, cputs_2, eqBk_rfl, ?_⟩
            rw [app_set]
            refine .inl ⟨_, _, _, _, at_k, ⟨rfl, by omega⟩, ?_⟩
            refine ⟨_, i_DualCoalgebra_ok B E.2.2.2.2.2.2.2.2.2.2.2.2.2.2.2.2.1 (p := pa) (n := na) (f := fa), rfl, ?_⟩
            rw [hd]
            refine ⟨G130.length + 2, by simp, ?_⟩
            rw [as1]
            refine ⟨_, _, _, at_k, cputs_2, eqBk_rfl, ?_⟩
            rw [app_set]
            refine ⟨fun h144 => ?_, fun h144 => ?_⟩
            · replace h144 := bne_t h144
              exact absurd rfl h144
            · replace h144 := bne_f h144
              refine .inl ⟨_, _, _, _, at_k, ⟨rfl, by omega⟩, ?_⟩
              refine brB_f ?_
              refine .inl ⟨_, _, _, _, at_k, ⟨rfl, by omega⟩, ?_⟩
              refine brB_f ?_
              refine ⟨true, eqSt_self, ?_⟩
              refine brB_f ?_
              refine brB_f ?_
              refine .inl ⟨_, _, _, _, app_old hk3, ⟨rfl, by omega⟩, ?_⟩
              refine ⟨_, s_DualAlgebra_ok B E.2.2.2.2.2.2.2.2.2.2.2.2.2.2.2.2.2.1 (p := p) (n := n) (f := f), rfl, ?_⟩
              obtain ⟨pe, ne, fe, he, heA⟩ := @daV_ex p n f
              generalize hce : oc (Cog p n f) 1 = ce at he
              rw [he]
              refine ⟨G130.length + 3, by simp, ?_⟩
              rw [as1]
              refine ⟨_, _, _, at_k, cputs_2, eqBk_rfl, ?_⟩
              rw [app_set]
              refine .inl ⟨_, _, _, _, app_old hk3, ⟨rfl, by omega⟩, ?_⟩
              refine ⟨_, i_DualAlgebra_ok B E.2.2.2.2.2.2.2.2.2.2.2.2.2.2.2.2.2.2.1 (p := p) (n := n) (f := f), rfl, ?_⟩
              rw [he]
              refine ⟨G130.length + 4, by simp, ?_⟩
              rw [as1]
              refine ⟨_, _, _, at_k, cputs_2, eqBk_rfl, ?_⟩
              rw [app_set]
              refine ⟨fun h162 => ?_, fun h162 => ?_⟩
              · replace h162 := bne_t h162
                exact absurd rfl h162
              · replace h162 := bne_f h162
                refine .inl ⟨_, _, _, _, at_k, ⟨rfl, by omega⟩, ?_⟩
                refine brB_f ?_
                refine .inl ⟨_, _, _, _, at_k, ⟨rfl, by omega⟩, ?_⟩
                refine brB_f ?_
                refine ⟨true, eqSt_self, ?_⟩
                refine brB_f ?_
                refine brB_f ?_
                refine .inl ⟨_, _, _, _, app_old hk3, ⟨rfl, by omega⟩, ?_⟩
                refine ⟨_, s_IsCocommutative_ok B E.2.2.2.2.2.2.2.2.2.2.2.2.2.2.2.2.2.2.2.1 (p := p) (n := n) (f := f), rfl, ?_⟩
                refine .inl ⟨_, _, _, _, app_old hk3, ⟨rfl, by omega⟩, ?_⟩
                refine ⟨_, i_IsCocommutative_ok B E.2.2.2.2.2.2.2.2.2.2.2.2.2.2.2.2.2.2.2.2.1 (p := p) (n := n) (f := f), rfl, ?_⟩
                refine ⟨fun h180 => ?_, fun h180 => ?_⟩
                · replace h180 := bne_t h180
                  exact absurd rfl h180
                · replace h180 := bne_f h180
                  refine brB_f ?_
                  refine brB_f ?_
                  refine brB_f ?_
                  refine brB_f' (by simp) ?_
                  refine ⟨Unit, (fun (y0 : Unit) => [(0, .one a), (3, .one (.pt (G57.length + 0) 0)), (9, .one (.pt (G86.length + 0) 0)), (10, .one (.pt (G86.length + 1) 0)), (13, .one (.pt (G86.length + 3) 0)), (14, .one (.i .i64 c)), (17, .one (.i .i64 U)), (18, .one (.i .i64 c)), (26, .one (.pt (G130.length + 4) 0)), (27, .one (.i .i64 ce))]), fun (y0 : Unit) (GK0 : List Blk) => (Ext (G130 ++ [⟨false, .by [pa, na] 522 fa⟩, ⟨false, .by [pd, nd] 522 fd⟩, ⟨false, .by [pd, nd] 522 fd⟩, ⟨false, .by [pe, ne] 522 fe⟩, ⟨false, .by [pe, ne] 522 fe⟩]) GK0), ?_, ?_⟩
                  · skip
                    refine ⟨fun h186 => ?_, fun h186 => ?_⟩
                    · replace h186 := eq_of_beq h186
                      have hA : Alg pa na fa := oc_0 (hca.trans h186)
                      obtain ⟨e1, e2, e3⟩ := hdA hA
                      subst e1 e2 e3
                      obtain ⟨na, rfl⟩ : ∃ k : Nat, na = (k : Int) := ⟨na.toNat, by have := hA.1.1.2.1; omega⟩
                      refine .inl ⟨_, _, _, _, at_k, ⟨rfl, by omega⟩, ?_⟩
                      refine ⟨_, i_DualAlgebra_ok B E.2.2.2.2.2.2.2.2.2.2.2.2.2.2.2.2.2.2.1 (p := pa) (n := (na : Int)) (f := dcF fa), rfl, ?_⟩
                      rw [daV_t (dc_cog hA)]
                      refine ⟨_, rfl, ?_⟩
                      refine ⟨_, _, _, get_new, cputs_2, eqBk_rfl, ?_⟩
                      rw [app_set0]
                      refine .inl ⟨_, _, _, _, app_old at_k, ⟨rfl, by omega⟩, ?_⟩
                      refine ⟨_, i_IsCommutative_ok B E.2.2.2.2.2.2.2.2.2.2.2.2.2.2.2.2.2.2.2.2.2.1 (p := pa) (n := (na : Int)) (f := fa), rfl, ?_⟩
                      rw [oc_t hA]
                      refine .inl ⟨_, _, _, _, app_old at_k, ⟨rfl, by omega⟩, ?_⟩
                      refine ⟨_, i_IsCocommutative_ok B E.2.2.2.2.2.2.2.2.2.2.2.2.2.2.2.2.2.2.2.2.1 (p := pa) (n := (na : Int)) (f := dcF fa), rfl, ?_⟩
                      rw [oc_t (dc_cog hA)]
                      refine ⟨fun h204 => ?_, fun h204 => ?_⟩
                      · replace h204 := bne_t h204
                        exact absurd rfl h204
                      · replace h204 := bne_f h204
                        refine .inl ⟨_, _, _, _, get_new, ⟨rfl, by omega⟩, ?_⟩
                        refine brB_f ?_
                        refine .inl ⟨_, _, _, _, app_old at_k, ⟨rfl, by omega⟩, ?_⟩
                        refine brB_f ?_
                        refine ⟨true, eqSt_522 da_dc, ?_⟩
                        refine brB_f ?_
                        refine brB_f ?_
                        refine brB_f ?_
                        refine brB_f ?_
                        refine ⟨fun h213 => ?_, fun h213 => ?_⟩
                        · replace h213 := bne_t h213
                          exact absurd rfl h213
                        · replace h213 := bne_f h213
                          refine brB_f ?_
                          refine brB_f ?_
                          refine ⟨fun h217 => ?_, fun h217 => ?_⟩
                          · replace h217 := bne_t h217
                            exact absurd rfl h217
                          · replace h217 := bne_f h217
                            refine brB_f ?_
                            refine brB_f ?_
                            refine brB_f ?_
                            refine brB_f' (by rw [show decide (Alg pa na fa ∧ AlC fa) = decide (Cog pa na (dcF fa) ∧ CoM (dcF fa)) from decide_eq_decide.2 ⟨fun z => ⟨dc_cog hA, dc_com.1 z.2⟩, fun z => ⟨hA, dc_com.2 z.2⟩⟩]; simp) ?_
                            exact ⟨(), Ext.app, ⟨rfl, rfl, rfl, rfl, rfl, rfl, rfl, rfl, rfl, rfl, trivial⟩⟩
                    · replace h186 := ne_of_beq_false h186
                      exact ⟨(), Ext.refl, ⟨rfl, rfl, rfl, rfl, rfl, rfl, rfl, rfl, rfl, rfl, trivial⟩⟩
                  rintro _ GK0 hK0
                  have hx3 := hK0 _ _ (app_old hk3)
                  have hx9 := hK0 _ _ (app_old hk9)
                  have hx10 := hK0 _ _ (app_old hk10)
                  have hx13 := hK0 _ _ (app_old hk13)
                  have hx26 := hK0 _ _ (at_k (i := 4))
                  have hXK : Ext H GK0 := (hX130.trans Ext.app).trans hK0
                  refine ⟨Unit, (fun (y1 : Unit) => [(0, .one a), (9, .one (.pt (G86.length + 0) 0)), (10, .one (.pt (G86.length + 1) 0)), (13, .one (.pt (G86.length + 3) 0)), (14, .one (.i .i64 c)), (17, .one (.i .i64 U)), (18, .one (.i .i64 c))]), fun (y1 : Unit) (GK1 : List Blk) => (Ext GK0 GK1), ?_, ?_⟩
                  · skip
                    refine ⟨fun h223 => ?_, fun h223 => ?_⟩
                    · replace h223 := eq_of_beq h223
                      have hCg : Cog p n f := oc_0 (hce.trans h223)
                      obtain ⟨e1, e2, e3⟩ := heA hCg
                      subst e1 e2 e3
                      obtain ⟨n, rfl⟩ : ∃ k : Nat, n = (k : Int) := ⟨n.toNat, by have := hCg.1.1.2.1; omega⟩
                      refine .inl ⟨_, _, _, _, hx26, ⟨rfl, by omega⟩, ?_⟩
                      refine ⟨_, i_DualCoalgebra_ok B E.2.2.2.2.2.2.2.2.2.2.2.2.2.2.2.2.1 (p := p) (n := (n : Int)) (f := daF f), rfl, ?_⟩
                      rw [dcV_t (da_alg hCg)]
                      refine ⟨_, rfl, ?_⟩
                      refine ⟨_, _, _, get_new, cputs_2, eqBk_rfl, ?_⟩
                      rw [app_set0]
                      refine ⟨fun h231 => ?_, fun h231 => ?_⟩
                      · replace h231 := bne_t h231
                        exact absurd rfl h231
                      · replace h231 := bne_f h231
                        refine .inl ⟨_, _, _, _, get_new, ⟨rfl, by omega⟩, ?_⟩
                        refine brB_f ?_
                        refine .inl ⟨_, _, _, _, app_old hx3, ⟨rfl, by omega⟩, ?_⟩
                        refine brB_f ?_
                        refine ⟨true, eqSt_522 dc_da, ?_⟩
                        refine brB_f ?_
                        refine brB_f ?_
                        refine .inl ⟨_, _, _, _, app_old hx26, ⟨rfl, by omega⟩, ?_⟩
                        refine brB_f ?_
                        refine ⟨_, i_IsAlgebra_ok B E.2.2.2.2.2.2.2.2.2.2.2.2.2.2.2.2.2.2.2.2.2.2.1 (p := p) (n := (n : Int)) (f := daF f), rfl, ?_⟩
                        rw [decide_eq_true (da_alg hCg)]
                        refine brB_f ?_
                        refine brB_f ?_
                        refine brB_f ?_
                        exact ⟨(), Ext.app, ⟨rfl, rfl, rfl, rfl, rfl, rfl, rfl, trivial⟩⟩
                    · replace h223 := ne_of_beq_false h223
                      exact ⟨(), Ext.refl, ⟨rfl, rfl, rfl, rfl, rfl, rfl, rfl, trivial⟩⟩
                  rintro _ GK1 hK1
                  have hy9 := hK1 _ _ hx9
                  have hy10 := hK1 _ _ hx10
                  have hy13 := hK1 _ _ hx13
                  have hXL : Ext H GK1 := hXK.trans hK1
                  refine ⟨fun h242 => ?_, fun h242 => ?_⟩
                  · replace h242 := bne_t h242
                    have hR0 : R = z0 := by
                      rw [← hR]; unfold coV
                      rw [if_neg fun z => h242 (by rw [← hc]; exact oc_t z)]
                    refine ⟨_, _, _, _, R, hy13, ⟨by simp, by omega⟩, fun x hx => by simp [spl, hx], ?_⟩
                    refine ⟨rfl, ?_, hXL⟩
                    rw [hR0]
                    show Sv.one (.b (eqB 64 z0 fun _ => 0)) = _
                    rw [show eqB 64 z0 (fun _ => 0) = true from eqB_self]
                  · replace h242 := bne_f h242
                    obtain rfl : c = 0 := h242
                    have hq : cgQ p3 n3 f3 [v3] := oc_0 hc
                    obtain ⟨n3, rfl⟩ : ∃ k : Nat, n3 = (k : Int) := ⟨n3.toNat, by have := hq.1.1.1.2.1; omega⟩
                    have hb := AShp.p1 hq.1.1
                    have hp1 : 1 ≤ p3 := by omega
                    have hp256 : p3 ≤ 256 := by omega
                    have hn8 : n3 ≤ 8 := by omega
                    have hCo := hq.1
                    have hv3 : Vec p3 n3 v3 0 := hq.2 v3 (by simp)
                    obtain rfl : U = cuV p3 f3 v3 := by rw [← hU, if_pos hq]
                    obtain rfl : R = cpF p3 n3 f3 v3 := by rw [← hR, coV_t hq]
                    rw [spl_cp] at hy13
                    refine ⟨Nat × By, (fun (y2 : Nat × By) => match y2 with | ⟨k40, w⟩ => [(9, .one (.pt (G86.length + 0) 0)), (10, .one (.pt (G86.length + 1) 0)), (13, .one (.pt (G86.length + 3) 0)), (17, .one (.i .i64 (cuV p3 f3 v3))), (18, .one (.i .i64 0)), (40, .one (.pt k40 0))]), fun (y2 : Nat × By) (GK2 : List Blk) => match y2 with | ⟨k40, w⟩ => (Vec p3 n3 w 0 ∧ GK2[k40]? = some ⟨false, .by [] 8 (spl (fun _ => 0) 0 8 w)⟩ ∧ Ext GK1 GK2), ?_, ?_⟩
                    · skip
                      refine ⟨_, _, hy9, rfl, ?_⟩
                      refine ⟨_, _, hy9, rfl, ?_⟩
                      refine ⟨?_, ?_, trivial⟩
                      · skip
                        refine ⟨_, l_roll_ok B E.2.2.2.2.2.2.2.2.2.2.2.2.2.2.2.2.2.2.2.2.2.2.2.1 (a := a) (z := 9803) (hC.ext hXL), ?_⟩
                        rintro _ Gr ⟨rfl, hEo, hSo⟩
                        refine ⟨⟨kept1 hy9 (hEo _ _ hy9), kept1 hy9 (hEo _ _ hy9), trivial⟩, ?_⟩
                        refine ⟨?_, ?_, trivial⟩
                        · skip
                          refine ⟨_, l_vector9_ok B E.2.2.2.2.2.2.2.2.2.2.2.2.2.2.2.2.2.2.2.2.2.2.2.2.1 (p := p3) (n := n3) hSo hp1 hp256 hn8, ?_⟩
                          rintro _ Gl ⟨w, rfl, hw, hfl, hSl⟩
                          have hg := hfl.get (hEo _ _ hy9) (by have := lt_of hy9; omega)
                          refine ⟨?_, trivial⟩
                          refine ⟨_, rfl, ?_⟩
                          refine ⟨⟨kept1 hg (app_old hg), kept1 hg (app_old hg), trivial⟩, ?_⟩
                          refine ⟨?_, trivial⟩
                          refine ⟨_, _, .by [] 8 (spl (fun _ => 0) 0 8 w), get_new, cputs_by (by simp) (by omega), eqBk_rfl, ?_⟩
                          rw [app_set0]
                          exact ⟨(_, w), ⟨hw, get_new, (hEo.fr' hfl (Nat.le_refl _)).trans Ext.app⟩, ⟨rfl, rfl, rfl, rfl, rfl, rfl, trivial⟩⟩
                        · skip
                          first
                            | (obtain ⟨K, hK⟩ : ∃ K, Gr.length = K := ⟨_, rfl⟩; refine ⟨K, hK, ?_⟩)
                            | (obtain ⟨K, hK⟩ : ∃ K, GK1.length = K := ⟨_, rfl⟩; refine ⟨K, hK, ?_⟩)
                          first
                            | refine ⟨⟨kept1 (hEo _ _ hy9) (app_old (hEo _ _ hy9)), kept1 (hEo _ _ hy9) (app_old (hEo _ _ hy9)), trivial⟩, ?_⟩
                            | refine ⟨⟨kept1 hy9 (app_old hy9), kept1 hy9 (app_old hy9), trivial⟩, ?_⟩
                          refine ⟨?_, trivial⟩
                          first
                            | refine ⟨_, l_vector9_ok B E.2.2.2.2.2.2.2.2.2.2.2.2.2.2.2.2.2.2.2.2.2.2.2.2.1 (p := p3) (n := n3) (hSo.ext Ext.app) hp1 hp256 hn8, ?_⟩
                            | refine ⟨_, l_vector9_ok B E.2.2.2.2.2.2.2.2.2.2.2.2.2.2.2.2.2.2.2.2.2.2.2.2.1 (p := p3) (n := n3) hSo hp1 hp256 hn8, ?_⟩
                          rintro _ Gl ⟨w, rfl, hw, hfl, hSl⟩
                          have hgK : Gl[K]? = some ⟨false, (Zk.by 0 8).bk⟩ := by
                            first
                              | exact hfl.get (by rw [← hK]; exact get_new) (by have := hSo.lt; omega)
                              | exact hfl.get (hEo _ _ (by rw [← hK]; exact get_new)) (by rw [List.length_append]; simp; omega)
                          have hXl : Ext GK1 Gl := by
                            first
                              | exact (hEo.trans Ext.app).fr' hfl (Nat.le_refl _)
                              | exact (Ext.app.trans hEo).fr' hfl (by simp)
                          refine ⟨?_, trivial⟩
                          refine ⟨_, _, .by [] 8 (spl (fun _ => 0) 0 8 w), hgK, cputs_by (by simp) (by omega), eqBk_rfl, ?_⟩
                          exact ⟨(K, w), ⟨hw, set_same hgK, hXl.set (by first | omega | (have := hEo.len; omega))⟩, ⟨rfl, rfl, rfl, rfl, rfl, rfl, trivial⟩⟩
                      · skip
                        first
                          | (obtain ⟨K, hK⟩ : ∃ K, Gr.length = K := ⟨_, rfl⟩; refine ⟨K, hK, ?_⟩)
                          | (obtain ⟨K, hK⟩ : ∃ K, GK1.length = K := ⟨_, rfl⟩; refine ⟨K, hK, ?_⟩)
                        first
                          | refine ⟨⟨kept1 (hEo _ _ hy9) (app_old (hEo _ _ hy9)), kept1 (hEo _ _ hy9) (app_old (hEo _ _ hy9)), trivial⟩, ?_⟩
                          | refine ⟨⟨kept1 hy9 (app_old hy9), kept1 hy9 (app_old hy9), trivial⟩, ?_⟩
                        refine ⟨?_, trivial⟩
                        refine ⟨_, l_roll_ok B E.2.2.2.2.2.2.2.2.2.2.2.2.2.2.2.2.2.2.2.2.2.2.2.1 (a := a) (z := 9803) (hC.ext (hXL.trans Ext.app)), ?_⟩
                        rintro _ Gr ⟨rfl, hEo, hSo⟩
                        refine ⟨⟨kept1 (app_old hy9) (hEo _ _ (app_old hy9)), kept1 (app_old hy9) (hEo _ _ (app_old hy9)), trivial⟩, ?_⟩
                        refine ⟨?_, trivial⟩
                        first
                          | refine ⟨_, l_vector9_ok B E.2.2.2.2.2.2.2.2.2.2.2.2.2.2.2.2.2.2.2.2.2.2.2.2.1 (p := p3) (n := n3) (hSo.ext Ext.app) hp1 hp256 hn8, ?_⟩
                          | refine ⟨_, l_vector9_ok B E.2.2.2.2.2.2.2.2.2.2.2.2.2.2.2.2.2.2.2.2.2.2.2.2.1 (p := p3) (n := n3) hSo hp1 hp256 hn8, ?_⟩
                        rintro _ Gl ⟨w, rfl, hw, hfl, hSl⟩
                        have hgK : Gl[K]? = some ⟨false, (Zk.by 0 8).bk⟩ := by
                          first
                            | exact hfl.get (by rw [← hK]; exact get_new) (by have := hSo.lt; omega)
                            | exact hfl.get (hEo _ _ (by rw [← hK]; exact get_new)) (by rw [List.length_append]; simp; omega)
                        have hXl : Ext GK1 Gl := by
                          first
                            | exact (hEo.trans Ext.app).fr' hfl (Nat.le_refl _)
                            | exact (Ext.app.trans hEo).fr' hfl (by simp)
                        refine ⟨?_, trivial⟩
                        refine ⟨_, _, .by [] 8 (spl (fun _ => 0) 0 8 w), hgK, cputs_by (by simp) (by omega), eqBk_rfl, ?_⟩
                        exact ⟨(K, w), ⟨hw, set_same hgK, hXl.set (by first | omega | (have := hEo.len; omega))⟩, ⟨rfl, rfl, rfl, rfl, rfl, rfl, trivial⟩⟩
                    rintro ⟨k40, w⟩ GK2 ⟨hw, hz40, hE2⟩
                    have hz9 := hE2 _ _ hy9
                    have hz10 := hE2 _ _ hy10
                    have hz13 := hE2 _ _ hy13
                    have hXM : Ext H GK2 := hXL.trans hE2
                    have hqw := cgQ_1 hCo hw
                    have hqp := cgQ_1 hCo (pl9_vec hp1 hp256 hv3 hw)
                    have hu1 := cuV_bd (f := f3) (v := v3) hp1
                    have hu2 := cuV_bd (f := f3) (v := w) hp1
                    refine .inl ⟨_, _, _, _, hz9, ⟨rfl, by omega⟩, ?_⟩
                    refine ⟨_, _, _, _, w, hz40, ⟨by simp, by omega⟩, fun x hx => by simp [spl, hx], ?_⟩
                    refine ⟨_, i_CoproductIn_ok B E.2.2.2.2.2.2.2.2.2.2.2.1 (p := p3) (n := (n3 : Int)) (f := f3) (v := w), rfl, ?_⟩
                    rw [oc_t hqw, coV_t hqw]
                    refine ⟨GK2.length + 0, rfl, ?_⟩
                    refine ⟨_, _, _, at_k, cputs_by (by simp) (by omega), eqBk_rfl, ?_⟩
                    rw [app_set]
                    refine .inl ⟨_, _, _, _, app_old hz9, ⟨rfl, by omega⟩, ?_⟩
                    refine ⟨_, _, _, _, w, app_old hz40, ⟨by simp, by omega⟩, fun x hx => by simp [spl, hx], ?_⟩
                    refine ⟨_, i_CounitIn_ok B E.2.2.2.2.2.2.2.2.2.2.2.2.2.1 (p := p3) (n := (n3 : Int)) (f := f3) (v := w), rfl, ?_⟩
                    rw [if_pos hqw, oc_t hqw]
                    refine .inl ⟨_, _, _, _, app_old hz9, ⟨rfl, by omega⟩, ?_⟩
                    refine ⟨_, _, app_old hz9, rfl, ?_⟩
                    refine ⟨_, _, _, _, v3, app_old hz10, ⟨by simp, by omega⟩, fun x hx => by simp [spl, hx], ?_⟩
                    refine ⟨_, _, _, _, w, app_old hz40, ⟨by simp, by omega⟩, fun x hx => by simp [spl, hx], ?_⟩
                    refine ⟨_, l_plus9_ok B E.2.2.2.2.2.2.2.2.2.2.2.2.2.2.2.2.2.2.2.2.2.2.2.2.2 (p := p3) (v := v3) (w := w) hp1, rfl, ?_⟩
                    rw [show (vec 8 p3 fun y => bz v3 y + bz w y) = pl9 p3 v3 w from rfl]
                    refine ⟨_, i_CoproductIn_ok B E.2.2.2.2.2.2.2.2.2.2.2.1 (p := p3) (n := (n3 : Int)) (f := f3) (v := pl9 p3 v3 w), rfl, ?_⟩
                    rw [oc_t hqp, coV_t hqp]
                    refine ⟨GK2.length + 1, by simp, ?_⟩
                    refine ⟨⟨kept1 (app_old hz40) (app_old (app_old hz40)), kept1 (app_old hz10) (app_old (app_old hz10)), kept1 (app_old hz9) (app_old (app_old hz9)), kept1 (app_old hz9) (app_old (app_old hz9)), trivial⟩, ?_⟩
                    rw [as1]
                    refine ⟨_, _, _, at_k, cputs_by (by simp) (by omega), eqBk_rfl, ?_⟩
                    rw [app_set]
                    refine .inl ⟨_, _, _, _, app_old hz9, ⟨rfl, by omega⟩, ?_⟩
                    refine ⟨_, _, app_old hz9, rfl, ?_⟩
                    refine ⟨_, _, _, _, v3, app_old hz10, ⟨by simp, by omega⟩, fun x hx => by simp [spl, hx], ?_⟩
                    refine ⟨_, _, _, _, w, app_old hz40, ⟨by simp, by omega⟩, fun x hx => by simp [spl, hx], ?_⟩
                    refine ⟨_, l_plus9_ok B E.2.2.2.2.2.2.2.2.2.2.2.2.2.2.2.2.2.2.2.2.2.2.2.2.2 (p := p3) (v := v3) (w := w) hp1, rfl, ?_⟩
                    rw [show (vec 8 p3 fun y => bz v3 y + bz w y) = pl9 p3 v3 w from rfl]
                    refine ⟨_, i_CounitIn_ok B E.2.2.2.2.2.2.2.2.2.2.2.2.2.1 (p := p3) (n := (n3 : Int)) (f := f3) (v := pl9 p3 v3 w), rfl, ?_⟩
                    rw [if_pos hqp, oc_t hqp]
                    refine ⟨fun h287 => ?_, fun h287 => ?_⟩
                    · replace h287 := bne_t h287
                      exact absurd rfl h287
                    · replace h287 := bne_f h287
                      refine brB_f ?_
                      refine brB_f ?_
                      refine ⟨fun h291 => ?_, fun h291 => ?_⟩
                      · replace h291 := bne_t h291
                        exact absurd rfl h291
                      · replace h291 := bne_f h291
                        refine brB_f ?_
                        refine brB_f ?_
                        refine ⟨fun h295 => ?_, fun h295 => ?_⟩
                        · replace h295 := bne_t h295
                          exact absurd rfl h295
                        · replace h295 := bne_f h295
                          refine brB_f ?_
                          refine brB_f ?_
                          refine ⟨fun h299 => ?_, fun h299 => ?_⟩
                          · replace h299 := bne_t h299
                            exact absurd rfl h299
                          · replace h299 := bne_f h299
                            refine brB_f ?_
                            refine brB_f ?_
                            refine ⟨fun h303 => ?_, fun h303 => ?_⟩
                            · replace h303 := bne_t h303
                              exact absurd rfl h303
                            · replace h303 := bne_f h303
                              refine brB_f ?_
                              refine brB_f ?_
                              refine brB_f ?_
                              refine ⟨cuV p3 f3 v3 + cuV p3 f3 w, w64_id (cuV p3 f3 v3 + cuV p3 f3 w) (by omega) (by omega), ?_⟩
                              refine brB_f ?_
                              refine brB_f ?_
                              refine ⟨_, _, app_old hz9, rfl, ?_⟩
                              refine brB_f ?_
                              refine ⟨by omega, (cuV p3 f3 v3 + cuV p3 f3 w) % p3, Int.tmod_eq_emod_of_nonneg (by omega), ?_⟩
                              refine brB_f ?_
                              refine brB_f ?_
                              refine ⟨fun h312 => ?_, fun h312 => ?_⟩
                              · replace h312 := bne_t h312
                                exact absurd (cuV_pl hp1 hp256) h312
                              · replace h312 := bne_f h312
                                refine ⟨Unit, (fun a9 a10 a13 a41 a45 (i0 : Nat) (x0 : Unit) => [(9, a9), (10, a10), (13, a13), (41, a41), (45, a45), (49, .one (.i .i64 ((i0 : Nat) : Int)))]) _ _ _ _ _ , fun (i0 : Nat) (x0 : Unit) (G0 : List Blk) => (G0 = GK2 ++ [⟨false, .by [] 64 (spl (fun _ => 0) 0 64 (cpF p3 n3 f3 w))⟩, ⟨false, .by [] 64 (spl (fun _ => 0) 0 64 (cpF p3 n3 f3 (pl9 p3 v3 w)))⟩]), 8, ⟨(), rfl, ⟨rfl, rfl, rfl, rfl, rfl, rfl, trivial⟩⟩, ?_⟩
                                rintro i0 _ G0 hi0 rfl
                                refine ⟨fun h314 => ?_, fun h314 => ?_⟩
                                · replace h314 := of_decide_eq_true h314
                                  refine ⟨i0, _, rfl, by omega, rfl, ?_⟩
                                  refine ⟨_, _, _, _, sh (cpF p3 n3 f3 (pl9 p3 v3 w)) (i0 * 8), at_k, ⟨by simp <;> omega, by omega⟩, fun x hx => by rw [spl_cp]; show cpF _ _ _ _ _ = cpF _ _ _ _ _; congr 1; omega, ?_⟩
                                  refine ⟨_, _, app_old hz9, rfl, ?_⟩
                                  refine ⟨i0, _, rfl, by omega, rfl, ?_⟩
                                  refine ⟨_, _, _, _, sh (cpF p3 n3 f3 v3) (i0 * 8), app_old hz13, ⟨by simp <;> omega, by omega⟩, fun x hx => by show cpF _ _ _ _ _ = cpF _ _ _ _ _; congr 1; omega, ?_⟩
                                  refine ⟨i0, _, rfl, by omega, rfl, ?_⟩
                                  refine ⟨_, _, _, _, sh (cpF p3 n3 f3 w) (i0 * 8), at_k, ⟨by simp <;> omega, by omega⟩, fun x hx => by rw [spl_cp]; show cpF _ _ _ _ _ = cpF _ _ _ _ _; congr 1; omega, ?_⟩
                                  refine ⟨_, l_plus9_ok B E.2.2.2.2.2.2.2.2.2.2.2.2.2.2.2.2.2.2.2.2.2.2.2.2.2 (p := p3) (v := sh (cpF p3 n3 f3 v3) (i0 * 8)) (w := sh (cpF p3 n3 f3 w) (i0 * 8)) hp1, rfl, ?_⟩
                                  refine brB_f' (by rw [show eqB 8 (sh (cpF p3 n3 f3 (pl9 p3 v3 w)) (i0 * 8)) (vec 8 p3 fun y => bz (sh (cpF p3 n3 f3 v3) (i0 * 8)) y + bz (sh (cpF p3 n3 f3 w) (i0 * 8)) y) = true from eqB_iff.2 fun y hy => cpF_pl hp1 hp256 hn8 (by omega) hy]; rfl) ?_
                                  refine ⟨((i0 + 1 : Nat) : Int), w64_id _ (by omega) (by omega), ?_⟩
                                  exact ⟨by omega, (), rfl, ⟨rfl, rfl, rfl, rfl, rfl, rfl, trivial⟩⟩
                                · replace h314 := of_decide_eq_false h314
                                  have e0 : 8 = i0 := by omega
                                  subst e0
                                  refine ⟨GK2.length + 2, by simp, ?_⟩
                                  rw [as1]
                                  refine ⟨_, _, _, at_k, cputs_by (by simp) (by omega), eqBk_rfl, ?_⟩
                                  rw [app_set]
                                  refine ⟨Unit, (fun a9 a10 a13 a50 (i1 : Nat) (x1 : Unit) => [(9, a9), (10, a10), (13, a13), (50, a50), (51, .one (.i .i64 ((i1 : Nat) : Int)))]) _ _ _ _ , fun (i1 : Nat) (x1 : Unit) (G1 : List Blk) => (∃ u, G1 = GK2 ++ [⟨false, .by [] 64 (spl (fun _ => 0) 0 64 (cpF p3 n3 f3 w))⟩, ⟨false, .by [] 64 (spl (fun _ => 0) 0 64 (cpF p3 n3 f3 (pl9 p3 v3 w)))⟩, ⟨false, .by [] 8 u⟩] ∧ ∀ x, x < 8 → u x = if x < i1 then v3 x else 0), n3, ⟨(), ⟨_, rfl, fun x hx => by simp [spl]⟩, ⟨rfl, rfl, rfl, rfl, rfl, trivial⟩⟩, ?_⟩
                                  rintro i1 _ G1 hi1 ⟨u1, rfl, hu⟩
                                  refine ⟨_, _, app_old hz9, rfl, ?_⟩
                                  refine ⟨fun h334 => ?_, fun h334 => ?_⟩
                                  · replace h334 := of_decide_eq_true h334
                                    refine ⟨Unit, (fun a9 a10 a13 a50 a51 (i2 : Nat) (x2 : Unit) => [(9, a9), (10, a10), (13, a13), (50, a50), (51, a51), (52, .one (.i .i64 (sm i2 fun j => bz f3 (2 + j) * bz (cpF p3 n3 f3 v3) (j * 8 + i1)))), (53, .one (.i .i64 ((i2 : Nat) : Int)))]) _ _ _ _ _ , fun (i2 : Nat) (x2 : Unit) (G2 : List Blk) => (G2 = GK2 ++ [⟨false, .by [] 64 (spl (fun _ => 0) 0 64 (cpF p3 n3 f3 w))⟩, ⟨false, .by [] 64 (spl (fun _ => 0) 0 64 (cpF p3 n3 f3 (pl9 p3 v3 w)))⟩, ⟨false, .by [] 8 u1⟩]), n3, ⟨(), rfl, ⟨rfl, rfl, rfl, rfl, rfl, rfl, rfl, trivial⟩⟩, ?_⟩
                                    rintro i2 _ G2 hi2 rfl
                                    have q2 := bz2 f3 (cpF p3 n3 f3 v3) (2 + i2) (i2 * 8 + i1)
                                    have q3 := sm_bd (n := i2) (x := fun j => bz f3 (2 + j) * bz (cpF p3 n3 f3 v3) (j * 8 + i1)) (A := 65025) fun k _ => bz2 f3 _ _ _
                                    refine ⟨_, _, app_old hz9, rfl, ?_⟩
                                    refine ⟨fun h340 => ?_, fun h340 => ?_⟩
                                    · replace h340 := of_decide_eq_true h340
                                      refine ⟨i2, _, rfl, by omega, rfl, ?_⟩
                                      refine ⟨_, _, app_old hz9, cat_bq (2 + i2) (by omega) (by simp <;> omega) (by omega), ?_⟩
                                      refine ⟨i2, _, rfl, by omega, rfl, ?_⟩
                                      refine ⟨i1, _, rfl, by omega, rfl, ?_⟩
                                      refine ⟨_, _, app_old hz13, cat_bq (i2 * 8 + i1) (by omega) (by simp <;> omega) (by omega), ?_⟩
                                      refine ⟨bz f3 (2 + i2) * bz (cpF p3 n3 f3 v3) (i2 * 8 + i1), w64_id (bz f3 (2 + i2) * bz (cpF p3 n3 f3 v3) (i2 * 8 + i1)) (by omega) (by omega), ?_⟩
                                      refine ⟨_, w64_id (sm i2 (fun j => bz f3 (2 + j) * bz (cpF p3 n3 f3 v3) (j * 8 + i1)) + bz f3 (2 + i2) * bz (cpF p3 n3 f3 v3) (i2 * 8 + i1)) (by omega) (by omega), ?_⟩
                                      refine ⟨((i2 + 1 : Nat) : Int), w64_id _ (by omega) (by omega), ?_⟩
                                      exact ⟨by omega, (), rfl, ⟨rfl, rfl, rfl, rfl, rfl, rfl, rfl, trivial⟩⟩
                                    · replace h340 := of_decide_eq_false h340
                                      have e2 : n3 = i2 := by omega
                                      subst e2
                                      refine ⟨_, _, app_old hz9, rfl, ?_⟩
                                      refine ⟨by omega, (sm n3 fun j => bz f3 (2 + j) * bz (cpF p3 n3 f3 v3) (j * 8 + i1)) % p3, Int.tmod_eq_emod_of_nonneg q3.1, ?_⟩
                                      refine ⟨i1, _, rfl, by omega, rfl, ?_⟩
                                      refine ⟨_, _, _, at_k, cput_u (by simp <;> omega) (by omega), eqBk_rfl, ?_⟩
                                      rw [app_set]
                                      refine ⟨((i1 + 1 : Nat) : Int), w64_id _ (by omega) (by omega), ?_⟩
                                      refine ⟨by omega, (), ?_, ⟨rfl, rfl, rfl, rfl, rfl, trivial⟩⟩
                                      refine ⟨_, rfl, fun x hx => ?_⟩
                                      by_cases e : x = i1
                                      · subst e
                                        rw [show 0 + x * 1 = x by omega, upd_same, if_pos (by omega)]
                                        exact cu_back hCo hv3 (by omega)
                                      · rw [upd_ne _ _ _ _ (by omega), hu x hx]
                                        exact ifc (by omega)
                                  · replace h334 := of_decide_eq_false h334
                                    have e1 : n3 = i1 := by omega
                                    subst e1
                                    refine ⟨_, _, _, _, v3, at_k, ⟨by simp, by omega⟩, fun x hx => ?_, ?_⟩
                                    · rw [Nat.zero_add, hu x hx]
                                      split
                                      · rfl
                                      · have := (hv3 x hx).2 (by omega)
                                        rw [Nat.zero_add] at this
                                        exact bz_eq0.1 this
                                    refine ⟨_, _, _, _, v3, app_old hz10, ⟨by simp, by omega⟩, fun x hx => by simp [spl, hx], ?_⟩
                                    refine ⟨rfl, ?_, hXM.trans Ext.app⟩
                                    show Sv.one (.b (eqB 8 v3 v3)) = _
                                    rw [eqB_self]

end Hf
