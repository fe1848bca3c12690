/- Contracts of the functions that the law reaches. -/
import Derived.Test.YtmelbommnopmaaaGreatC1
set_option linter.unusedVariables false
set_option linter.unusedSimpArgs false
namespace Hf
open Go Classical
variable {P : Program} {ρ : Nat → FuncId}
theorem bz_own {f g : By} {y : Nat} (h : y < 8) : bz (sh (spl f 0 8 g) 0) y = bz g y := by
  rw [sh_zero]; simp only [bz, spl]; rw [if_pos (by omega)]; rfl
theorem ctu_bd {n : Nat} {f v : By} : 0 ≤ ctu n f v ∧ ctu n f v ≤ n * 65025 := sm_bd fun k _ => bz2 f v _ _

theorem s_l01Zero_ok (B : Bs P ρ) (E : E_s_l01Zero P ρ) {v : By} :
    CallOK P ρ 101 [.ag [] 8 v] [] (.one (.b (eqB 8 v fun _ => 0))) [] := by
  refine call_of_vc B.fn B.mo E rfl rfl ?_
  refine ⟨0, rfl, ?_⟩
  refine ⟨⟨by first | omega | (simp <;> omega), by first | omega | (simp <;> omega)⟩, ?_⟩
  exact ⟨rfl, [], rfl, rfl, trivial, rfl, rfl⟩

theorem s_l03Coproduct_ok (B : Bs P ρ) (E : E_s_l03Coproduct P ρ) {n : Nat} {p : Int} {f v : By} (hp : 1 ≤ p) (hp2 : p ≤ 256) (hn : n ≤ 8) :
    CallOK P ρ 54 [.ag [p, (n : Int)] 1106 f, .ag [] 8 v] [] (.one (.ag [] 64 (vec 64 p (cop n f 530 v)))) [] := by
  refine call_of_vc B.fn B.mo E.1 rfl rfl ?_
  refine ⟨0, rfl, ?_⟩
  refine ⟨1, rfl, ?_⟩
  refine ⟨2, rfl, ?_⟩
  refine ⟨3, rfl, ?_⟩
  refine ⟨⟨rfl, by first | omega | (simp <;> omega), by first | omega | (simp <;> omega)⟩, ?_⟩   -- sta ['.t', 5] ['.t', 8] 64
  refine .inl ⟨(fun b0 b1 b2 i0 => St.mk [(2, .one (.pt 0 0)), (3, .one (.pt 1 0)), (4, .one (.pt 2 0)), (5, .one (.pt 3 0)), (6, .one (.i .i64 ((i0 : Nat) : Int)))] [b0, b1, b2, Blk.mk false (.by [] 64 (vec 64 p fun y => if y / 8 < n then sm i0 fun i => bz v i * bz f (530 + i * 64 + y) else 0))]) _ _ _ , fun i0 => True, n, trivial, ⟨⟨rfl, rfl, rfl, rfl, rfl, trivial⟩, ⟨rfl, rfl, rfl, ?_, trivial⟩, rfl⟩, fun i0 hi0 _ => ?_⟩
  · refine blk_by ?_
    rw [z_sta]
    exact vec_zero fun k hk => by simp [sm]
  have q0 := bz_nn v i0
  have q1 := bz_le v i0
  refine ⟨fun h12 => ?_, fun h12 => ?_⟩
  · replace h12 := of_decide_eq_true h12
    refine .inl ⟨(fun a6 b0 b1 b2 i1 => St.mk [(2, .one (.pt 0 0)), (3, .one (.pt 1 0)), (4, .one (.pt 2 0)), (5, .one (.pt 3 0)), (6, a6), (7, .one (.i .i64 ((i1 : Nat) : Int)))] [b0, b1, b2, Blk.mk false (.by [] 64 (vec 64 p fun y => (if y / 8 < n then sm i0 fun i => bz v i * bz f (530 + i * 64 + y) else 0) + if y / 8 < i1 then bz v i0 * bz f (530 + i0 * 64 + y) else 0))]) _ _ _ _ , fun i1 => True, n, trivial, ⟨⟨rfl, rfl, rfl, rfl, rfl, rfl, trivial⟩, ⟨rfl, rfl, rfl, ?_, trivial⟩, rfl⟩, fun i1 hi1 _ => ?_⟩
    · refine blk_by (vec_congr fun y _ => cg_of_eq ?_)
      simp
    refine ⟨fun h19 => ?_, fun h19 => ?_⟩
    · replace h19 := of_decide_eq_true h19
      refine brB_t ?_
      refine ⟨i0, i0, rfl, by omega, by omega, ?_⟩
      refine brB_t ?_
      refine ⟨⟨by first | omega | (simp <;> omega), by first | omega | (simp <;> omega)⟩, ?_⟩
      refine brB_t ?_
      refine brB_t ?_
      refine ⟨fun h24 => ?_, fun h24 => ?_⟩
      · replace h24 := bne_t h24
        refine ⟨i1, i1 * 8, rfl, by omega, by omega, ?_⟩
        refine ⟨⟨by first | omega | (simp <;> omega), by first | omega | (simp <;> omega)⟩, ?_⟩
        refine ⟨i0, 530 + i0 * 64, rfl, by omega, by omega, ?_⟩
        refine ⟨i1, 530 + i0 * 64 + i1 * 8, rfl, by omega, by omega, ?_⟩
        refine ⟨⟨by first | omega | (simp <;> omega), by first | omega | (simp <;> omega)⟩, ?_⟩
        refine ⟨i0, i0, rfl, by omega, by omega, ?_⟩
        refine ⟨⟨by first | omega | (simp <;> omega), by first | omega | (simp <;> omega)⟩, ?_⟩
        refine ⟨4, [], _, _, _, _, [_, _, _, _], rfl, s_l01Add_ok B E.2 (k := bz v i0) hp (by omega) (by omega) (by omega), rfl, trivial, rfl, rfl, rfl, ?_⟩
        refine ⟨i1, i1 * 8, rfl, by omega, by omega, ?_⟩
        refine ⟨⟨rfl, by first | omega | (simp <;> omega), by first | omega | (simp <;> omega)⟩, ?_⟩   -- sta ['.t', 44] ['.t', 43] 8
        refine ⟨((i1 + 1 : Nat) : Int), w64_id _ (by omega) (by omega), ?_⟩
        refine ⟨by omega, trivial, ⟨rfl, rfl, rfl, rfl, rfl, rfl, trivial⟩, ⟨rfl, rfl, rfl, ?_, trivial⟩, rfl⟩
        refine blk_by ?_
        rw [spl_plsN, pl_vec hp hp2 (by omega)]
        refine vec_congr fun y hy => cg_of_eq ?_
        rw [Int.add_assoc]
        congr 1
        by_cases e1 : i1 * 8 ≤ y ∧ y < i1 * 8 + 8
        · rw [if_pos (by omega), if_neg (by omega), if_pos e1, bz_sh, Int.zero_add, show 530 + i0 * 64 + i1 * 8 + (y - i1 * 8) = 530 + i0 * 64 + y by omega]
        · rw [if_neg e1, Int.add_zero]
          by_cases e2 : y / 8 < i1
          · rw [if_pos (by omega), if_pos e2]
          · rw [if_neg (by omega), if_neg e2]
      · replace h24 := bne_f h24
        refine ⟨((i0 + 1 : Nat) : Int), w64_id _ (by omega) (by omega), ?_⟩
        refine ⟨by omega, trivial, ⟨rfl, rfl, rfl, rfl, rfl, trivial⟩, ⟨rfl, rfl, rfl, ?_, trivial⟩, rfl⟩
        refine blk_by (vec_congr fun y hy => cg_of_eq ?_)
        simp only [z0_of h24, Int.zero_mul, sm, Int.add_zero, ite_self]
    · replace h19 := of_decide_eq_false h19
      have e1 : n = i1 := by omega
      subst e1
      refine brB_f ?_
      refine brB_f ?_
      refine brB_f ?_
      refine brB_f ?_
      refine brB_f ?_
      refine ⟨((i0 + 1 : Nat) : Int), w64_id _ (by omega) (by omega), ?_⟩
      refine ⟨by omega, trivial, ⟨rfl, rfl, rfl, rfl, rfl, trivial⟩, ⟨rfl, rfl, rfl, ?_, trivial⟩, rfl⟩
      refine blk_by (vec_congr fun y hy => cg_of_eq ?_)
      by_cases e1 : y / 8 < n
      · rw [if_pos e1, if_pos e1, if_pos e1]; rfl
      · rw [if_neg e1, if_neg e1, if_neg e1]; rfl
  · replace h12 := of_decide_eq_false h12
    have e0 : n = i0 := by omega
    subst e0
    refine ⟨⟨by first | omega | (simp <;> omega), by first | omega | (simp <;> omega)⟩, ?_⟩
    refine ⟨⟨rfl, by first | omega | (simp <;> omega), by first | omega | (simp <;> omega)⟩, ?_⟩   -- sta ['.t', 4] ['.t', 45] 64
    refine ⟨rfl, ⟨by first | omega | (simp <;> omega), by first | omega | (simp <;> omega)⟩, [], ?_, rfl, trivial, rfl, rfl⟩
    exact one_ag (out_vec.trans rfl)

theorem s_l03Counit_ok (B : Bs P ρ) (E : E_s_l03Counit P ρ) {n : Nat} {p : Int} {f v : By} (hp : 1 ≤ p) (hp2 : p ≤ 256) (hn : n ≤ 8) :
    CallOK P ρ 79 [.ag [p, (n : Int)] 1106 f, .ag [] 8 v] [] (.one (.i .i64 (ctu n f v % p))) [] := by
  refine call_of_vc B.fn B.mo E rfl rfl ?_
  refine ⟨0, rfl, ?_⟩
  refine ⟨1, rfl, ?_⟩
  refine .inl ⟨(fun b0 b1 i0 => St.mk [(2, .one (.pt 0 0)), (3, .one (.pt 1 0)), (5, .one (.i .i64 (ctu i0 f v))), (6, .one (.i .i64 ((i0 : Nat) : Int)))] [b0, b1]) _ _ , fun i0 => True, n, trivial, ⟨⟨rfl, rfl, rfl, rfl, trivial⟩, ⟨rfl, rfl, trivial⟩, rfl⟩, fun i0 hi0 _ => ?_⟩
  have q1 := bz2 v f i0 (522 + i0)
  have q2 := ctu_bd (n := i0) (f := f) (v := v)
  refine ⟨fun h10 => ?_, fun h10 => ?_⟩
  · replace h10 := of_decide_eq_true h10
    refine ⟨i0, i0, rfl, by omega, by omega, ?_⟩
    refine ⟨⟨by first | omega | (simp <;> omega), by first | omega | (simp <;> omega)⟩, ?_⟩
    refine ⟨i0, 522 + i0, rfl, by omega, by omega, ?_⟩
    refine ⟨⟨by first | omega | (simp <;> omega), by first | omega | (simp <;> omega)⟩, ?_⟩
    refine ⟨bz v i0 * bz f (522 + i0), w64_id (bz v i0 * bz f (522 + i0)) (by omega) (by omega), ?_⟩
    refine ⟨ctu (i0 + 1) f v, ?_, ?_⟩
    · show w64 (ctu i0 f v + bz v i0 * bz f (522 + i0)) = ctu i0 f v + bz f (522 + i0) * bz v i0
      rw [Int.mul_comm (bz f (522 + i0))]
      exact w64_id _ (by omega) (by omega)
    refine ⟨((i0 + 1 : Nat) : Int), w64_id _ (by omega) (by omega), ?_⟩
    exact ⟨by omega, trivial, ⟨rfl, rfl, rfl, rfl, trivial⟩, ⟨rfl, rfl, trivial⟩, rfl⟩
  · replace h10 := of_decide_eq_false h10
    have e0 : n = i0 := by omega
    subst e0
    refine ⟨by omega, ctu n f v % p, Int.tmod_eq_emod_of_nonneg ctu_bd.1, ?_⟩
    exact ⟨rfl, [], rfl, rfl, trivial, rfl, rfl⟩

/-- one share of a product of tables -/
def tr (n : Nat) (f fa fb : By) (a b z : Nat) : Int := mu f a b (z / 8) * prd n f 10 (sh fa (a * 8)) (sh fb (b * 8)) (z % 8)
def trs (n : Nat) (f fa fb : By) (z : Nat) : Int := sm n fun a => sm n fun b => tr n f fa fb a b z
theorem trs_eq {n : Nat} {f fa fb : By} {oa ob z : Nat} : trs n f (sh fa oa) (sh fb ob) z = tns n f fa fb oa ob z := by
  simp only [trs, tr, tns, sh_sh]
theorem row0 {p k : Int} {X : Nat → Int} (hp : 1 ≤ p) (hp2 : p ≤ 256) (h : ∀ x, x < 8 → vec 8 p X x = 0) {y : Nat} (hy : y < 8) : cg p (k * X y) 0 := by
  have h1 := cg_vec (N := 8) (x := X) hp hp2 hy
  have h2 : bz (vec 8 p X) y = 0 := z0_of (h y hy)
  rw [h2] at h1
  exact (cg_mul rfl h1.symm).trans (cg_of_eq (Int.mul_zero k))

theorem s_l03Pairs_ok (B : Bs P ρ) (E : E_s_l03Pairs P ρ) {n : Nat} {p : Int} {f fa fb : By} (h : HShp p n f) (hp : 1 ≤ p) (hp2 : p ≤ 256) (hn : n ≤ 8) :
    CallOK P ρ 78 [.ag [p, (n : Int)] 1106 f, .ag [] 64 fa, .ag [] 64 fb] [] (.one (.ag [] 64 (vec 64 p (trs n f fa fb)))) [] := by
  refine call_of_vc B.fn B.mo E.1 rfl rfl ?_
  refine ⟨0, rfl, ?_⟩
  refine ⟨1, rfl, ?_⟩
  refine ⟨2, rfl, ?_⟩
  refine ⟨3, rfl, ?_⟩
  refine ⟨4, rfl, ?_⟩
  refine ⟨⟨rfl, by first | omega | (simp <;> omega), by first | omega | (simp <;> omega)⟩, ?_⟩   -- sta ['.t', 9] ['.t', 19] 64
  refine .inl ⟨(fun a7 a8 b0 b1 b2 b3 i0 => St.mk [(3, .one (.pt 0 0)), (4, .one (.pt 1 0)), (5, .one (.pt 2 0)), (6, .one (.pt 3 0)), (7, a7), (8, a8), (9, .one (.pt 4 0)), (10, .one (.i .i64 ((i0 : Nat) : Int)))] [b0, b1, b2, b3, Blk.mk false (.by [] 64 (vec 64 p fun z => sm i0 fun a => sm n fun b => tr n f fa fb a b z))]) _ _ _ _ _ _ , fun i0 => True, n, trivial, ⟨⟨rfl, rfl, rfl, rfl, rfl, rfl, rfl, rfl, trivial⟩, ⟨rfl, rfl, rfl, rfl, ?_, trivial⟩, rfl⟩, fun i0 hi0 _ => ?_⟩
  · refine blk_by ?_
    rw [z_sta]
    exact vec_zero fun k hk => rfl
  refine ⟨fun h22 => ?_, fun h22 => ?_⟩
  · replace h22 := of_decide_eq_true h22
    refine .inl ⟨(fun a7 a8 a10 b0 b1 b2 b3 i1 => St.mk [(3, .one (.pt 0 0)), (4, .one (.pt 1 0)), (5, .one (.pt 2 0)), (6, .one (.pt 3 0)), (7, a7), (8, a8), (9, .one (.pt 4 0)), (10, a10), (11, .one (.i .i64 ((i1 : Nat) : Int)))] [b0, b1, b2, b3, Blk.mk false (.by [] 64 (vec 64 p fun z => sm i0 (fun a => sm n fun b => tr n f fa fb a b z) + sm i1 fun b => tr n f fa fb i0 b z))]) _ _ _ _ _ _ _ , fun i1 => True, n, trivial, ⟨⟨rfl, rfl, rfl, rfl, rfl, rfl, rfl, rfl, rfl, trivial⟩, ⟨rfl, rfl, rfl, rfl, ?_, trivial⟩, rfl⟩, fun i1 hi1 _ => ?_⟩
    · refine blk_by (vec_congr fun y _ => cg_of_eq ?_)
      simp only [sm, Int.add_zero]
    refine ⟨fun h27 => ?_, fun h27 => ?_⟩
    · replace h27 := of_decide_eq_true h27
      refine ⟨5, [], _, _, _, _, [_, _, _, _, _], rfl, s_l03Algebra_ok B E.2.1 , rfl, trivial, rfl, rfl, rfl, ?_⟩
      refine ⟨i0, i0 * 8, rfl, by omega, by omega, ?_⟩
      refine ⟨⟨by first | omega | (simp <;> omega), by first | omega | (simp <;> omega)⟩, ?_⟩
      refine ⟨i1, i1 * 8, rfl, by omega, by omega, ?_⟩
      refine ⟨⟨by first | omega | (simp <;> omega), by first | omega | (simp <;> omega)⟩, ?_⟩
      refine ⟨5, [], _, _, _, _, [_, _, _, _, _], rfl, s_l01Times_ok B E.2.2.1 hp hp2 hn, rfl, trivial, rfl, rfl, rfl, ?_⟩
      refine ⟨5, rfl, ?_⟩
      refine ⟨⟨rfl, by first | omega | (simp <;> omega), by first | omega | (simp <;> omega)⟩, ?_⟩   -- sta ['.t', 12] ['.t', 38] 8
      refine ⟨⟨by first | omega | (simp <;> omega), by first | omega | (simp <;> omega)⟩, ?_⟩
      refine .inl ⟨6, [], _, _, _, _, [_, _, _, _, _, _], rfl, s_l01Zero_ok B E.2.2.2.1 , rfl, trivial, rfl, rfl, ?_⟩
      refine ⟨fun h40 => ?_, fun h40 => ?_⟩
      · skip
        have z40 := eqB_iff.1 h40
        refine ⟨((i1 + 1 : Nat) : Int), w64_id _ (by omega) (by omega), ?_⟩
        refine ⟨by omega, trivial, ⟨rfl, rfl, rfl, rfl, rfl, rfl, rfl, rfl, rfl, trivial⟩, ⟨rfl, rfl, rfl, rfl, ?_, trivial⟩, rfl⟩
        refine blk_by (vec_congr fun z hz => cg_add rfl ?_)
        refine cg.symm ((cg_of_eq (Int.add_zero _).symm).trans (cg_add rfl (row0 hp hp2 (fun x hx => ?_) (Nat.mod_lt _ (by omega))).symm))
        have := z40 x hx
        rw [sh_zero, z_spl _ _ (fun _ h => vec_out h)] at this
        exact this
      · skip
        refine .inl ⟨(fun a7 a8 a10 a11 b0 b1 b2 b3 i2 => St.mk [(3, .one (.pt 0 0)), (4, .one (.pt 1 0)), (5, .one (.pt 2 0)), (6, .one (.pt 3 0)), (7, a7), (8, a8), (9, .one (.pt 4 0)), (10, a10), (11, a11), (12, .one (.pt 5 0)), (13, .one (.i .i64 ((i2 : Nat) : Int)))] [b0, b1, b2, b3, Blk.mk false (.by [] 64 (vec 64 p fun z => (sm i0 (fun a => sm n fun b => tr n f fa fb a b z) + sm i1 fun b => tr n f fa fb i0 b z) + if z / 8 < i2 then tr n f fa fb i0 i1 z else 0)), Blk.mk false (.by [] 8 (vec 8 p (prd n f 10 (sh fa (i0 * 8)) (sh fb (i1 * 8)))))]) _ _ _ _ _ _ _ _ , fun i2 => True, n, trivial, ⟨⟨rfl, rfl, rfl, rfl, rfl, rfl, rfl, rfl, rfl, rfl, rfl, trivial⟩, ⟨rfl, rfl, rfl, rfl, ?_, ?_, trivial⟩, rfl⟩, fun i2 hi2 _ => ?_⟩
        · refine blk_by (vec_congr fun y _ => cg_of_eq ?_)
          simp
        · exact blk_by (z_spl _ _ fun _ h => vec_out h).symm
        have q0 := bz_nn f (10 + i0 * 64 + i1 * 8 + i2)
        have q1 := bz_le f (10 + i0 * 64 + i1 * 8 + i2)
        refine ⟨fun h43 => ?_, fun h43 => ?_⟩
        · replace h43 := of_decide_eq_true h43
          refine ⟨i0, 10 + i0 * 64, rfl, by omega, by omega, ?_⟩
          refine ⟨i1, 10 + i0 * 64 + i1 * 8, rfl, by omega, by omega, ?_⟩
          refine ⟨i2, 10 + i0 * 64 + i1 * 8 + i2, rfl, by omega, by omega, ?_⟩
          refine ⟨⟨by first | omega | (simp <;> omega), by first | omega | (simp <;> omega)⟩, ?_⟩
          refine ⟨fun h55 => ?_, fun h55 => ?_⟩
          · replace h55 := bne_t h55
            refine ⟨i2, i2 * 8, rfl, by omega, by omega, ?_⟩
            refine ⟨⟨by first | omega | (simp <;> omega), by first | omega | (simp <;> omega)⟩, ?_⟩
            refine ⟨⟨by first | omega | (simp <;> omega), by first | omega | (simp <;> omega)⟩, ?_⟩
            refine ⟨6, [], _, _, _, _, [_, _, _, _, _, _], rfl, s_l01Add_ok B E.2.2.2.2 (k := bz f (10 + i0 * 64 + i1 * 8 + i2)) hp (by omega) (by omega) (by omega), rfl, trivial, rfl, rfl, rfl, ?_⟩
            refine ⟨i2, i2 * 8, rfl, by omega, by omega, ?_⟩
            refine ⟨⟨rfl, by first | omega | (simp <;> omega), by first | omega | (simp <;> omega)⟩, ?_⟩   -- sta ['.t', 65] ['.t', 64] 8
            refine ⟨((i2 + 1 : Nat) : Int), w64_id _ (by omega) (by omega), ?_⟩
            refine ⟨by omega, trivial, ⟨rfl, rfl, rfl, rfl, rfl, rfl, rfl, rfl, rfl, rfl, rfl, trivial⟩, ⟨rfl, rfl, rfl, rfl, ?_, rfl, trivial⟩, rfl⟩
            refine blk_by ?_
            rw [spl_plsN, pl_vec hp hp2 (by omega)]
            refine vec_congr fun z hz => cg.trans (cg_add rfl ?_) (cg_of_eq (Int.add_assoc _ _ _).symm)
            by_cases e1 : i2 * 8 ≤ z ∧ z < i2 * 8 + 8
            · rw [if_pos (by omega), if_neg (by omega), if_pos e1, Int.zero_add, sh_zero, show z - i2 * 8 = z % 8 by omega]
              have e2 : z / 8 = i2 := by omega
              unfold tr mu
              rw [e2]
              exact (cg_mul rfl (cg_vec hp hp2 (Nat.mod_lt _ (by omega)))).symm
            · rw [if_neg e1, Int.add_zero]
              by_cases e2 : z / 8 < i2
              · rw [if_pos (by omega), if_pos e2]; rfl
              · rw [if_neg (by omega), if_neg e2]; rfl
          · replace h55 := bne_f h55
            refine ⟨((i2 + 1 : Nat) : Int), w64_id _ (by omega) (by omega), ?_⟩
            refine ⟨by omega, trivial, ⟨rfl, rfl, rfl, rfl, rfl, rfl, rfl, rfl, rfl, rfl, rfl, trivial⟩, ⟨rfl, rfl, rfl, rfl, ?_, rfl, trivial⟩, rfl⟩
            refine blk_by (vec_congr fun z hz => cg_add rfl (cg_of_eq ?_))
            by_cases e1 : z / 8 = i2
            · rw [if_pos (by omega), if_neg (by omega)]
              unfold tr mu
              rw [e1, z0_of h55, Int.zero_mul]
            · by_cases e2 : z / 8 < i2
              · rw [if_pos (by omega), if_pos e2]
              · rw [if_neg (by omega), if_neg e2]
        · replace h43 := of_decide_eq_false h43
          have e2 : n = i2 := by omega
          subst e2
          refine ⟨((i1 + 1 : Nat) : Int), w64_id _ (by omega) (by omega), ?_⟩
          refine ⟨by omega, trivial, ⟨rfl, rfl, rfl, rfl, rfl, rfl, rfl, rfl, rfl, trivial⟩, ⟨rfl, rfl, rfl, rfl, ?_, trivial⟩, rfl⟩
          refine blk_by (vec_congr fun z hz => cg_of_eq ?_)
          have e0 : (if z / 8 < n then tr n f fa fb i0 i1 z else 0) = tr n f fa fb i0 i1 z := by
            by_cases e : z / 8 < n
            · rw [if_pos e]
            · rw [if_neg e]
              unfold tr mu
              rw [h.mul (by omega) (by omega) (by omega) (.inr (.inr (by omega))), Int.zero_mul]
          rw [e0, Int.add_assoc]
          rfl
    · replace h27 := of_decide_eq_false h27
      have e1 : n = i1 := by omega
      subst e1
      refine ⟨((i0 + 1 : Nat) : Int), w64_id _ (by omega) (by omega), ?_⟩
      exact ⟨by omega, trivial, ⟨rfl, rfl, rfl, rfl, rfl, rfl, rfl, rfl, trivial⟩, ⟨rfl, rfl, rfl, rfl, rfl, trivial⟩, rfl⟩
  · replace h22 := of_decide_eq_false h22
    have e0 : n = i0 := by omega
    subst e0
    refine ⟨⟨by first | omega | (simp <;> omega), by first | omega | (simp <;> omega)⟩, ?_⟩
    refine ⟨⟨rfl, by first | omega | (simp <;> omega), by first | omega | (simp <;> omega)⟩, ?_⟩   -- sta ['.t', 6] ['.t', 66] 64
    refine ⟨rfl, ⟨by first | omega | (simp <;> omega), by first | omega | (simp <;> omega)⟩, [], ?_, rfl, trivial, rfl, rfl⟩
    exact one_ag (out_vec.trans rfl)

def prT (n : Nat) (f s : By) (b : Bool) (j k : Nat) : Nat → Int := if b = true then prd n f 10 (bas j) (sh s (k * 8)) else prd n f 10 (sh s (j * 8)) (bas k)
def fldT (n : Nat) (f s : By) (b : Bool) (i y : Nat) : Int := sm n fun j => sm n fun k => bz f (530 + i * 64 + j * 8 + k) * prT n f s b j k y
def AxT (p : Int) (n : Nat) (f s : By) (b : Bool) (i : Nat) : Prop := vec 8 p (fldT n f s b i) = vec 8 p fun y => bz f (522 + i) * bz f (2 + y)
theorem AxT_eq {p : Int} {n : Nat} {f : By} {b : Bool} {i : Nat} : AxT p n f (sh f 1042) b i ↔ AxS p n f (!b) i := by
  have : fldT n f (sh f 1042) b i = fld n f (!b) i := by
    funext y
    simp only [fldT, fld, prT, prS, sh_sh]
    cases b <;> rfl
  unfold AxT AxS
  rw [this]

theorem s_l03Folded_ok (B : Bs P ρ) (E : E_s_l03Folded P ρ) {n i : Nat} {p : Int} {f s : By} {b : Bool} (hp : 1 ≤ p) (hp2 : p ≤ 256) (hn : n ≤ 8) (hi : i < 8) :
    CallOK P ρ 80 [.ag [p, (n : Int)] 1106 f, .i .i64 (i : Int), .ag [] 64 s, .b b] [] (.one (.ag [] 8 (vec 8 p (fldT n f s b i)))) [] := by
  refine call_of_vc B.fn B.mo E.1 rfl rfl ?_
  refine ⟨0, rfl, ?_⟩
  refine ⟨1, rfl, ?_⟩
  refine ⟨2, rfl, ?_⟩
  refine .inl ⟨3, [], _, _, _, _, [_, _, _], rfl, s_l03Algebra_ok B E.2.1 , rfl, trivial, rfl, rfl, ?_⟩
  refine ⟨3, rfl, ?_⟩
  refine ⟨4, rfl, ?_⟩
  refine ⟨⟨rfl, by first | omega | (simp <;> omega), by first | omega | (simp <;> omega)⟩, ?_⟩   -- sta ['.t', 9] ['.t', 15] 8
  refine .inl ⟨(fun a1 a3 b0 b1 b2 i0 => St.mk [(1, a1), (3, a3), (4, .one (.pt 0 0)), (6, .one (.pt 1 0)), (8, .one (.pt 2 0)), (9, .one (.pt 3 0)), (10, .one (.pt 4 0)), (11, .one (.i .i64 ((i0 : Nat) : Int)))] [b0, b1, b2, Blk.mk false (.by [] 8 (vec 8 p fun y => sm i0 fun j => sm n fun k => bz f (530 + i * 64 + j * 8 + k) * prT n f s b j k y)), Blk.mk false (.by [p, (n : Int)] 522 f)]) _ _ _ _ _ , fun i0 => True, n, trivial, ⟨⟨rfl, rfl, rfl, rfl, rfl, rfl, rfl, rfl, trivial⟩, ⟨rfl, rfl, rfl, ?_, rfl, trivial⟩, rfl⟩, fun i0 hi0 _ => ?_⟩
  · refine blk_by ?_
    rw [z_sta]
    exact vec_0.symm
  refine ⟨fun h21 => ?_, fun h21 => ?_⟩
  · replace h21 := of_decide_eq_true h21
    refine .inl ⟨(fun a1 a3 a11 b0 b1 b2 b4 i1 => St.mk [(1, a1), (3, a3), (4, .one (.pt 0 0)), (6, .one (.pt 1 0)), (8, .one (.pt 2 0)), (9, .one (.pt 3 0)), (10, .one (.pt 4 0)), (11, a11), (12, .one (.i .i64 ((i1 : Nat) : Int)))] [b0, b1, b2, Blk.mk false (.by [] 8 (vec 8 p fun y => sm i0 (fun j => sm n fun k => bz f (530 + i * 64 + j * 8 + k) * prT n f s b j k y) + sm i1 fun k => bz f (530 + i * 64 + i0 * 8 + k) * prT n f s b i0 k y)), b4]) _ _ _ _ _ _ _ , fun i1 => True, n, trivial, ⟨⟨rfl, rfl, rfl, rfl, rfl, rfl, rfl, rfl, rfl, trivial⟩, ⟨rfl, rfl, rfl, ?_, rfl, trivial⟩, rfl⟩, fun i1 hi1 _ => ?_⟩
    · refine blk_by (vec_congr fun y _ => cg_of_eq ?_)
      simp only [sm, Int.add_zero]
    have q0 := bz_nn f (530 + i * 64 + i0 * 8 + i1)
    have q1 := bz_le f (530 + i * 64 + i0 * 8 + i1)
    refine ⟨fun h27 => ?_, fun h27 => ?_⟩
    · replace h27 := of_decide_eq_true h27
      refine ⟨i, 530 + i * 64, rfl, by omega, by omega, ?_⟩
      refine ⟨i0, 530 + i * 64 + i0 * 8, rfl, by omega, by omega, ?_⟩
      refine ⟨i1, 530 + i * 64 + i0 * 8 + i1, rfl, by omega, by omega, ?_⟩
      refine ⟨⟨by first | omega | (simp <;> omega), by first | omega | (simp <;> omega)⟩, ?_⟩
      refine ⟨fun h40 => ?_, fun h40 => ?_⟩
      · replace h40 := bne_t h40
        refine ⟨i0, i0 * 8, rfl, by omega, by omega, ?_⟩
        refine ⟨⟨by first | omega | (simp <;> omega), by first | omega | (simp <;> omega)⟩, ?_⟩
        refine ⟨5, [], _, _, _, _, [_, _, _, _, _], rfl, s_l01Basis_ok B E.2.2.1 (i := i1) (by omega), rfl, trivial, rfl, rfl, rfl, ?_⟩
        refine ⟨5, [], _, _, _, _, [_, _, _, _, _], rfl, s_l01Times_ok B E.2.2.2.1 hp hp2 hn, rfl, trivial, rfl, rfl, rfl, ?_⟩
        refine ⟨5, rfl, ?_⟩
        refine ⟨⟨rfl, by first | omega | (simp <;> omega), by first | omega | (simp <;> omega)⟩, ?_⟩   -- sta ['.t', 14] ['.t', 47] 8
        refine ⟨fun h48 => ?_, fun h48 => ?_⟩
        · skip
          refine ⟨6, [], _, _, _, _, [_, _, _, _, _, _], rfl, s_l01Basis_ok B E.2.2.1 (i := i0) (by omega), rfl, trivial, rfl, rfl, rfl, ?_⟩
          refine ⟨i1, i1 * 8, rfl, by omega, by omega, ?_⟩
          refine ⟨⟨by first | omega | (simp <;> omega), by first | omega | (simp <;> omega)⟩, ?_⟩
          refine .inl ⟨6, [], _, _, _, _, [_, _, _, _, _, _], rfl, s_l01Times_ok B E.2.2.2.1 hp hp2 hn, rfl, trivial, rfl, rfl, ?_⟩
          refine ⟨⟨rfl, by first | omega | (simp <;> omega), by first | omega | (simp <;> omega)⟩, ?_⟩   -- sta ['.t', 14] ['.t', 55] 8
          refine ⟨⟨by first | omega | (simp <;> omega), by first | omega | (simp <;> omega)⟩, ?_⟩
          refine ⟨⟨by first | omega | (simp <;> omega), by first | omega | (simp <;> omega)⟩, ?_⟩
          refine .inl ⟨6, [], _, _, _, _, [_, _, _, _, _, _], rfl, s_l01Add_ok B E.2.2.2.2 (k := bz f (530 + i * 64 + i0 * 8 + i1)) hp (by omega) (by omega) (by omega), rfl, trivial, rfl, rfl, ?_⟩
          refine ⟨⟨rfl, by first | omega | (simp <;> omega), by first | omega | (simp <;> omega)⟩, ?_⟩   -- sta ['.t', 9] ['.t', 61] 8
          refine ⟨((i1 + 1 : Nat) : Int), w64_id _ (by omega) (by omega), ?_⟩
          refine ⟨by omega, trivial, ⟨rfl, rfl, rfl, rfl, rfl, rfl, rfl, rfl, rfl, trivial⟩, ⟨rfl, rfl, rfl, ?_, rfl, trivial⟩, rfl⟩
          refine blk_by ?_
          rw [spl_plsN, pl_vec0 hp hp2]
          refine vec_congr fun y hy => cg.symm ((cg_of_eq (Int.add_assoc _ _ _)).trans (cg_add rfl (cg_add rfl (cg_mul rfl ?_))))
          rw [bz_own hy, prT, if_pos h48]
          exact cg_vec hp hp2 hy
        · skip
          refine ⟨⟨by first | omega | (simp <;> omega), by first | omega | (simp <;> omega)⟩, ?_⟩
          refine ⟨⟨by first | omega | (simp <;> omega), by first | omega | (simp <;> omega)⟩, ?_⟩
          refine .inl ⟨6, [], _, _, _, _, [_, _, _, _, _, _], rfl, s_l01Add_ok B E.2.2.2.2 (k := bz f (530 + i * 64 + i0 * 8 + i1)) hp (by omega) (by omega) (by omega), rfl, trivial, rfl, rfl, ?_⟩
          refine ⟨⟨rfl, by first | omega | (simp <;> omega), by first | omega | (simp <;> omega)⟩, ?_⟩   -- sta ['.t', 9] ['.t', 61] 8
          refine ⟨((i1 + 1 : Nat) : Int), w64_id _ (by omega) (by omega), ?_⟩
          refine ⟨by omega, trivial, ⟨rfl, rfl, rfl, rfl, rfl, rfl, rfl, rfl, rfl, trivial⟩, ⟨rfl, rfl, rfl, ?_, rfl, trivial⟩, rfl⟩
          refine blk_by ?_
          rw [spl_plsN, pl_vec0 hp hp2]
          refine vec_congr fun y hy => cg.symm ((cg_of_eq (Int.add_assoc _ _ _)).trans (cg_add rfl (cg_add rfl (cg_mul rfl ?_))))
          rw [bz_own hy, prT, if_neg (by simp [h48])]
          exact cg_vec hp hp2 hy
      · replace h40 := bne_f h40
        refine ⟨((i1 + 1 : Nat) : Int), w64_id _ (by omega) (by omega), ?_⟩
        refine ⟨by omega, trivial, ⟨rfl, rfl, rfl, rfl, rfl, rfl, rfl, rfl, rfl, trivial⟩, ⟨rfl, rfl, rfl, ?_, rfl, trivial⟩, rfl⟩
        refine blk_by (vec_congr fun y _ => cg_add rfl (cg_of_eq ?_))
        simp only [sm]
        rw [show bz f (530 + i * 64 + i0 * 8 + i1) = 0 from h40, Int.zero_mul, Int.add_zero]
    · replace h27 := of_decide_eq_false h27
      have e1 : n = i1 := by omega
      subst e1
      refine ⟨((i0 + 1 : Nat) : Int), w64_id _ (by omega) (by omega), ?_⟩
      exact ⟨by omega, trivial, ⟨rfl, rfl, rfl, rfl, rfl, rfl, rfl, rfl, trivial⟩, ⟨rfl, rfl, rfl, rfl, rfl, trivial⟩, rfl⟩
  · replace h21 := of_decide_eq_false h21
    have e0 : n = i0 := by omega
    subst e0
    refine ⟨⟨by first | omega | (simp <;> omega), by first | omega | (simp <;> omega)⟩, ?_⟩
    refine ⟨⟨rfl, by first | omega | (simp <;> omega), by first | omega | (simp <;> omega)⟩, ?_⟩   -- sta ['.t', 8] ['.t', 62] 8
    refine ⟨rfl, ⟨by first | omega | (simp <;> omega), by first | omega | (simp <;> omega)⟩, [], ?_, rfl, trivial, rfl, rfl⟩
    exact one_ag (out_vec.trans rfl)

theorem s_l03Antipode_ok (B : Bs P ρ) (E : E_s_l03Antipode P ρ) {n : Nat} {p : Int} {f s : By} {b : Bool} (hp : 1 ≤ p) (hp2 : p ≤ 256) (hn : n ≤ 8) :
    CallOK P ρ 66 [.ag [p, (n : Int)] 1106 f, .ag [] 64 s, .b b] [] (.one (.b (decide (∀ i, i < n → AxT p n f s b i)))) [] := by
  refine call_of_vc B.fn B.mo E.1 rfl rfl ?_
  refine ⟨0, rfl, ?_⟩
  refine ⟨1, rfl, ?_⟩
  refine .inl ⟨(fun a2 b0 b1 i0 => St.mk [(2, a2), (3, .one (.pt 0 0)), (4, .one (.pt 1 0)), (7, .one (.i .i64 ((i0 : Nat) : Int)))] [b0, b1]) _ _ _ , fun i0 => ∀ i, i < i0 → AxT p n f s b i, n, fun _ _ => by omega, ⟨⟨rfl, rfl, rfl, rfl, trivial⟩, ⟨rfl, rfl, trivial⟩, rfl⟩, fun i0 hi0 hF0 => ?_⟩
  have q0 := bz_nn f (522 + i0)
  have q1 := bz_le f (522 + i0)
  refine ⟨fun h11 => ?_, fun h11 => ?_⟩
  · replace h11 := of_decide_eq_true h11
    refine ⟨⟨by first | omega | (simp <;> omega), by first | omega | (simp <;> omega)⟩, ?_⟩
    refine ⟨2, [], _, _, _, _, [_, _], rfl, s_l03Folded_ok B E.2.1 (i := i0) hp hp2 hn (by omega), rfl, trivial, rfl, rfl, rfl, ?_⟩
    refine ⟨⟨by first | omega | (simp <;> omega), by first | omega | (simp <;> omega)⟩, ?_⟩
    refine ⟨i0, 522 + i0, rfl, by omega, by omega, ?_⟩
    refine ⟨⟨by first | omega | (simp <;> omega), by first | omega | (simp <;> omega)⟩, ?_⟩
    refine .inl ⟨2, [], _, _, _, _, [_, _], rfl, s_l01Add_ok B E.2.2 (k := bz f (522 + i0)) hp (by omega) (by omega) (by omega), rfl, trivial, rfl, rfl, ?_⟩
    have e30 : (vec 8 p fun y => bz (fun _ => 0) y + bz f (522 + i0) * bz (sh f 2) y) = vec 8 p fun y => bz f (522 + i0) * bz f (2 + y) := vec_congr fun y _ => cg_of_eq (Int.zero_add _)
    refine ⟨fun h30 => ?_, fun h30 => ?_⟩
    · skip
      have z30 := neB_t h30
      rw [sh_zero s] at z30
      refine ⟨rfl, [], ?_, rfl, trivial, rfl, rfl⟩
      exact one_b (dec_f fun q => z30 fun x _ => congrFun ((q i0 (by omega)).trans e30.symm) x)
    · skip
      have z30 := neB_f h30
      rw [sh_zero s] at z30
      refine ⟨((i0 + 1 : Nat) : Int), w64_id _ (by omega) (by omega), ?_⟩
      refine ⟨by omega, ?_, ⟨rfl, rfl, rfl, rfl, trivial⟩, ⟨rfl, rfl, trivial⟩, rfl⟩
      intro k hk
      by_cases e : k = i0
      · subst e
        exact (vec_ext (fun x hx => vec_out hx) z30).trans e30
      · exact hF0 k (by omega)
  · replace h11 := of_decide_eq_false h11
    have e0 : n = i0 := by omega
    subst e0
    refine ⟨rfl, [], ?_, rfl, trivial, rfl, rfl⟩
    exact one_b (dec_t hF0)

end Hf
namespace Hf
open Go Classical
variable {P : Program} {ρ : Nat → FuncId}
/-- the first of the axioms 1 to 5 that does not hold -/
noncomputable def bia (p : Int) (n : Nat) (f : By) : Int :=
  if ¬ AxN p n f 0 then 1 else if ¬ AxN p n f 1 then 2 else if ¬ AxN p n f 2 then 3 else if ¬ AxN p n f 3 then 4 else if ¬ AxN p n f 4 then 5 else 0
theorem bia1 {p : Int} {n : Nat} {f : By} (h : ¬ AxN p n f 0) : 1 = bia p n f := by unfold bia; rw [if_pos h]
theorem bia2 {p : Int} {n : Nat} {f : By} (h0 : AxN p n f 0) (h : ¬ AxN p n f 1) : 2 = bia p n f := by unfold bia; rw [if_neg (not_not_intro h0), if_pos h]
theorem bia3 {p : Int} {n : Nat} {f : By} (h0 : AxN p n f 0) (h1 : AxN p n f 1) (h : ¬ AxN p n f 2) : 3 = bia p n f := by unfold bia; rw [if_neg (not_not_intro h0), if_neg (not_not_intro h1), if_pos h]
theorem bia4 {p : Int} {n : Nat} {f : By} (h0 : AxN p n f 0) (h1 : AxN p n f 1) (h2 : AxN p n f 2) (h : ¬ AxN p n f 3) : 4 = bia p n f := by unfold bia; rw [if_neg (not_not_intro h0), if_neg (not_not_intro h1), if_neg (not_not_intro h2), if_pos h]
theorem bia5 {p : Int} {n : Nat} {f : By} (h0 : AxN p n f 0) (h1 : AxN p n f 1) (h2 : AxN p n f 2) (h3 : AxN p n f 3) (h : ¬ AxN p n f 4) : 5 = bia p n f := by unfold bia; rw [if_neg (not_not_intro h0), if_neg (not_not_intro h1), if_neg (not_not_intro h2), if_neg (not_not_intro h3), if_pos h]
theorem bia0 {p : Int} {n : Nat} {f : By} (h0 : AxN p n f 0) (h1 : AxN p n f 1) (h2 : AxN p n f 2) (h3 : AxN p n f 3) (h : AxN p n f 4) : 0 = bia p n f := by unfold bia; rw [if_neg (not_not_intro h0), if_neg (not_not_intro h1), if_neg (not_not_intro h2), if_neg (not_not_intro h3), if_neg (not_not_intro h)]
theorem bia_0 {p : Int} {n : Nat} {f : By} : bia p n f = 0 ↔ ∀ i, i < 5 → AxN p n f i := by
  constructor
  · intro h
    have h0 : AxN p n f 0 := Classical.byContradiction fun q => by rw [← bia1 q] at h; cases h
    have h1 : AxN p n f 1 := Classical.byContradiction fun q => by rw [← bia2 h0 q] at h; cases h
    have h2 : AxN p n f 2 := Classical.byContradiction fun q => by rw [← bia3 h0 h1 q] at h; cases h
    have h3 : AxN p n f 3 := Classical.byContradiction fun q => by rw [← bia4 h0 h1 h2 q] at h; cases h
    have h4 : AxN p n f 4 := Classical.byContradiction fun q => by rw [← bia5 h0 h1 h2 h3 q] at h; cases h
    intro i hi
    have : i = 0 ∨ i = 1 ∨ i = 2 ∨ i = 3 ∨ i = 4 := by omega
    rcases this with rfl | rfl | rfl | rfl | rfl <;> assumption
  · intro h
    exact (bia0 (h 0 (by omega)) (h 1 (by omega)) (h 2 (by omega)) (h 3 (by omega)) (h 4 (by omega))).symm
/-- the fourth of them by rows -/
theorem Ax4_iff {p : Int} {n : Nat} {f : By} (h : HShp p n f) : Ax4 p n f ↔ ∀ j, j < n → ∀ x, x < 8 → vec 64 p (cop n f 530 (sh f 2)) (j * 8 + x) = vec 8 p (fun y => bz (fun _ => 0) y + bz f (2 + j) * bz (sh f 2) y) x := by
  have hb := h.b
  unfold Ax4
  have e1 : ∀ j x, j < 8 → x < 8 → vec 8 p (fun y => bz (fun _ => 0) y + bz f (2 + j) * bz (sh f 2) y) x = vec 64 p (fun y => bz f (2 + y / 8) * bz f (2 + y % 8)) (j * 8 + x) := by
    intro j x hj hx
    simp only [vec]
    rw [if_pos hx, if_pos (by omega), show (j * 8 + x) / 8 = j by omega, show (j * 8 + x) % 8 = x by omega]
    have : bz (fun _ => 0) x = 0 := rfl
    rw [this, Int.zero_add]; rfl
  constructor
  · intro q j hj x hx
    rw [q, e1 j x (by omega) hx]
  · intro q
    refine vec_ext (fun x hx => vec_out hx) fun x hx => ?_
    by_cases hj : x / 8 < n
    · have := q (x / 8) hj (x % 8) (by omega)
      rw [e1 (x / 8) (x % 8) (by omega) (by omega), show x / 8 * 8 + x % 8 = x by omega] at this
      exact this
    · simp only [vec]
      rw [if_pos hx, if_pos hx]
      congr 2
      rw [cop, if_neg hj, h.unit (by omega) (by omega), Int.zero_mul]

theorem s_l03Bialgebra_ok (B : Bs P ρ) (E : E_s_l03Bialgebra P ρ) {n : Nat} {p : Int} {f : By} (h : HShp p n f) :
    CallOK P ρ 65 [.ag [p, (n : Int)] 1106 f] [] (.one (.i .i64 (bia p n f))) [] := by
  refine call_of_vc B.fn B.mo E.1 rfl rfl ?_
  have hb := h.b
  refine ⟨0, rfl, ?_⟩
  refine ⟨1, [], _, _, _, _, [_], rfl, s_l03Algebra_ok B E.2.1 , rfl, trivial, rfl, rfl, rfl, ?_⟩
  refine ⟨1, rfl, ?_⟩
  refine .inl ⟨2, [], _, _, _, _, [_, _], rfl, s_l01Is_ok B E.2.2.1 , rfl, trivial, rfl, rfl, ?_⟩
  refine ⟨fun h15 => ?_, fun h15 => ?_⟩
  · skip
    have a0 : ¬ AxN p n f 0 := dec_elim_t' (not_t h15)
    refine ⟨rfl, [], ?_, rfl, trivial, rfl, rfl⟩
    exact one_i (bia1 a0)
  · skip
    have a0 : AxN p n f 0 := dec_elim_t (not_f h15)
    refine .inl ⟨2, [], _, _, _, _, [_, _], rfl, s_l03Coalgebra_ok B E.2.2.2.1 , rfl, trivial, rfl, rfl, ?_⟩
    refine .inl ⟨2, [], _, _, _, _, [_, _], rfl, s_l02Is_ok B E.2.2.2.2.1 , rfl, trivial, rfl, rfl, ?_⟩
    refine ⟨fun h19 => ?_, fun h19 => ?_⟩
    · skip
      have a1 : ¬ AxN p n f 1 := dec_elim_t' (not_t h19)
      refine ⟨rfl, [], ?_, rfl, trivial, rfl, rfl⟩
      exact one_i (bia2 a0 a1)
    · skip
      have a1 : AxN p n f 1 := dec_elim_t (not_f h19)
      refine .inl ⟨(fun a3 b0 b1 i0 => St.mk [(1, .one (.pt 0 0)), (3, a3), (5, .one (.i .i64 ((i0 : Nat) : Int)))] [b0, b1]) _ _ _ , fun i0 => ∀ i, i < i0 → ∀ j, j < n → Ax3 p n f i j, n, fun _ _ => by omega, ⟨⟨rfl, rfl, rfl, trivial⟩, ⟨rfl, rfl, trivial⟩, rfl⟩, fun i0 hi0 hF0 => ?_⟩
      refine ⟨fun h26 => ?_, fun h26 => ?_⟩
      · replace h26 := of_decide_eq_true h26
        refine .inl ⟨(fun a3 a5 b0 b1 i1 => St.mk [(1, .one (.pt 0 0)), (3, a3), (5, a5), (6, .one (.i .i64 ((i1 : Nat) : Int)))] [b0, b1]) _ _ _ _ , fun i1 => ∀ j, j < i1 → Ax3 p n f i0 j, n, fun _ _ => by omega, ⟨⟨rfl, rfl, rfl, rfl, trivial⟩, ⟨rfl, rfl, trivial⟩, rfl⟩, fun i1 hi1 hF1 => ?_⟩
        refine ⟨fun h31 => ?_, fun h31 => ?_⟩
        · replace h31 := of_decide_eq_true h31
          refine ⟨i0, 10 + i0 * 64, rfl, by omega, by omega, ?_⟩
          refine ⟨i1, 10 + i0 * 64 + i1 * 8, rfl, by omega, by omega, ?_⟩
          refine ⟨⟨by first | omega | (simp <;> omega), by first | omega | (simp <;> omega)⟩, ?_⟩
          refine ⟨2, [], _, _, _, _, [_, _], rfl, s_l03Coproduct_ok B E.2.2.2.2.2.1 (by omega) (by omega) (by omega), rfl, trivial, rfl, rfl, rfl, ?_⟩
          refine ⟨i0, 530 + i0 * 64, rfl, by omega, by omega, ?_⟩
          refine ⟨⟨by first | omega | (simp <;> omega), by first | omega | (simp <;> omega)⟩, ?_⟩
          refine ⟨i1, 530 + i1 * 64, rfl, by omega, by omega, ?_⟩
          refine ⟨⟨by first | omega | (simp <;> omega), by first | omega | (simp <;> omega)⟩, ?_⟩
          refine .inl ⟨2, [], _, _, _, _, [_, _], rfl, s_l03Pairs_ok B E.2.2.2.2.2.2.1 h (by omega) (by omega) (by omega), rfl, trivial, rfl, rfl, ?_⟩
          refine ⟨fun h52 => ?_, fun h52 => ?_⟩
          · skip
            have z52 := neB_t h52
            refine ⟨rfl, [], ?_, rfl, trivial, rfl, rfl⟩
            refine one_i (bia3 a0 a1 fun q => z52 fun x _ => ?_)
            have := congrFun (q i0 i1 (by omega) (by omega)) x
            rw [this]
            exact congrFun (congrArg (vec 64 p) (funext fun z => trs_eq.symm)) x
          · skip
            have z52 := neB_f h52
            refine ⟨((i1 + 1 : Nat) : Int), w64_id _ (by omega) (by omega), ?_⟩
            refine ⟨by omega, ?_, ⟨rfl, rfl, rfl, rfl, trivial⟩, ⟨rfl, rfl, trivial⟩, rfl⟩
            intro j hj
            by_cases e : j = i1
            · subst e
              refine (vec_ext (fun x hx => vec_out hx) z52).trans ?_
              exact congrArg (vec 64 p) (funext fun z => trs_eq)
            · exact hF1 j (by omega)
        · replace h31 := of_decide_eq_false h31
          have e1 : n = i1 := by omega
          subst e1
          refine ⟨((i0 + 1 : Nat) : Int), w64_id _ (by omega) (by omega), ?_⟩
          refine ⟨by omega, ?_, ⟨rfl, rfl, rfl, trivial⟩, ⟨rfl, rfl, trivial⟩, rfl⟩
          intro i hi j hj
          by_cases e : i = i0
          · subst e; exact hF1 j hj
          · exact hF0 i (by omega) j hj
      · replace h26 := of_decide_eq_false h26
        have e0 : n = i0 := by omega
        subst e0
        refine ⟨⟨by first | omega | (simp <;> omega), by first | omega | (simp <;> omega)⟩, ?_⟩
        refine .inl ⟨2, [], _, _, _, _, [_, _], rfl, s_l03Coproduct_ok B E.2.2.2.2.2.1 (by omega) (by omega) (by omega), rfl, trivial, rfl, rfl, ?_⟩
        refine ⟨2, rfl, ?_⟩
        refine ⟨⟨rfl, by first | omega | (simp <;> omega), by first | omega | (simp <;> omega)⟩, ?_⟩   -- sta ['.t', 7] ['.t', 56] 64
        have a2 : AxN p n f 2 := fun i j hi hj => hF0 i hi j hj
        refine .inl ⟨(fun a3 b0 b1 i2 => St.mk [(1, .one (.pt 0 0)), (3, a3), (7, .one (.pt 2 0)), (8, .one (.i .i64 ((i2 : Nat) : Int)))] [b0, b1, Blk.mk false (.by [] 64 (vec 64 p (cop n f 530 (sh f 2))))]) _ _ _ , fun i2 => ∀ j, j < i2 → ∀ x, x < 8 → vec 64 p (cop n f 530 (sh f 2)) (j * 8 + x) = vec 8 p (fun y => bz (fun _ => 0) y + bz f (2 + j) * bz (sh f 2) y) x, n, fun _ _ => by omega, ⟨⟨rfl, rfl, rfl, rfl, trivial⟩, ⟨rfl, rfl, ?_, trivial⟩, rfl⟩, fun i2 hi2 hF2 => ?_⟩
        · exact blk_by (z_spl _ _ fun _ h => vec_out h).symm
        have q0 := bz_nn f (2 + i2)
        have q1 := bz_le f (2 + i2)
        have a2 : AxN p n f 2 := fun i j hi hj => hF0 i hi j hj
        refine ⟨fun h59 => ?_, fun h59 => ?_⟩
        · replace h59 := of_decide_eq_true h59
          refine ⟨i2, i2 * 8, rfl, by omega, by omega, ?_⟩
          refine ⟨⟨by first | omega | (simp <;> omega), by first | omega | (simp <;> omega)⟩, ?_⟩
          refine ⟨⟨by first | omega | (simp <;> omega), by first | omega | (simp <;> omega)⟩, ?_⟩
          refine ⟨i2, 2 + i2, rfl, by omega, by omega, ?_⟩
          refine ⟨⟨by first | omega | (simp <;> omega), by first | omega | (simp <;> omega)⟩, ?_⟩
          refine ⟨3, [], _, _, _, _, [_, _, _], rfl, s_l01Add_ok B E.2.2.2.2.2.2.2.1 (k := bz f (2 + i2)) (by omega) (by omega) (by omega) (by omega), rfl, trivial, rfl, rfl, rfl, ?_⟩
          refine ⟨fun h76 => ?_, fun h76 => ?_⟩
          · skip
            have z76 := neB_t h76
            refine ⟨rfl, [], ?_, rfl, trivial, rfl, rfl⟩
            refine one_i (bia4 a0 a1 a2 fun q => z76 fun x hx => ?_)
            exact (Ax4_iff h).1 q i2 (by omega) x hx
          · skip
            have z76 := neB_f h76
            refine ⟨((i2 + 1 : Nat) : Int), w64_id _ (by omega) (by omega), ?_⟩
            refine ⟨by omega, ?_, ⟨rfl, rfl, rfl, rfl, trivial⟩, ⟨rfl, rfl, rfl, trivial⟩, rfl⟩
            intro j hj
            by_cases e : j = i2
            · subst e; exact z76
            · exact hF2 j (by omega)
        · replace h59 := of_decide_eq_false h59
          have e2 : n = i2 := by omega
          subst e2
          have a3 : AxN p n f 3 := (Ax4_iff h).2 hF2
          refine .inl ⟨(fun a3 b0 b1 b2 i3 => St.mk [(1, .one (.pt 0 0)), (3, a3), (9, .one (.i .i64 ((i3 : Nat) : Int)))] [b0, b1, b2]) _ _ _ _ , fun i3 => ∀ i, i < i3 → ∀ j, j < n → Ax5 p n f i j, n, fun _ _ => by omega, ⟨⟨rfl, rfl, rfl, trivial⟩, ⟨rfl, rfl, rfl, trivial⟩, rfl⟩, fun i3 hi3 hF3 => ?_⟩
          refine ⟨fun h79 => ?_, fun h79 => ?_⟩
          · replace h79 := of_decide_eq_true h79
            refine .inl ⟨(fun a3 a9 b0 b1 b2 i4 => St.mk [(1, .one (.pt 0 0)), (3, a3), (9, a9), (10, .one (.i .i64 ((i4 : Nat) : Int)))] [b0, b1, b2]) _ _ _ _ _ , fun i4 => ∀ j, j < i4 → Ax5 p n f i3 j, n, fun _ _ => by omega, ⟨⟨rfl, rfl, rfl, rfl, trivial⟩, ⟨rfl, rfl, rfl, trivial⟩, rfl⟩, fun i4 hi4 hF4 => ?_⟩
            have q0 := bz2 f f (522 + i3) (522 + i4)
            refine ⟨fun h84 => ?_, fun h84 => ?_⟩
            · replace h84 := of_decide_eq_true h84
              refine ⟨i3, 10 + i3 * 64, rfl, by omega, by omega, ?_⟩
              refine ⟨i4, 10 + i3 * 64 + i4 * 8, rfl, by omega, by omega, ?_⟩
              refine ⟨⟨by first | omega | (simp <;> omega), by first | omega | (simp <;> omega)⟩, ?_⟩
              refine ⟨3, [], _, _, _, _, [_, _, _], rfl, s_l03Counit_ok B E.2.2.2.2.2.2.2.2 (by omega) (by omega) (by omega), rfl, trivial, rfl, rfl, rfl, ?_⟩
              refine ⟨i3, 522 + i3, rfl, by omega, by omega, ?_⟩
              refine ⟨⟨by first | omega | (simp <;> omega), by first | omega | (simp <;> omega)⟩, ?_⟩
              refine ⟨i4, 522 + i4, rfl, by omega, by omega, ?_⟩
              refine ⟨⟨by first | omega | (simp <;> omega), by first | omega | (simp <;> omega)⟩, ?_⟩
              refine ⟨bz f (522 + i3) * bz f (522 + i4), w64_id (bz f (522 + i3) * bz f (522 + i4)) (by omega) (by omega), ?_⟩
              refine ⟨by omega, bz f (522 + i3) * bz f (522 + i4) % p, Int.tmod_eq_emod_of_nonneg q0.1, ?_⟩
              refine ⟨fun h109 => ?_, fun h109 => ?_⟩
              · replace h109 := bne_t h109
                refine ⟨rfl, [], ?_, rfl, trivial, rfl, rfl⟩
                exact one_i (bia5 a0 a1 a2 a3 fun q => h109 (q.1 i3 i4 (by omega) (by omega)))
              · replace h109 := bne_f h109
                refine ⟨((i4 + 1 : Nat) : Int), w64_id _ (by omega) (by omega), ?_⟩
                refine ⟨by omega, ?_, ⟨rfl, rfl, rfl, rfl, trivial⟩, ⟨rfl, rfl, rfl, trivial⟩, rfl⟩
                intro j hj
                by_cases e : j = i4
                · subst e; exact h109
                · exact hF4 j (by omega)
            · replace h84 := of_decide_eq_false h84
              have e4 : n = i4 := by omega
              subst e4
              refine ⟨((i3 + 1 : Nat) : Int), w64_id _ (by omega) (by omega), ?_⟩
              refine ⟨by omega, ?_, ⟨rfl, rfl, rfl, trivial⟩, ⟨rfl, rfl, rfl, trivial⟩, rfl⟩
              intro i hi j hj
              by_cases e : i = i3
              · subst e; exact hF4 j hj
              · exact hF3 i (by omega) j hj
          · replace h79 := of_decide_eq_false h79
            have e3 : n = i3 := by omega
            subst e3
            refine ⟨⟨by first | omega | (simp <;> omega), by first | omega | (simp <;> omega)⟩, ?_⟩
            refine .inl ⟨3, [], _, _, _, _, [_, _, _], rfl, s_l03Counit_ok B E.2.2.2.2.2.2.2.2 (by omega) (by omega) (by omega), rfl, trivial, rfl, rfl, ?_⟩
            refine ⟨fun h114 => ?_, fun h114 => ?_⟩
            · replace h114 := bne_t h114
              refine ⟨rfl, [], ?_, rfl, trivial, rfl, rfl⟩
              exact one_i (bia5 a0 a1 a2 a3 fun q => h114 q.2)
            · replace h114 := bne_f h114
              refine ⟨rfl, [], ?_, rfl, trivial, rfl, rfl⟩
              exact one_i (bia0 a0 a1 a2 a3 ⟨fun i j hi hj => hF3 i hi j hj, h114⟩)

theorem s_l03Fails_ok (B : Bs P ρ) (E : E_s_l03Fails P ρ) {n : Nat} {p : Int} {f : By} (h : HShp p n f) :
    CallOK P ρ 46 [.ag [p, (n : Int)] 1106 f] [] (.one (.i .i64 (if bia p n f ≠ 0 then bia p n f else if ¬ AxN p n f 5 then 6 else if ¬ AxN p n f 6 then 7 else 0))) [] := by
  refine call_of_vc B.fn B.mo E.1 rfl rfl ?_
  have hb := h.b
  refine ⟨0, rfl, ?_⟩
  refine .inl ⟨1, [], _, _, _, _, [_], rfl, s_l03Bialgebra_ok B E.2.1 h, rfl, trivial, rfl, rfl, ?_⟩
  refine ⟨fun h6 => ?_, fun h6 => ?_⟩
  · replace h6 := bne_t h6
    have h6' : bia p n f ≠ 0 := h6
    refine ⟨rfl, [], ?_, rfl, trivial, rfl, rfl⟩
    exact one_i (if_pos h6').symm
  · replace h6 := bne_f h6
    have h6' : ¬ bia p n f ≠ 0 := fun q => q h6
    refine ⟨⟨by first | omega | (simp <;> omega), by first | omega | (simp <;> omega)⟩, ?_⟩
    refine .inl ⟨1, [], _, _, _, _, [_], rfl, s_l03Antipode_ok B E.2.2 (by omega) (by omega) (by omega), rfl, trivial, rfl, rfl, ?_⟩
    refine ⟨fun h10 => ?_, fun h10 => ?_⟩
    · skip
      have h10' : ¬ AxN p n f 5 := fun q => dec_elim_t' (not_t h10) fun i hi => AxT_eq.2 (q i hi)
      refine ⟨rfl, [], ?_, rfl, trivial, rfl, rfl⟩
      exact one_i (by rw [if_neg h6', if_pos h10'])
    · skip
      have w10 : ∀ i, i < n → AxT p n f (sh f 1042) false i := dec_elim_t (not_f h10)
      have v10 : AxN p n f 5 := show ∀ i, i < n → AxS p n f true i from fun i hi => (AxT_eq (b := false)).1 (w10 i hi)
      have h10' : ¬ ¬ AxN p n f 5 := not_not_intro v10
      refine ⟨⟨by first | omega | (simp <;> omega), by first | omega | (simp <;> omega)⟩, ?_⟩
      refine .inl ⟨1, [], _, _, _, _, [_], rfl, s_l03Antipode_ok B E.2.2 (by omega) (by omega) (by omega), rfl, trivial, rfl, rfl, ?_⟩
      refine ⟨fun h16 => ?_, fun h16 => ?_⟩
      · skip
        have h16' : ¬ AxN p n f 6 := fun q => dec_elim_t' (not_t h16) fun i hi => AxT_eq.2 (q i hi)
        refine ⟨rfl, [], ?_, rfl, trivial, rfl, rfl⟩
        exact one_i (by rw [if_neg h6', if_neg h10', if_pos h16'])
      · skip
        have w16 : ∀ i, i < n → AxT p n f (sh f 1042) true i := dec_elim_t (not_f h16)
        have v16 : AxN p n f 6 := show ∀ i, i < n → AxS p n f false i from fun i hi => (AxT_eq (b := true)).1 (w16 i hi)
        have h16' : ¬ ¬ AxN p n f 6 := not_not_intro v16
        refine ⟨rfl, [], ?_, rfl, trivial, rfl, rfl⟩
        exact one_i (by rw [if_neg h6', if_neg h10', if_neg h16'])

theorem fails_0 {p : Int} {n : Nat} {f : By} : (if bia p n f ≠ 0 then bia p n f else if ¬ AxN p n f 5 then 6 else if ¬ AxN p n f 6 then 7 else 0) = 0 ↔ ∀ i, i < 7 → AxN p n f i := by
  by_cases h : bia p n f ≠ 0
  · rw [if_pos h]
    exact ⟨fun q => (h q).elim, fun q => (h (bia_0.2 fun i hi => q i (by omega))).elim⟩
  · rw [if_neg h]
    have h' := bia_0.1 (Classical.not_not.1 h)
    by_cases h5 : AxN p n f 5
    · rw [if_neg (not_not_intro h5)]
      by_cases h6 : AxN p n f 6
      · rw [if_neg (not_not_intro h6)]
        refine ⟨fun _ i hi => ?_, fun _ => rfl⟩
        have : i < 5 ∨ i = 5 ∨ i = 6 := by omega
        rcases this with e | rfl | rfl
        · exact h' i e
        · exact h5
        · exact h6
      · rw [if_pos h6]
        exact ⟨fun q => (by omega), fun q => (h6 (q 6 (by omega))).elim⟩
    · rw [if_pos h5]
      exact ⟨fun q => (by omega), fun q => (h5 (q 5 (by omega))).elim⟩

theorem s_l03Is_s_ok (B : Bs P ρ) (E : E_s_l03Is P ρ) {n p : Int} {f : By} (hS : ¬ HShp p n f) :
    CallOK P ρ 24 [.ag [p, n] 1106 f] [] (.one (.b false)) [] := by
  refine call_of_vc B.fn B.mo E.1 rfl rfl ?_
  refine ⟨0, rfl, ?_⟩
  refine .inl ⟨1, [], _, _, _, _, [_], rfl, s_l03Shape_ok B E.2.1 , rfl, trivial, rfl, rfl, ?_⟩
  refine ⟨fun h5 => ?_, fun h5 => ?_⟩
  · skip
    exact (hS (dec_elim_t h5)).elim
  · skip
    refine brB_f ?_
    refine brB_f ?_
    refine brB_f ?_
    exact ⟨rfl, [], rfl, rfl, trivial, rfl, rfl⟩

theorem s_l03Is_t_ok (B : Bs P ρ) (E : E_s_l03Is P ρ) {n : Nat} {p : Int} {f : By} (h : HShp p n f) :
    CallOK P ρ 24 [.ag [p, (n : Int)] 1106 f] [] (.one (.b (decide (Hop p n f)))) [] := by
  refine call_of_vc B.fn B.mo E.1 rfl rfl ?_
  refine ⟨0, rfl, ?_⟩
  refine .inl ⟨1, [], _, _, _, _, [_], rfl, s_l03Shape_ok B E.2.1 , rfl, trivial, rfl, rfl, ?_⟩
  refine ⟨fun h5 => ?_, fun h5 => ?_⟩
  · skip
    refine brB_t ?_
    refine .inl ⟨1, [], _, _, _, _, [_], rfl, s_l03Fails_ok B E.2.2 h, rfl, trivial, rfl, rfl, ?_⟩
    refine brB_t ?_
    refine brB_t ?_
    refine ⟨rfl, [], ?_, rfl, trivial, rfl, rfl⟩
    refine one_b ?_
    rw [Bool.eq_iff_iff, beq_iff_eq, decide_eq_true_iff]
    exact fails_0.trans ⟨fun q => ⟨h, q⟩, fun q => q.2⟩
  · skip
    exact (dec_elim_t' h5 h).elim

theorem s_l03Is_ok (B : Bs P ρ) (E : E_s_l03Is P ρ) {n p : Int} {f : By} : CallOK P ρ 24 [.ag [p, n] 1106 f] [] (.one (.b (decide (Hop p n f)))) [] := by
  by_cases hS : HShp p n f
  · obtain ⟨m, rfl⟩ : ∃ m : Nat, n = (m : Int) := ⟨n.toNat, by have := hS.1.2.1; omega⟩
    exact s_l03Is_t_ok B E hS
  · rw [decide_eq_false fun q : Hop p n f => hS q.1]
    exact s_l03Is_s_ok B E hS
end Hf
namespace Hf
open Go Classical
variable {P : Program} {ρ : Nat → FuncId}
def cut (n : Nat) (f : By) : By := fun x => if x < n then f x else 0
theorem cut_lt {n : Nat} {f : By} {x : Nat} (h : x < n) : cut n f x = f x := by simp only [cut]; rw [if_pos h]
theorem cut_ge {n : Nat} {f : By} {x : Nat} (h : n ≤ x) : cut n f x = 0 := by simp only [cut]; rw [if_neg (by omega)]
theorem cut_0 {f : By} : cut 0 f = fun _ => 0 := by funext x; exact cut_ge (Nat.zero_le _)
theorem cut_upd {f : By} {i : Nat} : upd (cut i f) i (f i) = cut (i + 1) f := by
  funext x
  simp only [upd, cut]
  by_cases e : x = i
  · subst e; rw [if_pos rfl, if_pos (by omega)]
  · rw [if_neg e]
    by_cases h : x < i
    · rw [if_pos h, if_pos (by omega)]
    · rw [if_neg h, if_neg (by omega)]
theorem cut_spl {f : By} {a m b : Nat} (hb : b = a + m) : spl (cut a f) a m (sh f a) = cut b f := by
  subst hb
  funext x
  simp only [spl, cut, sh]
  by_cases e : a ≤ x ∧ x < a + m
  · rw [if_pos e, if_pos (by omega), show a + (x - a) = x by omega]
  · rw [if_neg e]
    by_cases h : x < a
    · rw [if_pos h, if_pos (by omega)]
    · rw [if_neg h, if_neg (by omega)]
theorem out_cut {n : Nat} {f : By} : sh (spl (fun _ => 0) 0 n (sh (cut n f) 0)) 0 = cut n f := out_eq (fun _ _ => rfl) fun _ h => cut_ge h
theorem eq_cut {n : Nat} {f : By} : eqA (.ag [] n (cut n f)) (.ag [] n f) := ⟨_, rfl, fun _ _ h => cut_lt h⟩

theorem l_toVector_raw_ok (B : Bs P ρ) (E : E_l_toVector P ρ) {f : By} :
    CallOK P ρ 16 [.ag [] 8 f] [] (.one (.ag [] 8 (cut 8 f))) [] := by
  refine call_of_vc B.fn B.mo E rfl rfl ?_
  refine ⟨0, rfl, ?_⟩
  refine ⟨1, rfl, ?_⟩
  refine ⟨2, rfl, ?_⟩
  refine .inl ⟨(fun b0 b1 i0 => St.mk [(1, .one (.pt 0 0)), (2, .one (.pt 1 0)), (3, .one (.pt 2 0)), (4, .one (.i .i64 ((i0 : Nat) : Int)))] [b0, b1, Blk.mk false (.by [] 8 (cut i0 f))]) _ _ , fun i0 => True, 8, trivial, ⟨⟨rfl, rfl, rfl, rfl, trivial⟩, ⟨rfl, rfl, ?_, trivial⟩, rfl⟩, fun i0 hi0 _ => ?_⟩
  · exact blk_by cut_0
  refine ⟨fun h6 => ?_, fun h6 => ?_⟩
  · replace h6 := of_decide_eq_true h6
    refine ⟨i0, i0, rfl, by omega, by omega, ?_⟩
    refine ⟨⟨by first | omega | (simp <;> omega), by first | omega | (simp <;> omega)⟩, ?_⟩
    refine ⟨i0, i0, rfl, by omega, by omega, ?_⟩
    refine ⟨⟨by first | omega | (simp <;> omega), by first | omega | (simp <;> omega)⟩, ?_⟩   -- st8 ['.t', 13] ['.t', 12]
    refine ⟨((i0 + 1 : Nat) : Int), w64_id _ (by omega) (by omega), ?_⟩
    refine ⟨by omega, trivial, ⟨rfl, rfl, rfl, rfl, trivial⟩, ⟨rfl, rfl, ?_, trivial⟩, rfl⟩
    exact blk_by cut_upd.symm
  · replace h6 := of_decide_eq_false h6
    have e0 : 8 = i0 := by omega
    subst e0
    refine ⟨⟨by first | omega | (simp <;> omega), by first | omega | (simp <;> omega)⟩, ?_⟩
    refine ⟨⟨rfl, by first | omega | (simp <;> omega), by first | omega | (simp <;> omega)⟩, ?_⟩   -- sta ['.t', 2] ['.t', 14] 8
    refine ⟨rfl, ⟨by first | omega | (simp <;> omega), by first | omega | (simp <;> omega)⟩, [], ?_, rfl, trivial, rfl, rfl⟩
    exact one_ag out_cut

theorem l_toVector_ok (B : Bs P ρ) (E : E_l_toVector P ρ) {f : By} : CallOK P ρ 16 [.ag [] 8 f] [] (.one (.ag [] 8 f)) [] := (l_toVector_raw_ok B E).conv eqL_rfl eq_cut eqH_rfl

theorem l_toLinear_raw_ok (B : Bs P ρ) (E : E_l_toLinear P ρ) {f : By} :
    CallOK P ρ 26 [.ag [] 64 f] [] (.one (.ag [] 64 (cut 64 f))) [] := by
  refine call_of_vc B.fn B.mo E.1 rfl rfl ?_
  refine ⟨0, rfl, ?_⟩
  refine ⟨1, rfl, ?_⟩
  refine ⟨2, rfl, ?_⟩
  refine .inl ⟨(fun b0 b1 i0 => St.mk [(1, .one (.pt 0 0)), (2, .one (.pt 1 0)), (3, .one (.pt 2 0)), (4, .one (.i .i64 ((i0 : Nat) : Int)))] [b0, b1, Blk.mk false (.by [] 64 (cut (i0 * 8) f))]) _ _ , fun i0 => True, 8, trivial, ⟨⟨rfl, rfl, rfl, rfl, trivial⟩, ⟨rfl, rfl, ?_, trivial⟩, rfl⟩, fun i0 hi0 _ => ?_⟩
  · exact blk_by (by rw [Nat.zero_mul]; exact cut_0)
  refine ⟨fun h6 => ?_, fun h6 => ?_⟩
  · replace h6 := of_decide_eq_true h6
    refine ⟨i0, i0 * 8, rfl, by omega, by omega, ?_⟩
    refine ⟨⟨by first | omega | (simp <;> omega), by first | omega | (simp <;> omega)⟩, ?_⟩
    refine .inl ⟨3, [], _, _, _, _, [_, _, _], rfl, l_toVector_ok B E.2 , rfl, trivial, rfl, rfl, ?_⟩
    refine ⟨i0, i0 * 8, rfl, by omega, by omega, ?_⟩
    refine ⟨⟨rfl, by first | omega | (simp <;> omega), by first | omega | (simp <;> omega)⟩, ?_⟩   -- sta ['.t', 14] ['.t', 13] 8
    refine ⟨((i0 + 1 : Nat) : Int), w64_id _ (by omega) (by omega), ?_⟩
    refine ⟨by omega, trivial, ⟨rfl, rfl, rfl, rfl, trivial⟩, ⟨rfl, rfl, ?_, trivial⟩, rfl⟩
    exact blk_by (cut_spl (by omega)).symm
  · replace h6 := of_decide_eq_false h6
    have e0 : 8 = i0 := by omega
    subst e0
    refine ⟨⟨by first | omega | (simp <;> omega), by first | omega | (simp <;> omega)⟩, ?_⟩
    refine ⟨⟨rfl, by first | omega | (simp <;> omega), by first | omega | (simp <;> omega)⟩, ?_⟩   -- sta ['.t', 2] ['.t', 15] 64
    refine ⟨rfl, ⟨by first | omega | (simp <;> omega), by first | omega | (simp <;> omega)⟩, [], ?_, rfl, trivial, rfl, rfl⟩
    exact one_ag out_cut

theorem l_toLinear_ok (B : Bs P ρ) (E : E_l_toLinear P ρ) {f : By} : CallOK P ρ 26 [.ag [] 64 f] [] (.one (.ag [] 64 f)) [] := (l_toLinear_raw_ok B E).conv eqL_rfl eq_cut eqH_rfl

theorem l_toTable_raw_ok (B : Bs P ρ) (E : E_l_toTable P ρ) {f : By} :
    CallOK P ρ 25 [.ag [] 512 f] [] (.one (.ag [] 512 (cut 512 f))) [] := by
  refine call_of_vc B.fn B.mo E.1 rfl rfl ?_
  refine ⟨0, rfl, ?_⟩
  refine ⟨1, rfl, ?_⟩
  refine ⟨2, rfl, ?_⟩
  refine .inl ⟨(fun b0 b1 i0 => St.mk [(1, .one (.pt 0 0)), (2, .one (.pt 1 0)), (3, .one (.pt 2 0)), (4, .one (.i .i64 ((i0 : Nat) : Int)))] [b0, b1, Blk.mk false (.by [] 512 (cut (i0 * 64) f))]) _ _ , fun i0 => True, 8, trivial, ⟨⟨rfl, rfl, rfl, rfl, trivial⟩, ⟨rfl, rfl, ?_, trivial⟩, rfl⟩, fun i0 hi0 _ => ?_⟩
  · exact blk_by (by rw [Nat.zero_mul]; exact cut_0)
  refine ⟨fun h6 => ?_, fun h6 => ?_⟩
  · replace h6 := of_decide_eq_true h6
    refine ⟨i0, i0 * 64, rfl, by omega, by omega, ?_⟩
    refine ⟨⟨by first | omega | (simp <;> omega), by first | omega | (simp <;> omega)⟩, ?_⟩
    refine .inl ⟨3, [], _, _, _, _, [_, _, _], rfl, l_toLinear_ok B E.2 , rfl, trivial, rfl, rfl, ?_⟩
    refine ⟨i0, i0 * 64, rfl, by omega, by omega, ?_⟩
    refine ⟨⟨rfl, by first | omega | (simp <;> omega), by first | omega | (simp <;> omega)⟩, ?_⟩   -- sta ['.t', 14] ['.t', 13] 64
    refine ⟨((i0 + 1 : Nat) : Int), w64_id _ (by omega) (by omega), ?_⟩
    refine ⟨by omega, trivial, ⟨rfl, rfl, rfl, rfl, trivial⟩, ⟨rfl, rfl, ?_, trivial⟩, rfl⟩
    exact blk_by (cut_spl (by omega)).symm
  · replace h6 := of_decide_eq_false h6
    have e0 : 8 = i0 := by omega
    subst e0
    refine ⟨⟨by first | omega | (simp <;> omega), by first | omega | (simp <;> omega)⟩, ?_⟩
    refine ⟨⟨rfl, by first | omega | (simp <;> omega), by first | omega | (simp <;> omega)⟩, ?_⟩   -- sta ['.t', 2] ['.t', 15] 512
    refine ⟨rfl, ⟨by first | omega | (simp <;> omega), by first | omega | (simp <;> omega)⟩, [], ?_, rfl, trivial, rfl, rfl⟩
    exact one_ag out_cut

theorem l_toTable_ok (B : Bs P ρ) (E : E_l_toTable P ρ) {f : By} : CallOK P ρ 25 [.ag [] 512 f] [] (.one (.ag [] 512 f)) [] := (l_toTable_raw_ok B E).conv eqL_rfl eq_cut eqH_rfl
def hopR (f : By) : By := spl (spl (spl (spl (spl (fun _ => 0) 2 8 (sh f 2)) 10 512 (sh f 10)) 522 8 (sh f 522)) 530 512 (sh f 530)) 1042 64 (sh f 1042)
theorem hopR_eq {f : By} {x : Nat} (h1 : 2 ≤ x) (h2 : x < 1106) : hopR f x = f x := by
  simp only [hopR, spl, sh]
  by_cases e1 : 1042 ≤ x
  · rw [if_pos (by omega), show 1042 + (x - 1042) = x by omega]
  · rw [if_neg (by omega)]
    by_cases e2 : 530 ≤ x
    · rw [if_pos (by omega), show 530 + (x - 530) = x by omega]
    · rw [if_neg (by omega)]
      by_cases e3 : 522 ≤ x
      · rw [if_pos (by omega), show 522 + (x - 522) = x by omega]
      · rw [if_neg (by omega)]
        by_cases e4 : 10 ≤ x
        · rw [if_pos (by omega), show 10 + (x - 10) = x by omega]
        · rw [if_neg (by omega), if_pos (by omega), show 2 + (x - 2) = x by omega]

theorem l_toHopf_raw_ok (B : Bs P ρ) (E : E_l_toHopf P ρ) {p n : Int} {f : By} :
    CallOK P ρ 0 [.ag [p, n] 1106 f] [] (.one (.ag [p, n] 1106 (hopR f))) [] := by
  refine call_of_vc B.fn B.mo E.1 rfl rfl ?_
  refine ⟨0, rfl, ?_⟩
  refine ⟨1, rfl, ?_⟩
  refine ⟨2, rfl, ?_⟩
  refine ⟨⟨by first | omega | (simp <;> omega), by first | omega | (simp <;> omega)⟩, ?_⟩
  refine .inl ⟨3, [], _, _, _, _, [_, _, _], rfl, l_toVector_ok B E.2.1 , rfl, trivial, rfl, rfl, ?_⟩
  refine ⟨⟨rfl, by first | omega | (simp <;> omega), by first | omega | (simp <;> omega)⟩, ?_⟩   -- sta ['.t', 13] ['.t', 12] 8
  refine ⟨⟨by first | omega | (simp <;> omega), by first | omega | (simp <;> omega)⟩, ?_⟩
  refine .inl ⟨3, [], _, _, _, _, [_, _, _], rfl, l_toTable_ok B E.2.2.1 , rfl, trivial, rfl, rfl, ?_⟩
  refine ⟨⟨rfl, by first | omega | (simp <;> omega), by first | omega | (simp <;> omega)⟩, ?_⟩   -- sta ['.t', 17] ['.t', 16] 512
  refine ⟨⟨by first | omega | (simp <;> omega), by first | omega | (simp <;> omega)⟩, ?_⟩
  refine .inl ⟨3, [], _, _, _, _, [_, _, _], rfl, l_toVector_ok B E.2.1 , rfl, trivial, rfl, rfl, ?_⟩
  refine ⟨⟨rfl, by first | omega | (simp <;> omega), by first | omega | (simp <;> omega)⟩, ?_⟩   -- sta ['.t', 21] ['.t', 20] 8
  refine ⟨⟨by first | omega | (simp <;> omega), by first | omega | (simp <;> omega)⟩, ?_⟩
  refine .inl ⟨3, [], _, _, _, _, [_, _, _], rfl, l_toTable_ok B E.2.2.1 , rfl, trivial, rfl, rfl, ?_⟩
  refine ⟨⟨rfl, by first | omega | (simp <;> omega), by first | omega | (simp <;> omega)⟩, ?_⟩   -- sta ['.t', 25] ['.t', 24] 512
  refine ⟨⟨by first | omega | (simp <;> omega), by first | omega | (simp <;> omega)⟩, ?_⟩
  refine .inl ⟨3, [], _, _, _, _, [_, _, _], rfl, l_toLinear_ok B E.2.2.2 , rfl, trivial, rfl, rfl, ?_⟩
  refine ⟨⟨rfl, by first | omega | (simp <;> omega), by first | omega | (simp <;> omega)⟩, ?_⟩   -- sta ['.t', 29] ['.t', 28] 64
  exact ⟨rfl, ⟨by first | omega | (simp <;> omega), by first | omega | (simp <;> omega)⟩, [], rfl, rfl, trivial, rfl, rfl⟩

theorem l_toHopf_ok (B : Bs P ρ) (E : E_l_toHopf P ρ) {p n : Int} {f : By} : CallOK P ρ 0 [.ag [p, n] 1106 f] [] (.one (.ag [p, n] 1106 f)) [] := (l_toHopf_raw_ok B E).conv eqL_rfl ⟨_, rfl, fun _ h1 h2 => hopR_eq h1 h2⟩ eqH_rfl

noncomputable def ob (q : Prop) (f : By) : By := if q then f else fun _ => 0
noncomputable def oc (q : Prop) (c : Int) : Int := if q then 0 else c
theorem oc_t {q : Prop} (h : q) {c : Int} : oc q c = 0 := if_pos h
theorem oc_f {q : Prop} (h : ¬ q) {c : Int} : oc q c = c := if_neg h

-- left out: i_RegularModule (not among the functions at hand)
-- left out: s_RegularModule (not among the functions at hand)
-- left out: l_FnExactRegularModule (not among the functions at hand)
end Hf
namespace Hf
open Go Classical
variable {P : Program} {ρ : Nat → FuncId}
theorem vec_more {a N : Nat} {p : Int} {X : Nat → Int} (h : a ≤ N) (h0 : ∀ y, a ≤ y → y < N → X y = 0) : vec a p X = vec N p X := by
  funext y
  simp only [vec]
  by_cases e : y < a
  · rw [if_pos e, if_pos (by omega)]
  · rw [if_neg e]
    by_cases e2 : y < N
    · rw [if_pos e2, h0 y (by omega) e2]; simp; rfl
    · rw [if_neg e2]
/-- two linear maps one after the other: first fb, at ob -/
def aft (fa fb : By) (oa ob y : Nat) : Int := sm 8 fun k => bz fb (ob + y / 8 * 8 + k) * bz fa (oa + k * 8 + y % 8)
/-- the linear map that leads each vector to itself -/
def sam (n : Nat) : By := fun y => if y / 8 < n ∧ y % 8 = y / 8 then 1 else 0
theorem sam_0 : sam 0 = fun _ => 0 := by funext y; simp only [sam]; rw [if_neg (by omega)]
theorem sam_s {i : Nat} (hi : i < 8) : spl (sam i) (i * 8) 8 (bas i) = sam (i + 1) := by
  funext y
  simp only [spl, sam, bas]
  by_cases e : i * 8 ≤ y ∧ y < i * 8 + 8
  · rw [if_pos e]
    by_cases e2 : y - i * 8 = i
    · rw [if_pos e2, if_pos (by omega)]
    · rw [if_neg e2, if_neg (by omega)]
  · rw [if_neg e]
    by_cases e2 : y / 8 < i ∧ y % 8 = y / 8
    · rw [if_pos e2, if_pos (by omega)]
    · rw [if_neg e2, if_neg (by omega)]
theorem sam_out {n : Nat} (hn : n ≤ 8) : ∀ y, 64 ≤ y → sam n y = 0 := fun y hy => by simp only [sam]; rw [if_neg (by omega)]

theorem i_field_after_ok (B : Bs P ρ) (E : E_i_field_after P ρ) {p n : Int} {g fa fb : By} {hda hdb : List Int} {Na Nb oa ob : Nat} (hp : 1 ≤ p) (hp2 : p ≤ 256) (hoa : hda.length ≤ oa) (hNa : oa + 64 ≤ Na) (hob : hdb.length ≤ ob) (hNb : ob + 64 ≤ Nb) :
    CallOK P ρ 33 [.ag [p, n] 2 g, .pt 0 oa, .pt 1 ob] [⟨true, .by hda Na fa⟩, ⟨true, .by hdb Nb fb⟩] (.one (.ag [] 64 (vec 64 p (aft fa fb oa ob)))) [⟨true, .by hda Na fa⟩, ⟨true, .by hdb Nb fb⟩] := by
  refine call_of_vc B.fn B.mo E.1 rfl rfl ?_
  refine ⟨2, rfl, ?_⟩
  refine ⟨3, rfl, ?_⟩
  refine ⟨4, rfl, ?_⟩
  refine ⟨⟨rfl, by first | omega | (simp <;> omega), by first | omega | (simp <;> omega)⟩, ?_⟩   -- sta ['.t', 7] ['.t', 9] 64
  refine .inl ⟨(fun a1 a2 b0 b1 b2 b3 i0 => St.mk [(1, a1), (2, a2), (3, .one (.pt 2 0)), (6, .one (.pt 3 0)), (7, .one (.pt 4 0)), (10, .one (.i .i64 ((i0 : Nat) : Int)))] [b0, b1, b2, b3, Blk.mk false (.by [] 64 (vec (i0 * 8) p (aft fa fb oa ob)))]) _ _ _ _ _ _ , fun i0 => True, 8, trivial, ⟨⟨rfl, rfl, rfl, rfl, rfl, rfl, trivial⟩, ⟨rfl, rfl, rfl, rfl, ?_, trivial⟩, rfl⟩, fun i0 hi0 _ => ?_⟩
  · refine blk_by ?_
    rw [z_spl _ _ (fun _ _ => rfl)]
    rfl
  refine ⟨fun h11 => ?_, fun h11 => ?_⟩
  · replace h11 := of_decide_eq_true h11
    refine ⟨i0, ob + i0 * 8, rfl, by omega, by omega, ?_⟩
    refine ⟨⟨by first | omega | (simp <;> omega), by first | omega | (simp <;> omega)⟩, ?_⟩
    refine ⟨5, [0], _, _, _, _, [_, _, _, _, _], rfl, i_field_apply_ok B E.2 (m := 8) hp hp2 hoa hNa (by omega) (fun i h1 h2 => by omega), rfl, ⟨⟨_, rfl, fun h => by first | rfl | cases h⟩, trivial⟩, rfl, rfl, rfl, ?_⟩
    refine ⟨i0, i0 * 8, rfl, by omega, by omega, ?_⟩
    refine ⟨⟨rfl, by first | omega | (simp <;> omega), by first | omega | (simp <;> omega)⟩, ?_⟩   -- sta ['.t', 22] ['.t', 21] 8
    refine ⟨((i0 + 1 : Nat) : Int), w64_id _ (by omega) (by omega), ?_⟩
    refine ⟨by omega, trivial, ⟨rfl, rfl, rfl, rfl, rfl, rfl, trivial⟩, ⟨rfl, rfl, rfl, rfl, ?_, trivial⟩, rfl⟩
    refine blk_by ?_
    rw [show (i0 + 1) * 8 = i0 * 8 + 8 by omega]
    refine (spl_vec (y := fun y => sm 8 fun k => bz fb (ob + i0 * 8 + k) * bz fa (oa + k * 8 + y)) (fun k hk => rfl) fun k hk => ?_).symm
    unfold aft
    rw [show (i0 * 8 + k) / 8 = i0 by omega, show (i0 * 8 + k) % 8 = k by omega]
    rfl
  · replace h11 := of_decide_eq_false h11
    have e0 : 8 = i0 := by omega
    subst e0
    refine ⟨⟨by first | omega | (simp <;> omega), by first | omega | (simp <;> omega)⟩, ?_⟩
    refine ⟨⟨rfl, by first | omega | (simp <;> omega), by first | omega | (simp <;> omega)⟩, ?_⟩   -- sta ['.t', 6] ['.t', 24] 64
    refine ⟨rfl, ⟨by first | omega | (simp <;> omega), by first | omega | (simp <;> omega)⟩, [], ?_, rfl, ⟨rfl, rfl, trivial⟩, rfl, rfl⟩
    exact one_ag out_vec

-- left out: s_l01Then (not among the functions at hand)
-- left out: i_field_trace (not among the functions at hand)
-- left out: s_l01Trace (not among the functions at hand)
theorem i_field_identity_ok (B : Bs P ρ) (E : E_i_field_identity P ρ) {p : Int} {n : Nat} {g : By} (hn : n ≤ 8) :
    CallOK P ρ 44 [.ag [p, (n : Int)] 2 g] [] (.one (.ag [] 64 (sam n))) [] := by
  refine call_of_vc B.fn B.mo E.1 rfl rfl ?_
  refine ⟨0, rfl, ?_⟩
  refine ⟨1, rfl, ?_⟩
  refine ⟨2, rfl, ?_⟩
  refine ⟨⟨rfl, by first | omega | (simp <;> omega), by first | omega | (simp <;> omega)⟩, ?_⟩   -- sta ['.t', 3] ['.t', 5] 64
  refine .inl ⟨(fun a7 b0 b1 i0 => St.mk [(2, .one (.pt 1 0)), (3, .one (.pt 2 0)), (7, a7), (8, .one (.i .i64 ((i0 : Nat) : Int)))] [b0, b1, Blk.mk false (.by [] 64 (sam i0))]) _ _ _ , fun i0 => True, n, trivial, ⟨⟨rfl, rfl, rfl, rfl, trivial⟩, ⟨rfl, rfl, ?_, trivial⟩, rfl⟩, fun i0 hi0 _ => ?_⟩
  · exact blk_by (by rw [z_sta]; exact sam_0)
  refine ⟨fun h9 => ?_, fun h9 => ?_⟩
  · replace h9 := of_decide_eq_true h9
    refine .inl ⟨3, [], _, _, _, _, [_, _, _], rfl, i_basis_ok B E.2 (i := i0) (by omega), rfl, trivial, rfl, rfl, ?_⟩
    refine ⟨i0, i0 * 8, rfl, by omega, by omega, ?_⟩
    refine ⟨⟨rfl, by first | omega | (simp <;> omega), by first | omega | (simp <;> omega)⟩, ?_⟩   -- sta ['.t', 14] ['.t', 13] 8
    refine ⟨((i0 + 1 : Nat) : Int), w64_id _ (by omega) (by omega), ?_⟩
    refine ⟨by omega, trivial, ⟨rfl, rfl, rfl, rfl, trivial⟩, ⟨rfl, rfl, ?_, trivial⟩, rfl⟩
    exact blk_by (sam_s (by omega)).symm
  · replace h9 := of_decide_eq_false h9
    have e0 : n = i0 := by omega
    subst e0
    refine ⟨⟨by first | omega | (simp <;> omega), by first | omega | (simp <;> omega)⟩, ?_⟩
    refine ⟨⟨rfl, by first | omega | (simp <;> omega), by first | omega | (simp <;> omega)⟩, ?_⟩   -- sta ['.t', 2] ['.t', 16] 64
    refine ⟨rfl, ⟨by first | omega | (simp <;> omega), by first | omega | (simp <;> omega)⟩, [], ?_, rfl, trivial, rfl, rfl⟩
    exact one_ag (out_eq (fun _ _ => rfl) (sam_out hn))

-- left out: s_l03Same (not among the functions at hand)
end Hf
namespace Hf
open Go Classical
variable {P : Program} {ρ : Nat → FuncId}
theorem sm_bas {d k : Nat} {X : Nat → Int} (hk : k < d) : sm d (fun l => bz (bas k) l * X l) = X k := by
  have e : ∀ l, bz (bas k) l = if l = k then 1 else 0 := fun l => by
    simp only [bz, bas]; split <;> rfl
  rw [sm_ext (n := k + 1) (by omega) fun l h1 h2 => by rw [e l, if_neg (by omega), Int.zero_mul]]
  simp only [sm]
  rw [sm_zero fun l hl => by rw [e l, if_neg (by omega), Int.zero_mul], e k, if_pos rfl]; omega
theorem vec_cg {N : Nat} {p : Int} {X Y : Nat → Int} (hp : 1 ≤ p) (hp2 : p ≤ 256) {x : Nat} (hx : x < N) : vec N p X x = vec N p Y x ↔ cg p (X x) (Y x) := by
  simp only [vec]
  rw [if_pos hx, if_pos hx]
  exact ⟨fun h => byt_mod_inj hp hp2 h, fun h => congrArg byt h⟩
theorem vec_is {N : Nat} {p : Int} {X : Nat → Int} {g : By} (hp : 1 ≤ p) (hp2 : p ≤ 256) {x : Nat} (hx : x < N) (hg : bz g x < p) : vec N p X x = g x ↔ cg p (X x) (bz g x) := by
  have e : g x = vec N p (fun y => bz g y) x := by
    simp only [vec]
    rw [if_pos hx, Int.emod_eq_of_lt (bz_nn g x) hg, byt_bz]
  rw [e]
  exact vec_cg hp hp2 hx
theorem bas_lt {p : Int} (hp : 2 ≤ p) (k x : Nat) : bz (bas k) x < p := by
  simp only [bz, bas]
  split
  · show (1 : Int) < p; omega
  · show (0 : Int) < p; omega
/-- the tables of a module: Acts stand from 1 on -/
def TabM (p n d : Int) (g : By) : Prop := ∀ i : Nat, i < 8 → Lin p d d g (1 + i * 64) ∧ (n ≤ i → ∀ k : Nat, k < 64 → bz g (1 + i * 64 + k) = 0)
def actN (m d : Nat) (g a : By) (y : Nat) : Int := if y / 8 < d then sm m fun i => bz a i * bz g (1 + i * 64 + y) else 0
def acV (n d : Nat) (g a v : By) (y : Nat) : Int := sm n fun i => bz a i * sm d fun k => bz v k * bz g (1 + i * 64 + (k * 8 + y))
def MU (p : Int) (n : Nat) (g f : By) (k : Nat) : Prop := ∀ y, y < 8 → cg p (sm n fun l => bz f (2 + l) * bz g (1 + l * 64 + (k * 8 + y))) (bz (bas k) y)
def MA (p : Int) (n d : Nat) (g f : By) (i j k : Nat) : Prop := ∀ y, y < 8 → cg p (sm n fun l => bz f (10 + i * 64 + j * 8 + l) * bz g (1 + l * 64 + (k * 8 + y))) (sm d fun l => bz g (1 + j * 64 + k * 8 + l) * bz g (1 + i * 64 + (l * 8 + y)))
def Mod (p : Int) (n : Nat) (d : Int) (g f : By) : Prop := (Shp p d ∧ TabM p n d g) ∧ (∀ k, k < d.toNat → MU p n g f k) ∧ ∀ i j, i < n → j < n → ∀ k, k < d.toNat → MA p n d.toNat g f i j k
theorem TabM.z {p n d : Int} {g : By} (h : TabM p n d g) {i k l : Nat} (hi : i < 8) (hk : k < 8) (hl : l < 8) (hz : n ≤ i ∨ d ≤ k ∨ d ≤ l) : bz g (1 + i * 64 + k * 8 + l) = 0 := by
  have h1 := h i hi
  rcases hz with hz | hz | hz
  · have := h1.2 hz (k * 8 + l) (by omega)
    rwa [← Nat.add_assoc] at this
  · exact (h1.1 k hk).2 hz l hl
  · exact ((h1.1 k hk).1 l hl).2 hz
theorem MU_s {p : Int} {n d k : Nat} {g f : By} (hp : 2 ≤ p) (hp2 : p ≤ 256) (hk : k < d) : (∀ x, x < 8 → vec 8 p (acV n d g (sh f 2) (bas k)) x = bas k x) ↔ MU p n g f k := by
  refine forall_congr' fun y => imp_congr_right fun hy => ?_
  rw [vec_is (by omega) hp2 hy (bas_lt hp k y)]
  have e : acV n d g (sh f 2) (bas k) y = sm n fun l => bz f (2 + l) * bz g (1 + l * 64 + (k * 8 + y)) := by
    unfold acV
    exact sm_congr fun i _ => by rw [sm_bas hk]; rfl
  rw [e]
theorem MA_s {p : Int} {n d i j k : Nat} {g f : By} (hp : 2 ≤ p) (hp2 : p ≤ 256) (hk : k < d) : (∀ x, x < 8 → vec 8 p (acV n d g (sh f (10 + i * 64 + j * 8)) (bas k)) x = vec 8 p (fun y => sm d fun l => bz (sh g (1 + j * 64 + k * 8)) l * bz (sh g (1 + i * 64)) (l * 8 + y)) x) ↔ MA p n d g f i j k := by
  refine forall_congr' fun y => imp_congr_right fun hy => ?_
  rw [vec_cg (by omega) hp2 hy]
  have e : acV n d g (sh f (10 + i * 64 + j * 8)) (bas k) y = sm n fun l => bz f (10 + i * 64 + j * 8 + l) * bz g (1 + l * 64 + (k * 8 + y)) := by
    unfold acV
    exact sm_congr fun i _ => by rw [sm_bas hk]; rfl
  rw [e]
  rfl
theorem rows_iff {q : Nat → Prop} : (∀ x, x < 64 → q x) ↔ ∀ k, k < 8 → ∀ y, y < 8 → q (k * 8 + y) := by
  refine ⟨fun h k hk y hy => h _ (by omega), fun h x hx => ?_⟩
  have := h (x / 8) (by omega) (x % 8) (by omega)
  rwa [show x / 8 * 8 + x % 8 = x by omega] at this
theorem MU_i {p : Int} {n d : Nat} {g f : By} (hp : 2 ≤ p) (hp2 : p ≤ 256) (hn : n ≤ 8) (hd : d ≤ 8) (hu : ∀ k, n ≤ k → k < 8 → bz f (2 + k) = 0) : (∀ x, x < 64 → vec 64 p (actN 8 d g (sh f 2)) x = sam d x) ↔ ∀ k, k < d → MU p n g f k := by
  rw [rows_iff]
  have key : ∀ k, k < 8 → ∀ y, y < 8 → (vec 64 p (actN 8 d g (sh f 2)) (k * 8 + y) = sam d (k * 8 + y) ↔ (k < d → cg p (sm n fun l => bz f (2 + l) * bz g (1 + l * 64 + (k * 8 + y))) (bz (bas k) y))) := by
    intro k hk y hy
    by_cases e : k < d
    · have e1 : sam d (k * 8 + y) = bas k y := by
        simp only [sam, bas]
        by_cases e2 : y = k
        · rw [if_pos (by omega), if_pos e2]
        · rw [if_neg (by omega), if_neg e2]
      have e3 : vec 64 p (actN 8 d g (sh f 2)) (k * 8 + y) = vec 8 p (fun y => actN 8 d g (sh f 2) (k * 8 + y)) y := by
        simp only [vec]; rw [if_pos (by omega), if_pos hy]
      rw [e1, e3, vec_is (by omega) hp2 hy (bas_lt hp k y)]
      have e4 : actN 8 d g (sh f 2) (k * 8 + y) = sm n fun l => bz f (2 + l) * bz g (1 + l * 64 + (k * 8 + y)) := by
        unfold actN
        rw [if_pos (by omega)]
        exact sm_8n hn fun i h1 h2 => by rw [bz_sh, hu i h1 h2, Int.zero_mul]
      rw [e4]
      exact ⟨fun h _ => h, fun h => h e⟩
    · refine ⟨fun _ h => (e h).elim, fun _ => ?_⟩
      have e1 : sam d (k * 8 + y) = 0 := by simp only [sam]; rw [if_neg (by omega)]
      rw [e1]
      simp only [vec]
      rw [if_pos (by omega), actN, if_neg (by omega)]; simp; rfl
  constructor
  · intro h k hk y hy
    exact (key k (by omega) y hy).1 (h k (by omega) y hy) hk
  · intro h k hk y hy
    exact (key k hk y hy).2 fun hd => h k hd y hy
theorem MA_i {p : Int} {n d i j : Nat} {g f : By} (hp : 2 ≤ p) (hp2 : p ≤ 256) (hn : n ≤ 8) (hd : d ≤ 8) (hi : i < 8) (hj : j < 8) (hT : TabM p n d g) (hu : ∀ k, n ≤ k → k < 8 → bz f (10 + i * 64 + j * 8 + k) = 0) :
    (∀ x, x < 64 → vec 64 p (actN 8 d g (sh f (10 + i * 64 + j * 8))) x = vec 64 p (aft g g (1 + i * 64) (1 + j * 64)) x) ↔ ∀ k, k < d → MA p n d g f i j k := by
  rw [rows_iff]
  have key : ∀ k, k < 8 → ∀ y, y < 8 → (vec 64 p (actN 8 d g (sh f (10 + i * 64 + j * 8))) (k * 8 + y) = vec 64 p (aft g g (1 + i * 64) (1 + j * 64)) (k * 8 + y) ↔ (k < d → cg p (sm n fun l => bz f (10 + i * 64 + j * 8 + l) * bz g (1 + l * 64 + (k * 8 + y))) (sm d fun l => bz g (1 + j * 64 + k * 8 + l) * bz g (1 + i * 64 + (l * 8 + y))))) := by
    intro k hk y hy
    rw [vec_cg (by omega) hp2 (by omega)]
    have e5 : aft g g (1 + i * 64) (1 + j * 64) (k * 8 + y) = sm d fun l => bz g (1 + j * 64 + k * 8 + l) * bz g (1 + i * 64 + (l * 8 + y)) := by
      unfold aft
      rw [show (k * 8 + y) / 8 = k by omega, show (k * 8 + y) % 8 = y by omega]
      rw [sm_8n (n := d) hd fun l h1 h2 => by rw [hT.z hj hk h2 (.inr (.inr (by omega))), Int.zero_mul]]
      exact sm_congr fun l _ => by rw [Nat.add_assoc (1 + i * 64)]
    rw [e5]
    by_cases e : k < d
    · have e4 : actN 8 d g (sh f (10 + i * 64 + j * 8)) (k * 8 + y) = sm n fun l => bz f (10 + i * 64 + j * 8 + l) * bz g (1 + l * 64 + (k * 8 + y)) := by
        unfold actN
        rw [if_pos (by omega)]
        exact sm_8n hn fun i h1 h2 => by rw [bz_sh, hu i h1 h2, Int.zero_mul]
      rw [e4]
      exact ⟨fun h _ => h, fun h => h e⟩
    · refine ⟨fun _ h => (e h).elim, fun _ => cg_of_eq ?_⟩
      rw [actN, if_neg (by omega)]
      exact (sm_zero fun l hl => by rw [hT.z hj hk (by omega) (.inr (.inl (by omega))), Int.zero_mul]).symm
  constructor
  · intro h k hk y hy
    exact (key k (by omega) y hy).1 (h k (by omega) y hy) hk
  · intro h k hk y hy
    exact (key k hk y hy).2 fun hd => h k hd y hy

theorem i_Module_field_ok (B : Bs P ρ) (E : E_i_Module_field P ρ) {p n d : Int} {f g : By} :
    CallOK P ρ 151 [.pt 0 0, .pt 1 0] [⟨true, .by [d] 513 g⟩, ⟨true, .by [p, n] 1106 f⟩] (.one (.ag [p, d] 2 (fun _ => 0))) [⟨true, .by [d] 513 g⟩, ⟨true, .by [p, n] 1106 f⟩] := by
  refine call_of_vc B.fn B.mo E rfl rfl ?_
  refine ⟨2, rfl, ?_⟩
  exact ⟨rfl, ⟨by first | omega | (simp <;> omega), by first | omega | (simp <;> omega)⟩, [], rfl, rfl, ⟨rfl, rfl, trivial⟩, rfl, rfl⟩

theorem i_Module_isShaped_ok (B : Bs P ρ) (E : E_i_Module_isShaped P ρ) {p n d : Int} {f g : By} :
    CallOK P ρ 152 [.pt 0 0, .pt 1 0] [⟨true, .by [d] 513 g⟩, ⟨true, .by [p, n] 1106 f⟩] (.one (.b (decide (Shp p d ∧ TabM p n d g)))) [⟨true, .by [d] 513 g⟩, ⟨true, .by [p, n] 1106 f⟩] := by
  refine call_of_vc B.fn B.mo E.1 rfl rfl ?_
  refine .inl ⟨(fun a0 a1 b0 b1 i0 => St.mk [(0, a0), (1, a1), (6, .one (.i .i64 ((i0 : Nat) : Int)))] [b0, b1]) _ _ _ _ , fun i0 => ∀ i : Nat, i < i0 → (Shp p d ∧ Lin p d d g (1 + i * 64)) ∧ (n ≤ i → ∀ k : Nat, k < 64 → bz g (1 + i * 64 + k) = 0), 8, fun _ _ => by omega, ⟨⟨rfl, rfl, rfl, trivial⟩, ⟨rfl, rfl, trivial⟩, rfl⟩, fun i0 hi0 hF0 => ?_⟩
  refine ⟨fun h7 => ?_, fun h7 => ?_⟩
  · replace h7 := of_decide_eq_true h7
    refine ⟨i0, 1 + i0 * 64, rfl, by omega, by omega, ?_⟩
    refine ⟨2, [0], _, _, _, _, [_, _], rfl, i_isLinear_ok B E.2 (by simp <;> omega) (by omega), rfl, ⟨⟨_, rfl, fun h => by first | rfl | cases h⟩, trivial⟩, rfl, rfl, rfl, ?_⟩
    refine ⟨fun h28 => ?_, fun h28 => ?_⟩
    · skip
      have h28' := dec_elim_t' (not_t h28)
      refine brB_t ?_
      refine brB_t ?_
      refine brB_t ?_
      refine brB_t ?_
      refine brB_t ?_
      refine brB_t ?_
      refine brB_t ?_
      refine brB_t ?_
      refine brB_t ?_
      refine ⟨rfl, [], ?_, rfl, ⟨rfl, rfl, trivial⟩, rfl, rfl⟩
      exact one_b (dec_f fun q => h28' ⟨q.1, (q.2 i0 (by omega)).1⟩)
    · skip
      have h28' := dec_elim_t (not_f h28)
      refine brB_f ?_
      refine brB_f ?_
      refine brB_f ?_
      refine brB_f ?_
      refine brB_f ?_
      refine brB_f ?_
      refine ⟨fun h35 => ?_, fun h35 => ?_⟩
      · replace h35 := of_decide_eq_true h35
        refine brB_t ?_
        refine brB_t ?_
        refine brB_t ?_
        refine brB_t ?_
        refine ⟨i0, 1 + i0 * 64, rfl, by omega, by omega, ?_⟩
        refine brB_t ?_
        refine ⟨⟨by first | omega | (simp <;> omega), by first | omega | (simp <;> omega)⟩, ?_⟩
        refine brB_t ?_
        refine brB_t ?_
        refine brB_f ?_
        refine brB_t ?_
        refine brB_f ?_
        refine ⟨fun h45 => ?_, fun h45 => ?_⟩
        · skip
          have h45' := not_t h45
          refine ⟨rfl, [], ?_, rfl, ⟨rfl, rfl, trivial⟩, rfl, rfl⟩
          refine one_b (dec_f fun q => ?_)
          have := eqB_z.2 ((q.2 i0 (by omega)).2 h35)
          erw [this] at h45'; cases h45'
        · skip
          have h45' := not_f h45
          refine ⟨((i0 + 1 : Nat) : Int), w64_id _ (by omega) (by omega), ?_⟩
          refine ⟨by omega, ?_, ⟨rfl, rfl, rfl, trivial⟩, ⟨rfl, rfl, trivial⟩, rfl⟩
          intro i hi
          by_cases e : i = i0
          · subst e
            exact ⟨h28', fun _ => eqB_z.1 h45'⟩
          · exact hF0 i (by omega)
      · replace h35 := of_decide_eq_false h35
        refine brB_f ?_
        refine brB_f ?_
        refine brB_f ?_
        refine brB_f ?_
        refine brB_f ?_
        refine brB_f ?_
        refine brB_f ?_
        refine brB_f ?_
        refine brB_f ?_
        refine brB_f ?_
        refine brB_f ?_
        refine ⟨((i0 + 1 : Nat) : Int), w64_id _ (by omega) (by omega), ?_⟩
        refine ⟨by omega, ?_, ⟨rfl, rfl, rfl, trivial⟩, ⟨rfl, rfl, trivial⟩, rfl⟩
        intro i hi
        by_cases e : i = i0
        · subst e
          exact ⟨h28', fun q => (h35 q).elim⟩
        · exact hF0 i (by omega)
  · replace h7 := of_decide_eq_false h7
    have e0 : 8 = i0 := by omega
    subst e0
    refine ⟨rfl, [], ?_, rfl, ⟨rfl, rfl, trivial⟩, rfl, rfl⟩
    exact one_b (dec_t ⟨(hF0 0 (by omega)).1.1, fun i hi => ⟨(hF0 i hi).1.2, (hF0 i hi).2⟩⟩)

theorem i_Module_acts_ok (B : Bs P ρ) (E : E_i_Module_acts P ρ) {p n : Int} {d : Nat} {f g a : By} (hp : 1 ≤ p) (hp2 : p ≤ 256) (hd : d ≤ 8) :
    CallOK P ρ 153 [.pt 0 0, .pt 1 0, .ag [] 8 a] [⟨true, .by [(d : Int)] 513 g⟩, ⟨true, .by [p, n] 1106 f⟩] (.one (.ag [] 64 (vec 64 p (actN 8 d g a)))) [⟨true, .by [(d : Int)] 513 g⟩, ⟨true, .by [p, n] 1106 f⟩] := by
  refine call_of_vc B.fn B.mo E.1 rfl rfl ?_
  refine ⟨2, rfl, ?_⟩
  refine ⟨3, rfl, ?_⟩
  refine .inl ⟨4, [0, 1], _, _, _, _, [_, _, _, _], rfl, i_Module_field_ok B E.2.1 , rfl, ⟨⟨_, rfl, fun h => by first | rfl | cases h⟩, ⟨_, rfl, fun h => by first | rfl | cases h⟩, trivial⟩, rfl, rfl, ?_⟩
  refine ⟨4, rfl, ?_⟩
  refine ⟨5, rfl, ?_⟩
  refine ⟨⟨rfl, by first | omega | (simp <;> omega), by first | omega | (simp <;> omega)⟩, ?_⟩   -- sta ['.t', 8] ['.t', 15] 64
  refine ⟨⟨by first | omega | (simp <;> omega), by first | omega | (simp <;> omega)⟩, ?_⟩
  refine .inl ⟨(fun a0 a16 b0 b1 b2 b3 b4 i0 => St.mk [(0, a0), (6, .one (.pt 3 0)), (7, .one (.pt 4 0)), (8, .one (.pt 5 0)), (16, a16), (17, .one (.i .i64 ((i0 : Nat) : Int)))] [b0, b1, b2, b3, b4, Blk.mk false (.by [] 64 (vec 64 p (actN i0 d g a)))]) _ _ _ _ _ _ _ , fun i0 => True, 8, trivial, ⟨⟨rfl, rfl, rfl, rfl, rfl, rfl, trivial⟩, ⟨rfl, rfl, rfl, rfl, rfl, ?_, trivial⟩, rfl⟩, fun i0 hi0 _ => ?_⟩
  · refine blk_by ?_
    rw [z_sta]
    exact vec_zero fun k hk => by simp [actN, sm]
  have q0 := bz_nn (sh a 0) i0
  have q1 := bz_le (sh a 0) i0
  refine ⟨fun h18 => ?_, fun h18 => ?_⟩
  · replace h18 := of_decide_eq_true h18
    refine ⟨_, rfl, by first | omega | (simp <;> omega), by first | omega | (simp <;> omega), ?_⟩
    refine .inl ⟨(fun a0 a9 a10 a16 a17 a22 b0 b1 b2 b3 b4 i1 => St.mk [(0, a0), (6, .one (.pt 3 0)), (7, .one (.pt 4 0)), (8, .one (.pt 5 0)), (9, a9), (10, a10), (16, a16), (17, a17), (22, a22), (23, .one (.i .i64 ((i1 : Nat) : Int)))] [b0, b1, b2, b3, b4, Blk.mk false (.by [] 64 (vec 64 p fun y => actN i0 d g a y + if y / 8 < i1 then bz a i0 * bz g (1 + i0 * 64 + y) else 0))]) _ _ _ _ _ _ _ _ _ _ _ , fun i1 => True, d, trivial, ⟨⟨rfl, rfl, rfl, rfl, rfl, rfl, rfl, rfl, rfl, rfl, trivial⟩, ⟨rfl, rfl, rfl, rfl, rfl, ?_, trivial⟩, rfl⟩, fun i1 hi1 _ => ?_⟩
    · refine blk_by (vec_congr fun y _ => cg_of_eq ?_)
      simp
    refine ⟨fun h24 => ?_, fun h24 => ?_⟩
    · replace h24 := of_decide_eq_true h24
      refine ⟨i1, i1 * 8, rfl, by omega, by omega, ?_⟩
      refine ⟨i0, 1 + i0 * 64, rfl, by omega, by omega, ?_⟩
      refine ⟨i1, 1 + i0 * 64 + i1 * 8, rfl, by omega, by omega, ?_⟩
      refine ⟨⟨by first | omega | (simp <;> omega), by first | omega | (simp <;> omega)⟩, ?_⟩
      refine .inl ⟨6, [5], _, _, _, _, [_, _, _, _, _, _], rfl, i_field_plus_ok B E.2.2 (k := bz (sh a 0) i0) hp (by omega) (by simp) (by omega) (by omega) (by omega) (fun _ _ _ => bz_vec_lt hp hp2), rfl, ⟨⟨_, rfl, fun h => by first | rfl | cases h⟩, trivial⟩, rfl, rfl, ?_⟩
      refine ⟨((i1 + 1 : Nat) : Int), w64_id _ (by omega) (by omega), ?_⟩
      refine ⟨by omega, trivial, ⟨rfl, rfl, rfl, rfl, rfl, rfl, rfl, rfl, rfl, rfl, trivial⟩, ⟨rfl, rfl, rfl, rfl, rfl, ?_, trivial⟩, rfl⟩
      refine blk_by ?_
      rw [pl_vec hp hp2 (by omega)]
      refine vec_congr fun y hy => cg_of_eq ?_
      rw [Int.add_assoc]
      congr 1
      by_cases e1 : i1 * 8 ≤ y ∧ y < i1 * 8 + 8
      · rw [if_pos (by omega), if_neg (by omega), if_pos e1, sh_zero a, bz_sh, Int.zero_add, show 1 + i0 * 64 + i1 * 8 + (y - i1 * 8) = 1 + i0 * 64 + y by omega]
      · rw [if_neg e1, Int.add_zero]
        by_cases e2 : y / 8 < i1
        · rw [if_pos (by omega), if_pos e2]
        · rw [if_neg (by omega), if_neg e2]
    · replace h24 := of_decide_eq_false h24
      have e1 : d = i1 := by omega
      subst e1
      refine ⟨((i0 + 1 : Nat) : Int), w64_id _ (by omega) (by omega), ?_⟩
      refine ⟨by omega, trivial, ⟨rfl, rfl, rfl, rfl, rfl, rfl, trivial⟩, ⟨rfl, rfl, rfl, rfl, rfl, ?_, trivial⟩, rfl⟩
      refine blk_by (vec_congr fun y hy => cg_of_eq ?_)
      unfold actN
      by_cases e1 : y / 8 < d
      · rw [if_pos e1, if_pos e1, if_pos e1]; rfl
      · rw [if_neg e1, if_neg e1, if_neg e1]; rfl
  · replace h18 := of_decide_eq_false h18
    have e0 : 8 = i0 := by omega
    subst e0
    refine ⟨⟨by first | omega | (simp <;> omega), by first | omega | (simp <;> omega)⟩, ?_⟩
    refine ⟨⟨rfl, by first | omega | (simp <;> omega), by first | omega | (simp <;> omega)⟩, ?_⟩   -- sta ['.t', 6] ['.t', 42] 64
    refine ⟨rfl, ⟨by first | omega | (simp <;> omega), by first | omega | (simp <;> omega)⟩, [], ?_, rfl, ⟨rfl, rfl, trivial⟩, rfl, rfl⟩
    exact one_ag (out_vec.trans rfl)

theorem i_Module_isModule_ok (B : Bs P ρ) (E : E_i_Module_isModule P ρ) {p d : Int} {n : Nat} {f g : By} (h : HShp p n f) :
    CallOK P ρ 145 [.pt 0 0, .pt 1 0] [⟨true, .by [d] 513 g⟩, ⟨true, .by [p, (n : Int)] 1106 f⟩] (.one (.b (decide (Mod p n d g f)))) [⟨true, .by [d] 513 g⟩, ⟨true, .by [p, (n : Int)] 1106 f⟩] := by
  refine call_of_vc B.fn B.mo E.1 rfl rfl ?_
  have hb := h.b
  refine .inl ⟨2, [0, 1], _, _, _, _, [_, _], rfl, i_Module_field_ok B E.2.1 , rfl, ⟨⟨_, rfl, fun h => by first | rfl | cases h⟩, ⟨_, rfl, fun h => by first | rfl | cases h⟩, trivial⟩, rfl, rfl, ?_⟩
  refine ⟨2, rfl, ?_⟩
  refine ⟨3, [0, 1], _, _, _, _, [_, _, _], rfl, i_Module_isShaped_ok B E.2.2.1 , rfl, ⟨⟨_, rfl, fun h => by first | rfl | cases h⟩, ⟨_, rfl, fun h => by first | rfl | cases h⟩, trivial⟩, rfl, rfl, rfl, ?_⟩
  refine ⟨fun h15 => ?_, fun h15 => ?_⟩
  · skip
    have h15' : ¬ (Shp p d ∧ TabM p n d g) := dec_elim_t' (not_t h15)
    refine brB_t ?_
    refine brB_t ?_
    refine brB_t ?_
    refine brB_t ?_
    refine brB_t ?_
    refine brB_t ?_
    refine brB_t ?_
    refine brB_t ?_
    refine brB_t ?_
    refine brB_t ?_
    refine brB_t ?_
    refine ⟨rfl, [], ?_, rfl, ⟨rfl, rfl, trivial⟩, rfl, rfl⟩
    exact one_b (dec_f fun q => h15' q.1)
  · skip
    have h15' : Shp p d ∧ TabM p n d g := dec_elim_t (not_f h15)
    have hd := h15'.1.2
    obtain ⟨e, rfl⟩ : ∃ e : Nat, d = (e : Int) := ⟨d.toNat, by omega⟩
    refine brB_f ?_
    refine brB_f ?_
    refine brB_f ?_
    refine brB_f ?_
    refine brB_f ?_
    refine ⟨⟨by first | omega | (simp <;> omega), by first | omega | (simp <;> omega)⟩, ?_⟩
    refine brB_f ?_
    refine ⟨3, [0, 1], _, _, _, _, [_, _, _], rfl, i_Module_acts_ok B E.2.2.2.1 (d := e) (by omega) (by omega) (by omega), rfl, ⟨⟨_, rfl, fun h => by first | rfl | cases h⟩, ⟨_, rfl, fun h => by first | rfl | cases h⟩, trivial⟩, rfl, rfl, rfl, ?_⟩
    refine brB_f ?_
    refine brB_f ?_
    refine .inl ⟨3, [], _, _, _, _, [_, _, _], rfl, i_field_identity_ok B E.2.2.2.2.1 (n := e) (by omega), rfl, trivial, rfl, rfl, ?_⟩
    refine brB_f ?_
    refine brB_f ?_
    refine ⟨fun h26 => ?_, fun h26 => ?_⟩
    · skip
      have z26 : ¬ ∀ k, k < e → MU p n g f k := fun q => neB_t h26 ((MU_i (by omega) (by omega) (by omega) (by omega) fun k h1 h2 => h.unit h1 h2).2 q)
      refine ⟨rfl, [], ?_, rfl, ⟨rfl, rfl, trivial⟩, rfl, rfl⟩
      exact one_b (dec_f fun q => z26 q.2.1)
    · skip
      have z26 : ∀ k, k < e → MU p n g f k := (MU_i (by omega) (by omega) (by omega) (by omega) fun k h1 h2 => h.unit h1 h2).1 (neB_f h26)
      refine .inl ⟨(fun a0 a1 a30 b0 b1 b2 i0 => St.mk [(0, a0), (1, a1), (5, .one (.pt 2 0)), (30, a30), (31, .one (.i .i64 ((i0 : Nat) : Int)))] [b0, b1, b2]) _ _ _ _ _ _ , fun i0 => ∀ i, i < i0 → ∀ j, j < n → ∀ k, k < e → MA p n e g f i j k, n, fun _ _ => by omega, ⟨⟨rfl, rfl, rfl, rfl, rfl, trivial⟩, ⟨rfl, rfl, rfl, trivial⟩, rfl⟩, fun i0 hi0 hF0 => ?_⟩
      refine ⟨fun h32 => ?_, fun h32 => ?_⟩
      · replace h32 := of_decide_eq_true h32
        refine .inl ⟨(fun a0 a1 a6 a30 a31 a37 b0 b1 b2 i1 => St.mk [(0, a0), (1, a1), (5, .one (.pt 2 0)), (6, a6), (30, a30), (31, a31), (37, a37), (38, .one (.i .i64 ((i1 : Nat) : Int)))] [b0, b1, b2]) _ _ _ _ _ _ _ _ _ , fun i1 => ∀ j, j < i1 → ∀ k, k < e → MA p n e g f i0 j k, n, fun _ _ => by omega, ⟨⟨rfl, rfl, rfl, rfl, rfl, rfl, rfl, rfl, trivial⟩, ⟨rfl, rfl, rfl, trivial⟩, rfl⟩, fun i1 hi1 hF1 => ?_⟩
        refine ⟨fun h39 => ?_, fun h39 => ?_⟩
        · replace h39 := of_decide_eq_true h39
          refine ⟨i0, 10 + i0 * 64, rfl, by omega, by omega, ?_⟩
          refine ⟨i1, 10 + i0 * 64 + i1 * 8, rfl, by omega, by omega, ?_⟩
          refine ⟨⟨by first | omega | (simp <;> omega), by first | omega | (simp <;> omega)⟩, ?_⟩
          refine ⟨3, [0, 1], _, _, _, _, [_, _, _], rfl, i_Module_acts_ok B E.2.2.2.1 (d := e) (by omega) (by omega) (by omega), rfl, ⟨⟨_, rfl, fun h => by first | rfl | cases h⟩, ⟨_, rfl, fun h => by first | rfl | cases h⟩, trivial⟩, rfl, rfl, rfl, ?_⟩
          refine ⟨i0, 1 + i0 * 64, rfl, by omega, by omega, ?_⟩
          refine ⟨i1, 1 + i1 * 64, rfl, by omega, by omega, ?_⟩
          refine .inl ⟨3, [0, 0], _, _, _, _, [_, _, _], rfl, i_field_after_ok B E.2.2.2.2.2 (by omega) (by omega) (by simp <;> omega) (by omega) (by simp <;> omega) (by omega), rfl, ⟨⟨_, rfl, fun h => by first | rfl | cases h⟩, ⟨_, rfl, fun h => by first | rfl | cases h⟩, trivial⟩, rfl, rfl, ?_⟩
          refine ⟨fun h64 => ?_, fun h64 => ?_⟩
          · skip
            have z64 : ¬ ∀ k, k < e → MA p n e g f i0 i1 k := fun q => neB_t h64 ((MA_i (by omega) (by omega) (by omega) (by omega) (by omega) (by omega) h15'.2 fun k h1 h2 => h.mul (by omega) (by omega) h2 (.inr (.inr h1))).2 q)
            refine ⟨rfl, [], ?_, rfl, ⟨rfl, rfl, trivial⟩, rfl, rfl⟩
            exact one_b (dec_f fun q => z64 (q.2.2 i0 i1 (by omega) (by omega)))
          · skip
            have z64 : ∀ k, k < e → MA p n e g f i0 i1 k := (MA_i (by omega) (by omega) (by omega) (by omega) (by omega) (by omega) h15'.2 fun k h1 h2 => h.mul (by omega) (by omega) h2 (.inr (.inr h1))).1 (neB_f h64)
            refine ⟨((i1 + 1 : Nat) : Int), w64_id _ (by omega) (by omega), ?_⟩
            refine ⟨by omega, ?_, ⟨rfl, rfl, rfl, rfl, rfl, rfl, rfl, rfl, trivial⟩, ⟨rfl, rfl, rfl, trivial⟩, rfl⟩
            intro j hj
            by_cases e : j = i1
            · subst e; exact z64
            · exact hF1 j (by omega)
        · replace h39 := of_decide_eq_false h39
          have e1 : n = i1 := by omega
          subst e1
          refine ⟨((i0 + 1 : Nat) : Int), w64_id _ (by omega) (by omega), ?_⟩
          refine ⟨by omega, ?_, ⟨rfl, rfl, rfl, rfl, rfl, trivial⟩, ⟨rfl, rfl, rfl, trivial⟩, rfl⟩
          intro i hi j hj
          by_cases e : i = i0
          · subst e; exact hF1 j hj
          · exact hF0 i (by omega) j hj
      · replace h32 := of_decide_eq_false h32
        have e0 : n = i0 := by omega
        subst e0
        refine ⟨rfl, [], ?_, rfl, ⟨rfl, rfl, trivial⟩, rfl, rfl⟩
        exact one_b (dec_t ⟨h15', z26, fun i j hi hj => hF0 i hi j hj⟩)

theorem s_l06Act_ok (B : Bs P ρ) (E : E_s_l06Act P ρ) {p : Int} {n d : Nat} {f g a v : By} (hp : 1 ≤ p) (hp2 : p ≤ 256) (hn : n ≤ 8) (hd : d ≤ 8) :
    CallOK P ρ 150 [.ag [p, (n : Int)] 1106 f, .ag [(d : Int)] 513 g, .ag [] 8 a, .ag [] 8 v] [] (.one (.ag [] 8 (vec 8 p (acV n d g a v)))) [] := by
  refine call_of_vc B.fn B.mo E.1 rfl rfl ?_
  refine ⟨0, rfl, ?_⟩
  refine ⟨1, rfl, ?_⟩
  refine ⟨2, rfl, ?_⟩
  refine ⟨3, rfl, ?_⟩
  refine ⟨4, rfl, ?_⟩
  refine ⟨5, rfl, ?_⟩
  refine ⟨⟨rfl, by first | omega | (simp <;> omega), by first | omega | (simp <;> omega)⟩, ?_⟩   -- sta ['.t', 9] ['.t', 11] 8
  refine .inl ⟨(fun b0 b1 b2 b3 b4 i0 => St.mk [(4, .one (.pt 0 0)), (5, .one (.pt 1 0)), (6, .one (.pt 2 0)), (7, .one (.pt 3 0)), (8, .one (.pt 4 0)), (9, .one (.pt 5 0)), (10, .one (.i .i64 ((i0 : Nat) : Int)))] [b0, b1, b2, b3, b4, Blk.mk false (.by [] 8 (vec 8 p (acV i0 d g a v)))]) _ _ _ _ _ , fun i0 => True, n, trivial, ⟨⟨rfl, rfl, rfl, rfl, rfl, rfl, rfl, trivial⟩, ⟨rfl, rfl, rfl, rfl, rfl, ?_, trivial⟩, rfl⟩, fun i0 hi0 _ => ?_⟩
  · refine blk_by ?_
    rw [z_sta]
    exact vec_0.symm
  have q0 := bz_nn a i0
  have q1 := bz_le a i0
  refine ⟨fun h15 => ?_, fun h15 => ?_⟩
  · replace h15 := of_decide_eq_true h15
    refine ⟨i0, i0, rfl, by omega, by omega, ?_⟩
    refine ⟨⟨by first | omega | (simp <;> omega), by first | omega | (simp <;> omega)⟩, ?_⟩
    refine ⟨fun h21 => ?_, fun h21 => ?_⟩
    · replace h21 := bne_t h21
      refine ⟨⟨by first | omega | (simp <;> omega), by first | omega | (simp <;> omega)⟩, ?_⟩
      refine ⟨i0, 1 + i0 * 64, rfl, by omega, by omega, ?_⟩
      refine ⟨⟨by first | omega | (simp <;> omega), by first | omega | (simp <;> omega)⟩, ?_⟩
      refine ⟨⟨by first | omega | (simp <;> omega), by first | omega | (simp <;> omega)⟩, ?_⟩
      refine ⟨6, [], _, _, _, _, [_, _, _, _, _, _], rfl, s_l01Apply_ok B E.2.1 (n := d) hp hp2 hd, rfl, trivial, rfl, rfl, rfl, ?_⟩
      refine ⟨i0, i0, rfl, by omega, by omega, ?_⟩
      refine ⟨⟨by first | omega | (simp <;> omega), by first | omega | (simp <;> omega)⟩, ?_⟩
      refine .inl ⟨6, [], _, _, _, _, [_, _, _, _, _, _], rfl, s_l01Add_ok B E.2.2 (k := bz a i0) hp (by omega) (by omega) (by omega), rfl, trivial, rfl, rfl, ?_⟩
      refine ⟨⟨rfl, by first | omega | (simp <;> omega), by first | omega | (simp <;> omega)⟩, ?_⟩   -- sta ['.t', 9] ['.t', 39] 8
      refine ⟨((i0 + 1 : Nat) : Int), w64_id _ (by omega) (by omega), ?_⟩
      refine ⟨by omega, trivial, ⟨rfl, rfl, rfl, rfl, rfl, rfl, rfl, trivial⟩, ⟨rfl, rfl, rfl, rfl, rfl, ?_, trivial⟩, rfl⟩
      refine blk_by ?_
      rw [spl_plsN, pl_vec0 hp hp2]
      refine vec_congr fun y hy => cg.symm (cg_add rfl ((cg_mul rfl (cg_vec hp hp2 hy)).trans (cg_of_eq ?_)))
      rw [sh_zero]
      rfl
    · replace h21 := bne_f h21
      refine ⟨((i0 + 1 : Nat) : Int), w64_id _ (by omega) (by omega), ?_⟩
      refine ⟨by omega, trivial, ⟨rfl, rfl, rfl, rfl, rfl, rfl, rfl, trivial⟩, ⟨rfl, rfl, rfl, rfl, rfl, ?_, trivial⟩, rfl⟩
      refine blk_by (vec_congr fun y _ => cg_of_eq ?_)
      unfold acV
      simp only [sm]
      rw [z0_of h21, Int.zero_mul, Int.add_zero]
  · replace h15 := of_decide_eq_false h15
    have e0 : n = i0 := by omega
    subst e0
    refine ⟨⟨by first | omega | (simp <;> omega), by first | omega | (simp <;> omega)⟩, ?_⟩
    refine ⟨⟨rfl, by first | omega | (simp <;> omega), by first | omega | (simp <;> omega)⟩, ?_⟩   -- sta ['.t', 8] ['.t', 40] 8
    refine ⟨rfl, ⟨by first | omega | (simp <;> omega), by first | omega | (simp <;> omega)⟩, [], ?_, rfl, trivial, rfl, rfl⟩
    exact one_ag out_vec

theorem s_l06Holds_ok (B : Bs P ρ) (E : E_s_l06Holds P ρ) {p d : Int} {n : Nat} {f g : By} (h : HShp p n f) :
    CallOK P ρ 143 [.ag [p, (n : Int)] 1106 f, .ag [d] 513 g] [] (.one (.b (decide (Mod p n d g f)))) [] := by
  refine call_of_vc B.fn B.mo E.1 rfl rfl ?_
  have hb := h.b
  refine ⟨0, rfl, ?_⟩
  refine ⟨1, rfl, ?_⟩
  refine .inl ⟨2, [], _, _, _, _, [_, _], rfl, s_l01In_ok B E.2.1 , rfl, trivial, rfl, rfl, ?_⟩
  refine ⟨fun h13 => ?_, fun h13 => ?_⟩
  · skip
    have h13' : ¬ (1 ≤ d ∧ d ≤ 8) := dec_elim_t' (not_t h13)
    refine ⟨rfl, [], ?_, rfl, trivial, rfl, rfl⟩
    exact one_b (dec_f fun q => h13' q.1.1.2)
  · skip
    have h13' : 1 ≤ d ∧ d ≤ 8 := dec_elim_t (not_f h13)
    obtain ⟨e, rfl⟩ : ∃ e : Nat, d = (e : Int) := ⟨d.toNat, by omega⟩
    have hSd : Shp p e := ⟨h.1.1, h13'⟩
    refine .inl ⟨(fun b0 b1 i0 => St.mk [(2, .one (.pt 0 0)), (3, .one (.pt 1 0)), (5, .one (.i .i64 ((i0 : Nat) : Int)))] [b0, b1]) _ _ , fun i0 => ∀ i : Nat, i < i0 → Lin p e e g (1 + i * 64) ∧ ((n : Int) ≤ i → ∀ k : Nat, k < 64 → bz g (1 + i * 64 + k) = 0), 8, fun _ _ => by omega, ⟨⟨rfl, rfl, rfl, trivial⟩, ⟨rfl, rfl, trivial⟩, rfl⟩, fun i0 hi0 hF0 => ?_⟩
    refine ⟨fun h15 => ?_, fun h15 => ?_⟩
    · replace h15 := of_decide_eq_true h15
      refine ⟨i0, 1 + i0 * 64, rfl, by omega, by omega, ?_⟩
      refine ⟨⟨by first | omega | (simp <;> omega), by first | omega | (simp <;> omega)⟩, ?_⟩
      refine ⟨2, [], _, _, _, _, [_, _], rfl, s_l01Linear_ok B E.2.2.1 , rfl, trivial, rfl, rfl, rfl, ?_⟩
      refine ⟨fun h28 => ?_, fun h28 => ?_⟩
      · skip
        have h28' : ¬ Lin p e e g (1 + i0 * 64) := fun q => dec_elim_t' (not_t h28) ((Lin_sh (a := 1 + i0 * 64) (o := 0)).2 q)
        refine brB_t ?_
        refine brB_t ?_
        refine brB_t ?_
        refine brB_t ?_
        refine brB_t ?_
        refine brB_t ?_
        refine brB_t ?_
        refine ⟨rfl, [], ?_, rfl, trivial, rfl, rfl⟩
        exact one_b (dec_f fun q => h28' (q.1.2 i0 (by omega)).1)
      · skip
        have h28' : Lin p e e g (1 + i0 * 64) := (Lin_sh (a := 1 + i0 * 64) (o := 0)).1 (dec_elim_t (not_f h28))
        refine brB_f ?_
        refine brB_f ?_
        refine brB_f ?_
        refine brB_f ?_
        refine ⟨fun h33 => ?_, fun h33 => ?_⟩
        · replace h33 := of_decide_eq_true h33
          refine brB_t ?_
          refine brB_t ?_
          refine ⟨i0, 1 + i0 * 64, rfl, by omega, by omega, ?_⟩
          refine brB_t ?_
          refine ⟨⟨by first | omega | (simp <;> omega), by first | omega | (simp <;> omega)⟩, ?_⟩
          refine brB_t ?_
          refine brB_t ?_
          refine brB_f ?_
          refine brB_t ?_
          refine brB_f ?_
          refine ⟨fun h41 => ?_, fun h41 => ?_⟩
          · skip
            have h41' := not_t h41
            refine ⟨rfl, [], ?_, rfl, trivial, rfl, rfl⟩
            refine one_b (dec_f fun q => ?_)
            have := eqB_z.2 ((q.1.2 i0 (by omega)).2 h33)
            erw [this] at h41'; cases h41'
          · skip
            have h41' := not_f h41
            refine ⟨((i0 + 1 : Nat) : Int), w64_id _ (by omega) (by omega), ?_⟩
            refine ⟨by omega, ?_, ⟨rfl, rfl, rfl, trivial⟩, ⟨rfl, rfl, trivial⟩, rfl⟩
            intro i hi
            by_cases e : i = i0
            · subst e
              exact ⟨h28', fun _ => eqB_z.1 h41'⟩
            · exact hF0 i (by omega)
        · replace h33 := of_decide_eq_false h33
          refine brB_f ?_
          refine brB_f ?_
          refine brB_f ?_
          refine brB_f ?_
          refine brB_f ?_
          refine brB_f ?_
          refine brB_f ?_
          refine brB_f ?_
          refine brB_f ?_
          refine ⟨((i0 + 1 : Nat) : Int), w64_id _ (by omega) (by omega), ?_⟩
          refine ⟨by omega, ?_, ⟨rfl, rfl, rfl, trivial⟩, ⟨rfl, rfl, trivial⟩, rfl⟩
          intro i hi
          by_cases e : i = i0
          · subst e
            exact ⟨h28', fun q => (h33 q).elim⟩
          · exact hF0 i (by omega)
    · replace h15 := of_decide_eq_false h15
      have e0 : 8 = i0 := by omega
      subst e0
      refine .inl ⟨(fun b0 b1 i1 => St.mk [(2, .one (.pt 0 0)), (3, .one (.pt 1 0)), (6, .one (.i .i64 ((i1 : Nat) : Int)))] [b0, b1]) _ _ , fun i1 => ∀ k, k < i1 → MU p n g f k ∧ ∀ i j, i < n → j < n → MA p n e g f i j k, e, fun _ _ => by omega, ⟨⟨rfl, rfl, rfl, trivial⟩, ⟨rfl, rfl, trivial⟩, rfl⟩, fun i1 hi1 hF1 => ?_⟩
      refine ⟨fun h45 => ?_, fun h45 => ?_⟩
      · replace h45 := of_decide_eq_true h45
        refine .inl ⟨2, [], _, _, _, _, [_, _], rfl, s_l01Basis_ok B E.2.2.2.1 (i := i1) (by omega), rfl, trivial, rfl, rfl, ?_⟩
        refine ⟨2, rfl, ?_⟩
        refine ⟨⟨rfl, by first | omega | (simp <;> omega), by first | omega | (simp <;> omega)⟩, ?_⟩   -- sta ['.t', 7] ['.t', 49] 8
        refine ⟨⟨by first | omega | (simp <;> omega), by first | omega | (simp <;> omega)⟩, ?_⟩
        refine ⟨⟨by first | omega | (simp <;> omega), by first | omega | (simp <;> omega)⟩, ?_⟩
        refine ⟨3, [], _, _, _, _, [_, _, _], rfl, s_l06Act_ok B E.2.2.2.2.1 (n := n) (d := e) (by omega) (by omega) (by omega) (by omega), rfl, trivial, rfl, rfl, rfl, ?_⟩
        refine ⟨⟨by first | omega | (simp <;> omega), by first | omega | (simp <;> omega)⟩, ?_⟩
        have e57 : sh (spl (fun _ => 0) 0 8 (bas i1)) 0 = bas i1 := bas_cp (by omega)
        refine ⟨fun h57 => ?_, fun h57 => ?_⟩
        · skip
          have z57 : ¬ MU p n g f i1 := fun q => by
            have z := neB_t h57
            rw [e57] at z
            exact z ((MU_s (d := e) (by omega) (by omega) (by omega)).2 q)
          refine ⟨rfl, [], ?_, rfl, trivial, rfl, rfl⟩
          exact one_b (dec_f fun q => z57 (q.2.1 i1 (by omega)))
        · skip
          have z57 : MU p n g f i1 := by
            have z := neB_f h57
            rw [e57] at z
            exact (MU_s (d := e) (by omega) (by omega) (by omega)).1 z
          refine .inl ⟨(fun a6 b0 b1 b2 i2 => St.mk [(2, .one (.pt 0 0)), (3, .one (.pt 1 0)), (6, a6), (7, .one (.pt 2 0)), (8, .one (.i .i64 ((i2 : Nat) : Int)))] [b0, b1, b2]) _ _ _ _ , fun i2 => ∀ i, i < i2 → ∀ j, j < n → MA p n e g f i j i1, n, fun _ _ => by omega, ⟨⟨rfl, rfl, rfl, rfl, rfl, trivial⟩, ⟨rfl, rfl, rfl, trivial⟩, rfl⟩, fun i2 hi2 hF2 => ?_⟩
          refine ⟨fun h61 => ?_, fun h61 => ?_⟩
          · replace h61 := of_decide_eq_true h61
            refine .inl ⟨(fun a6 a8 b0 b1 b2 i3 => St.mk [(2, .one (.pt 0 0)), (3, .one (.pt 1 0)), (6, a6), (7, .one (.pt 2 0)), (8, a8), (9, .one (.i .i64 ((i3 : Nat) : Int)))] [b0, b1, b2]) _ _ _ _ _ , fun i3 => ∀ j, j < i3 → MA p n e g f i2 j i1, n, fun _ _ => by omega, ⟨⟨rfl, rfl, rfl, rfl, rfl, rfl, trivial⟩, ⟨rfl, rfl, rfl, trivial⟩, rfl⟩, fun i3 hi3 hF3 => ?_⟩
            refine ⟨fun h67 => ?_, fun h67 => ?_⟩
            · replace h67 := of_decide_eq_true h67
              refine ⟨i2, 10 + i2 * 64, rfl, by omega, by omega, ?_⟩
              refine ⟨i3, 10 + i2 * 64 + i3 * 8, rfl, by omega, by omega, ?_⟩
              refine ⟨⟨by first | omega | (simp <;> omega), by first | omega | (simp <;> omega)⟩, ?_⟩
              refine ⟨⟨by first | omega | (simp <;> omega), by first | omega | (simp <;> omega)⟩, ?_⟩
              refine ⟨3, [], _, _, _, _, [_, _, _], rfl, s_l06Act_ok B E.2.2.2.2.1 (n := n) (d := e) (by omega) (by omega) (by omega) (by omega), rfl, trivial, rfl, rfl, rfl, ?_⟩
              refine ⟨i2, 1 + i2 * 64, rfl, by omega, by omega, ?_⟩
              refine ⟨⟨by first | omega | (simp <;> omega), by first | omega | (simp <;> omega)⟩, ?_⟩
              refine ⟨i3, 1 + i3 * 64, rfl, by omega, by omega, ?_⟩
              refine ⟨i1, 1 + i3 * 64 + i1 * 8, rfl, by omega, by omega, ?_⟩
              refine ⟨⟨by first | omega | (simp <;> omega), by first | omega | (simp <;> omega)⟩, ?_⟩
              refine .inl ⟨3, [], _, _, _, _, [_, _, _], rfl, s_l01Apply_ok B E.2.2.2.2.2 (n := e) (by omega) (by omega) (by omega), rfl, trivial, rfl, rfl, ?_⟩
              refine ⟨fun h95 => ?_, fun h95 => ?_⟩
              · skip
                have z95 : ¬ MA p n e g f i2 i3 i1 := fun q => by
                  have z := neB_t h95
                  rw [e57] at z
                  exact z ((MA_s (by omega) (by omega) (by omega)).2 q)
                refine ⟨rfl, [], ?_, rfl, trivial, rfl, rfl⟩
                exact one_b (dec_f fun q => z95 (q.2.2 i2 i3 (by omega) (by omega) i1 (by omega)))
              · skip
                have z95 : MA p n e g f i2 i3 i1 := by
                  have z := neB_f h95
                  rw [e57] at z
                  exact (MA_s (by omega) (by omega) (by omega)).1 z
                refine ⟨((i3 + 1 : Nat) : Int), w64_id _ (by omega) (by omega), ?_⟩
                refine ⟨by omega, ?_, ⟨rfl, rfl, rfl, rfl, rfl, rfl, trivial⟩, ⟨rfl, rfl, rfl, trivial⟩, rfl⟩
                intro j hj
                by_cases e : j = i3
                · subst e; exact z95
                · exact hF3 j (by omega)
            · replace h67 := of_decide_eq_false h67
              have e3 : n = i3 := by omega
              subst e3
              refine ⟨((i2 + 1 : Nat) : Int), w64_id _ (by omega) (by omega), ?_⟩
              refine ⟨by omega, ?_, ⟨rfl, rfl, rfl, rfl, rfl, trivial⟩, ⟨rfl, rfl, rfl, trivial⟩, rfl⟩
              intro i hi j hj
              by_cases e : i = i2
              · subst e; exact hF3 j hj
              · exact hF2 i (by omega) j hj
          · replace h61 := of_decide_eq_false h61
            have e2 : n = i2 := by omega
            subst e2
            refine ⟨((i1 + 1 : Nat) : Int), w64_id _ (by omega) (by omega), ?_⟩
            refine ⟨by omega, ?_, ⟨rfl, rfl, rfl, trivial⟩, ⟨rfl, rfl, trivial⟩, rfl⟩
            intro k hk
            by_cases e : k = i1
            · subst e; exact ⟨z57, fun i j hi hj => hF2 i hi j hj⟩
            · exact hF1 k (by omega)
      · replace h45 := of_decide_eq_false h45
        have e1 : e = i1 := by omega
        subst e1
        refine ⟨rfl, [], ?_, rfl, trivial, rfl, rfl⟩
        exact one_b (dec_t ⟨⟨hSd, hF0⟩, fun k hk => (hF1 k hk).1, fun i j hi hj k hk => (hF1 k hk).2 i j hi hj⟩)

-- left out: i_IsModule (not among the functions at hand)
-- left out: s_IsModule (not among the functions at hand)
def modR (g : By) : By := spl (fun _ => 0) 1 512 (sh g 1)
theorem modR_eq {f : By} {x : Nat} (h1 : 1 ≤ x) (h2 : x < 513) : modR f x = f x := by
  simp only [modR, spl, sh]
  rw [if_pos (by omega), show 1 + (x - 1) = x by omega]

theorem l_toLinearA8_raw_ok (B : Bs P ρ) (E : E_l_toLinearA8 P ρ) {f : By} :
    CallOK P ρ 144 [.ag [] 512 f] [] (.one (.ag [] 512 (cut 512 f))) [] := by
  refine call_of_vc B.fn B.mo E.1 rfl rfl ?_
  refine ⟨0, rfl, ?_⟩
  refine ⟨1, rfl, ?_⟩
  refine ⟨2, rfl, ?_⟩
  refine .inl ⟨(fun b0 b1 i0 => St.mk [(1, .one (.pt 0 0)), (2, .one (.pt 1 0)), (3, .one (.pt 2 0)), (4, .one (.i .i64 ((i0 : Nat) : Int)))] [b0, b1, Blk.mk false (.by [] 512 (cut (i0 * 64) f))]) _ _ , fun i0 => True, 8, trivial, ⟨⟨rfl, rfl, rfl, rfl, trivial⟩, ⟨rfl, rfl, ?_, trivial⟩, rfl⟩, fun i0 hi0 _ => ?_⟩
  · exact blk_by (by rw [Nat.zero_mul]; exact cut_0)
  refine ⟨fun h6 => ?_, fun h6 => ?_⟩
  · replace h6 := of_decide_eq_true h6
    refine ⟨i0, i0 * 64, rfl, by omega, by omega, ?_⟩
    refine ⟨⟨by first | omega | (simp <;> omega), by first | omega | (simp <;> omega)⟩, ?_⟩
    refine .inl ⟨3, [], _, _, _, _, [_, _, _], rfl, l_toLinear_ok B E.2 , rfl, trivial, rfl, rfl, ?_⟩
    refine ⟨i0, i0 * 64, rfl, by omega, by omega, ?_⟩
    refine ⟨⟨rfl, by first | omega | (simp <;> omega), by first | omega | (simp <;> omega)⟩, ?_⟩   -- sta ['.t', 14] ['.t', 13] 64
    refine ⟨((i0 + 1 : Nat) : Int), w64_id _ (by omega) (by omega), ?_⟩
    refine ⟨by omega, trivial, ⟨rfl, rfl, rfl, rfl, trivial⟩, ⟨rfl, rfl, ?_, trivial⟩, rfl⟩
    exact blk_by (cut_spl (by omega)).symm
  · replace h6 := of_decide_eq_false h6
    have e0 : 8 = i0 := by omega
    subst e0
    refine ⟨⟨by first | omega | (simp <;> omega), by first | omega | (simp <;> omega)⟩, ?_⟩
    refine ⟨⟨rfl, by first | omega | (simp <;> omega), by first | omega | (simp <;> omega)⟩, ?_⟩   -- sta ['.t', 2] ['.t', 15] 512
    refine ⟨rfl, ⟨by first | omega | (simp <;> omega), by first | omega | (simp <;> omega)⟩, [], ?_, rfl, trivial, rfl, rfl⟩
    exact one_ag out_cut

theorem l_toLinearA8_ok (B : Bs P ρ) (E : E_l_toLinearA8 P ρ) {f : By} : CallOK P ρ 144 [.ag [] 512 f] [] (.one (.ag [] 512 f)) [] := (l_toLinearA8_raw_ok B E).conv eqL_rfl eq_cut eqH_rfl

theorem l_toModule_raw_ok (B : Bs P ρ) (E : E_l_toModule P ρ) {d : Int} {g : By} :
    CallOK P ρ 133 [.ag [d] 513 g] [] (.one (.ag [d] 513 (modR g))) [] := by
  refine call_of_vc B.fn B.mo E.1 rfl rfl ?_
  refine ⟨0, rfl, ?_⟩
  refine ⟨1, rfl, ?_⟩
  refine ⟨2, rfl, ?_⟩
  refine ⟨⟨by first | omega | (simp <;> omega), by first | omega | (simp <;> omega)⟩, ?_⟩
  refine .inl ⟨3, [], _, _, _, _, [_, _, _], rfl, l_toLinearA8_ok B E.2 , rfl, trivial, rfl, rfl, ?_⟩
  refine ⟨⟨rfl, by first | omega | (simp <;> omega), by first | omega | (simp <;> omega)⟩, ?_⟩   -- sta ['.t', 10] ['.t', 9] 512
  exact ⟨rfl, ⟨by first | omega | (simp <;> omega), by first | omega | (simp <;> omega)⟩, [], rfl, rfl, trivial, rfl, rfl⟩

theorem l_toModule_ok (B : Bs P ρ) (E : E_l_toModule P ρ) {d : Int} {g : By} : CallOK P ρ 133 [.ag [d] 513 g] [] (.one (.ag [d] 513 g)) [] := (l_toModule_raw_ok B E).conv eqL_rfl ⟨_, rfl, fun _ h1 h2 => modR_eq h1 h2⟩ eqH_rfl

-- left out: l_FnExactIsModule (not among the functions at hand)
end Hf
namespace Hf
open Go Classical
variable {P : Program} {ρ : Nat → FuncId}
/-- the first number other than 0 -/
def fz : List Int → Int
  | [] => 0
  | a :: r => if a ≠ 0 then a else fz r
end Hf
namespace Hf
open Go Classical
variable {P : Program} {ρ : Nat → FuncId}
theorem sb {q r : Prop} {i1 : Decidable q} {i2 : Decidable r} (h : q ↔ r) : some (Sv.one (.b (@decide q i1))) = some (Sv.one (.b (@decide r i2))) := by rw [decide_eq_decide.2 h]
theorem sbf {r : Prop} {i2 : Decidable r} (h : ¬ r) : some (Sv.one (.b false)) = some (Sv.one (.b (@decide r i2))) := by rw [decide_eq_false h]

theorem i_modulesCode2_ok (B : Bs P ρ) (E : E_i_modulesCode P ρ) {p n d e : Int} {f g g2 : By} :
    CallOK P ρ 164 [.pt 0 0, .sl 1 0 2 2] [⟨true, .by [p, n] 1106 f⟩, ⟨true, .rw [.pt 2 0, .pt 3 0]⟩, ⟨true, .by [d] 513 g⟩, ⟨true, .by [e] 513 g2⟩] (.one (.i .i64 (oc (Hop p n f ∧ Mod p n.toNat d g f ∧ Mod p n.toNat e g2 f) 1))) [⟨true, .by [p, n] 1106 f⟩, ⟨true, .rw [.pt 2 0, .pt 3 0]⟩, ⟨true, .by [d] 513 g⟩, ⟨true, .by [e] 513 g2⟩] := by
  refine call_of_vc B.fn B.mo E.1 rfl rfl ?_
  refine .inl ⟨4, [], _, _, _, _, [_, _, _, _], rfl, i_IsHopf_ok B E.2.1 , rfl, trivial, rfl, rfl, ?_⟩
  refine .inl ⟨(fun a0 a12 a13 b0 b1 b2 b3 i0 => St.mk [(0, a0), (5, .one (.b (decide (Hop p n f ∧ (0 < i0 → Mod p n.toNat d g f) ∧ (1 < i0 → Mod p n.toNat e g2 f))))), (12, a12), (13, a13), (14, .one (.i .i64 ((i0 : Nat) : Int)))] [b0, b1, b2, b3]) _ _ _ _ _ _ _ , fun i0 => True, 2, trivial, ⟨⟨rfl, sb ⟨fun q => ⟨q, fun h => absurd h (by omega), fun h => absurd h (by omega)⟩, fun q => q.1⟩, rfl, rfl, rfl, trivial⟩, ⟨rfl, rfl, rfl, rfl, trivial⟩, rfl⟩, fun i0 hi0 _ => ?_⟩
  have d0 : i0 = 0 ∨ i0 = 1 ∨ i0 = 2 := by omega
  rcases d0 with rfl | rfl | rfl
  · skip
    refine ⟨fun h15 => ?_, fun h15 => ?_⟩
    · replace h15 := of_decide_eq_true h15
      refine ⟨_, _, rfl, by first | omega | (simp <;> omega), rfl, ?_⟩
      refine ⟨_, rfl, ?_⟩
      refine ⟨fun h19 => ?_, fun h19 => ?_⟩
      · skip
        have hQ := dec_elim_t h19
        have hb := AShp.p1 (f := f) ⟨hQ.1.1.1, hQ.1.1.2.1, hQ.1.1.2.2.1⟩
        obtain ⟨m, rfl⟩ : ∃ m : Nat, n = (m : Int) := ⟨n.toNat, by omega⟩
        refine brB_t ?_
        refine brB_t ?_
        refine .inl ⟨4, [2 + 0, 0], _, _, _, _, [_, _, _, _], rfl, i_Module_isModule_ok B E.2.2.1 hQ.1.1, rfl, ⟨⟨_, rfl, fun h => by first | rfl | cases h⟩, ⟨_, rfl, fun h => by first | rfl | cases h⟩, trivial⟩, rfl, rfl, ?_⟩
        refine brB_t ?_
        refine ⟨((0 + 1 : Nat) : Int), w64_id _ (by omega) (by omega), ?_⟩
        refine ⟨by omega, trivial, ⟨rfl, ?_, rfl, rfl, rfl, trivial⟩, ⟨rfl, rfl, rfl, rfl, trivial⟩, rfl⟩
        exact sb ⟨fun q => ⟨hQ.1, fun _ => q, fun h => absurd h (by omega)⟩, fun q => q.2.1 (by omega)⟩
      · skip
        refine brB_f ?_
        refine brB_f ?_
        refine brB_f ?_
        refine ⟨((0 + 1 : Nat) : Int), w64_id _ (by omega) (by omega), ?_⟩
        refine ⟨by omega, trivial, ⟨rfl, ?_, rfl, rfl, rfl, trivial⟩, ⟨rfl, rfl, rfl, rfl, trivial⟩, rfl⟩
        exact sbf (fun q => dec_elim_t' h19 ⟨q.1, fun h => absurd h (by omega), fun h => absurd h (by omega)⟩)
    · replace h15 := of_decide_eq_false h15
      exact absurd h15 (by omega)
  · skip
    refine ⟨fun h15 => ?_, fun h15 => ?_⟩
    · replace h15 := of_decide_eq_true h15
      refine ⟨_, _, rfl, by first | omega | (simp <;> omega), rfl, ?_⟩
      refine ⟨_, rfl, ?_⟩
      refine ⟨fun h19 => ?_, fun h19 => ?_⟩
      · skip
        have hQ := dec_elim_t h19
        have hb := AShp.p1 (f := f) ⟨hQ.1.1.1, hQ.1.1.2.1, hQ.1.1.2.2.1⟩
        obtain ⟨m, rfl⟩ : ∃ m : Nat, n = (m : Int) := ⟨n.toNat, by omega⟩
        refine brB_t ?_
        refine brB_t ?_
        refine .inl ⟨4, [2 + 1, 0], _, _, _, _, [_, _, _, _], rfl, i_Module_isModule_ok B E.2.2.1 hQ.1.1, rfl, ⟨⟨_, rfl, fun h => by first | rfl | cases h⟩, ⟨_, rfl, fun h => by first | rfl | cases h⟩, trivial⟩, rfl, rfl, ?_⟩
        refine brB_t ?_
        refine ⟨((1 + 1 : Nat) : Int), w64_id _ (by omega) (by omega), ?_⟩
        refine ⟨by omega, trivial, ⟨rfl, ?_, rfl, rfl, rfl, trivial⟩, ⟨rfl, rfl, rfl, rfl, trivial⟩, rfl⟩
        exact sb ⟨fun q => ⟨hQ.1, fun _ => hQ.2.1 (by omega), fun _ => q⟩, fun q => q.2.2 (by omega)⟩
      · skip
        refine brB_f ?_
        refine brB_f ?_
        refine brB_f ?_
        refine ⟨((1 + 1 : Nat) : Int), w64_id _ (by omega) (by omega), ?_⟩
        refine ⟨by omega, trivial, ⟨rfl, ?_, rfl, rfl, rfl, trivial⟩, ⟨rfl, rfl, rfl, rfl, trivial⟩, rfl⟩
        exact sbf (fun q => dec_elim_t' h19 ⟨q.1, fun _ => q.2.1 (by omega), fun h => absurd h (by omega)⟩)
    · replace h15 := of_decide_eq_false h15
      exact absurd h15 (by omega)
  · skip
    refine ⟨fun h15 => ?_, fun h15 => ?_⟩
    · replace h15 := of_decide_eq_true h15
      exact absurd h15 (by omega)
    · replace h15 := of_decide_eq_false h15
      refine .inl ⟨4, [], _, _, _, _, [_, _, _, _], rfl, i_unless_ok B E.2.2.2 , rfl, trivial, rfl, rfl, ?_⟩
      refine ⟨rfl, [], ?_, rfl, ⟨rfl, rfl, rfl, rfl, trivial⟩, rfl, rfl⟩
      refine one_i ?_
      by_cases q : Hop p n f ∧ Mod p n.toNat d g f ∧ Mod p n.toNat e g2 f
      · rw [oc_t q, if_pos (decide_eq_true ⟨q.1, fun _ => q.2.1, fun _ => q.2.2⟩)]
      · rw [oc_f q, if_neg]
        rw [decide_eq_false (fun z => q ⟨z.1, z.2.1 (by omega), z.2.2 (by omega)⟩)]
        simp

theorem s_l06Code2_ok (B : Bs P ρ) (E : E_s_l06Code P ρ) {p n d e : Int} {f g g2 : By} :
    CallOK P ρ 162 [.ag [p, n] 1106 f, .sl 0 0 2 2] [⟨true, .gs 513 [([d], g), ([e], g2)]⟩] (.one (.i .i64 (oc (Hop p n f ∧ Mod p n.toNat d g f ∧ Mod p n.toNat e g2 f) 1))) [⟨true, .gs 513 [([d], g), ([e], g2)]⟩] := by
  refine call_of_vc B.fn B.mo E.1 rfl rfl ?_
  refine ⟨1, rfl, ?_⟩
  refine .inl ⟨2, [], _, _, _, _, [_, _], rfl, s_l03Is_ok B E.2.1 , rfl, trivial, rfl, rfl, ?_⟩
  refine ⟨fun h8 => ?_, fun h8 => ?_⟩
  · skip
    have hH : ¬ Hop p n f := dec_elim_t' (not_t h8)
    refine ⟨rfl, [], ?_, rfl, ⟨rfl, trivial⟩, rfl, rfl⟩
    rw [oc_f (fun q2 : _ ∧ _ => hH q2.1)]; rfl
  · skip
    have hH : Hop p n f := dec_elim_t (not_f h8)
    have hb := AShp.p1 (f := f) ⟨hH.1.1, hH.1.2.1, hH.1.2.2.1⟩
    obtain ⟨m, rfl⟩ : ∃ m : Nat, n = (m : Int) := ⟨n.toNat, by omega⟩
    refine .inl ⟨(fun a1 b0 b1 i0 => St.mk [(1, a1), (2, .one (.pt 1 0)), (5, .one (.i .i64 ((i0 : Nat) : Int)))] [b0, b1]) _ _ _ , fun i0 => (0 < i0 → Mod p m d g f) ∧ (1 < i0 → Mod p m e g2 f), 2, ⟨fun h => absurd h (by omega), fun h => absurd h (by omega)⟩, ⟨⟨rfl, rfl, rfl, trivial⟩, ⟨rfl, rfl, trivial⟩, rfl⟩, fun i0 hi0 hF0 => ?_⟩
    have d0 : i0 = 0 ∨ i0 = 1 ∨ i0 = 2 := by omega
    rcases d0 with rfl | rfl | rfl
    · skip
      refine ⟨fun h12 => ?_, fun h12 => ?_⟩
      · replace h12 := of_decide_eq_true h12
        refine ⟨_, _, rfl, by first | omega | (simp <;> omega), rfl, ?_⟩
        refine ⟨0, _, _, by decide, rfl, by decide, ?_⟩
        refine .inl ⟨2, [], _, _, _, _, [_, _], rfl, s_l06Holds_ok B E.2.2 hH.1, rfl, trivial, rfl, rfl, ?_⟩
        refine ⟨fun h21 => ?_, fun h21 => ?_⟩
        · skip
          have q21 := dec_elim_t' (not_t h21)
          refine ⟨rfl, [], ?_, rfl, ⟨rfl, trivial⟩, rfl, rfl⟩
          rw [oc_f (q := Hop p m f ∧ Mod p (m : Int).toNat d g f ∧ Mod p (m : Int).toNat e g2 f) (fun q2 => q21 q2.2.1)]; rfl
        · skip
          have q21 := dec_elim_t (not_f h21)
          refine ⟨((0 + 1 : Nat) : Int), w64_id _ (by omega) (by omega), ?_⟩
          exact ⟨by omega, ⟨fun _ => q21, fun h => absurd h (by omega)⟩, ⟨rfl, rfl, rfl, trivial⟩, ⟨rfl, rfl, trivial⟩, rfl⟩
      · replace h12 := of_decide_eq_false h12
        exact absurd h12 (by omega)
    · skip
      refine ⟨fun h12 => ?_, fun h12 => ?_⟩
      · replace h12 := of_decide_eq_true h12
        refine ⟨_, _, rfl, by first | omega | (simp <;> omega), rfl, ?_⟩
        refine ⟨1, _, _, by decide, rfl, by decide, ?_⟩
        refine .inl ⟨2, [], _, _, _, _, [_, _], rfl, s_l06Holds_ok B E.2.2 hH.1, rfl, trivial, rfl, rfl, ?_⟩
        refine ⟨fun h21 => ?_, fun h21 => ?_⟩
        · skip
          have q21 := dec_elim_t' (not_t h21)
          refine ⟨rfl, [], ?_, rfl, ⟨rfl, trivial⟩, rfl, rfl⟩
          rw [oc_f (q := Hop p m f ∧ Mod p (m : Int).toNat d g f ∧ Mod p (m : Int).toNat e g2 f) (fun q2 => q21 q2.2.2)]; rfl
        · skip
          have q21 := dec_elim_t (not_f h21)
          refine ⟨((1 + 1 : Nat) : Int), w64_id _ (by omega) (by omega), ?_⟩
          exact ⟨by omega, ⟨fun _ => hF0.1 (by omega), fun _ => q21⟩, ⟨rfl, rfl, rfl, trivial⟩, ⟨rfl, rfl, trivial⟩, rfl⟩
      · replace h12 := of_decide_eq_false h12
        exact absurd h12 (by omega)
    · skip
      refine ⟨fun h12 => ?_, fun h12 => ?_⟩
      · replace h12 := of_decide_eq_true h12
        exact absurd h12 (by omega)
      · replace h12 := of_decide_eq_false h12
        refine ⟨rfl, [], ?_, rfl, ⟨rfl, trivial⟩, rfl, rfl⟩
        rw [oc_t ⟨hH, hF0.1 (by omega), hF0.2 (by omega)⟩]; rfl

end Hf
namespace Hf
open Go Classical
variable {P : Program} {ρ : Nat → FuncId}
theorem cat_u {N x : Nat} {f : By} (h : x < N) : cat (.by [] N f) x = some (.u (f x)) := by simp [cat, h]
theorem cat_hd {hd : List Int} {N x : Nat} {f : By} {z : Int} (h0 : hd[x]? = some z) (h : x < N) : cat (.by hd N f) x = some (.i .i64 z) := by
  simp [cat, h, h0]
theorem cput_u {hd : List Int} {N x : Nat} {f : By} {v : UInt8} (h0 : hd.length ≤ x) (h : x < N) : cput (.by hd N f) x (.u v) = some (.by hd N (upd f x v)) := if_pos ⟨h0, h⟩
theorem Ext.nil {H : List Blk} : Ext [] H := fun k B h => by simp at h
theorem get_new {H : List Blk} {B : Blk} : (H ++ [B])[H.length]? = some B := by simp
theorem lt_of {H : List Blk} {k : Nat} {B : Blk} (e : H[k]? = some B) : k < H.length := (List.getElem?_eq_some_iff.1 e).1
theorem set_same {H : List Blk} {k : Nat} {A B : Blk} (e : H[k]? = some A) : (H.set k B)[k]? = some B := by
  have := lt_of e; simp [this]
theorem set_other {H : List Blk} {k j : Nat} {A B : Blk} (e : H[j]? = some A) (h : k ≠ j) : (H.set k B)[j]? = some A := by
  rw [List.getElem?_set_ne h]; exact e
theorem app_old {H G : List Blk} {j : Nat} {A : Blk} (e : H[j]? = some A) : (H ++ G)[j]? = some A := Ext.app _ _ e

/-- the first place of n, from i on, at which q holds, else where they end -/
def fstN (q : Nat → Bool) : Nat → Nat → Nat
  | 0, i => i
  | n + 1, i => if q i = true then i else fstN q n (i + 1)
theorem fstN_ge {q : Nat → Bool} : ∀ {n i : Nat}, i ≤ fstN q n i ∧ fstN q n i ≤ i + n
  | 0, i => by simp [fstN]
  | n + 1, i => by
    simp only [fstN]
    split
    · omega
    · have := @fstN_ge q n (i + 1); omega
theorem fstN_eq {q : Nat → Bool} {k : Nat} : ∀ {n i : Nat}, i ≤ k → k < i + n → q k = true → (∀ j, i ≤ j → j < k → q j = false) → fstN q n i = k
  | 0, i, h1, h2, _, _ => by omega
  | n + 1, i, h1, h2, h3, h4 => by
    simp only [fstN]
    by_cases e : i = k
    · subst e; rw [if_pos h3]
    · rw [if_neg (by rw [h4 i (Nat.le_refl _) (by omega)]; simp)]
      exact fstN_eq (by omega) (by omega) h3 fun j h5 h6 => h4 j (by omega) h6
theorem fstN_end {q : Nat → Bool} : ∀ {n i : Nat}, (∀ j, i ≤ j → j < i + n → q j = false) → fstN q n i = i + n
  | 0, i, _ => rfl
  | n + 1, i, h => by
    simp only [fstN]
    rw [if_neg (by rw [h i (Nat.le_refl _) (by omega)]; simp), fstN_end fun j h1 h2 => h j (by omega) (by omega)]
    omega
theorem fstN_none {q : Nat → Bool} : ∀ {n i : Nat} (j : Nat), i ≤ j → j < fstN q n i → q j = false
  | 0, i, j, h1, h2 => by simp only [fstN] at h2; omega
  | n + 1, i, j, h1, h2 => by
    simp only [fstN] at h2
    split at h2
    · omega
    · rename_i h
      rcases Nat.eq_or_lt_of_le h1 with e | e
      · subst e; simpa using h
      · exact fstN_none j e h2
theorem fstN_some {q : Nat → Bool} : ∀ {n i : Nat}, fstN q n i < i + n → q (fstN q n i) = true
  | 0, i, h => by simp only [fstN] at h; omega
  | n + 1, i, h => by
    simp only [fstN] at h ⊢
    split
    · assumption
    · rename_i hq
      rw [if_neg hq] at h
      exact fstN_some (by omega)

/-- the least k in 1 .. p - 1 with k x = 1 modulo p, or p -/
def invN (p : Int) (x : UInt8) : Nat := fstN (fun k => ((k : Nat) : Int) * (x.toNat : Int) % p == 1) (p - 1).toNat 1
theorem mul_bd2 {a b c d : Int} (h1 : 0 ≤ a) (h2 : a ≤ c) (h3 : 0 ≤ b) (h4 : b ≤ d) : 0 ≤ a * b ∧ a * b ≤ c * d :=
  ⟨Int.mul_nonneg h1 h3, Int.mul_le_mul h2 h4 h3 (Int.le_trans h1 h2)⟩

/-! ### slices of vectors -/
def z0 : By := fun _ => 0
/-- the slice a, over the blocks H, has the vectors L -/
def VS (H : List Blk) (a : At) (L : List By) : Prop :=
  (a = .sn ∧ L = []) ∨ ∃ k off cap r N f, a = .sl k off L.length cap ∧ H[k]? = some ⟨r, .by [] N f⟩ ∧ (off + cap * 8 ≤ N ∧ L.length ≤ cap) ∧ ∀ i x, i < L.length → x < 8 → f (off + i * 8 + x) = (L.getD i z0) x
/-- the same, and it may be written behind: its block is none of the first m -/
def VW (m : Nat) (H : List Blk) (a : At) (L : List By) : Prop :=
  ∃ k off cap N f, a = .sl k off L.length cap ∧ H[k]? = some ⟨false, .by [] N f⟩ ∧ (off + cap * 8 ≤ N ∧ L.length ≤ cap ∧ m ≤ k) ∧ ∀ i x, i < L.length → x < 8 → f (off + i * 8 + x) = (L.getD i z0) x
/-- the first m blocks are there still -/
def Upto (m : Nat) (H H' : List Blk) : Prop := ∀ (k : Nat) (B : Blk), k < m → H[k]? = some B → H'[k]? = some B
theorem Upto.refl {m : Nat} {H : List Blk} : Upto m H H := fun _ _ _ h => h
theorem Upto.trans {m : Nat} {H H1 H2 : List Blk} (h : Upto m H H1) (h' : Upto m H1 H2) : Upto m H H2 := fun k B hk e => h' k B hk (h k B hk e)
theorem Upto.ext {m : Nat} {H H1 H2 : List Blk} (h : Ext H H1) (h' : Upto m H1 H2) (hm : H.length ≤ m) : Ext H H2 := fun k B e => h' k B (by have := lt_of e; omega) (h k B e)
theorem Ext.upto {m : Nat} {H H' : List Blk} (h : Ext H H') : Upto m H H' := fun k B _ e => h k B e
theorem VW.mono {m m' : Nat} {H : List Blk} {a : At} {L : List By} (h : VW m H a L) (hm : m' ≤ m) : VW m' H a L := by
  obtain ⟨k, off, cap, N, f, h1, h2, h3, h4⟩ := h
  exact ⟨k, off, cap, N, f, h1, h2, ⟨h3.1, h3.2.1, by omega⟩, h4⟩
theorem VS.ext {H H' : List Blk} {a : At} {L : List By} (h : VS H a L) (e : Ext H H') : VS H' a L := by
  rcases h with h | ⟨k, off, cap, r, N, f, h1, h2, h3, h4⟩
  · exact .inl h
  · exact .inr ⟨k, off, cap, r, N, f, h1, e k _ h2, h3, h4⟩
theorem VS.nil {H : List Blk} : VS H .sn [] := .inl ⟨rfl, rfl⟩
theorem VW.ext {m : Nat} {H H' : List Blk} {a : At} {L : List By} (h : VW m H a L) (e : Ext H H') : VW m H' a L := by
  obtain ⟨k, off, cap, N, f, h1, h2, h3, h4⟩ := h
  exact ⟨k, off, cap, N, f, h1, e k _ h2, h3, h4⟩
theorem VS.lt {H : List Blk} {a : At} {L : List By} (h : VS H a L) : a.lt H.length = true := by
  rcases h with ⟨rfl, -⟩ | ⟨k, off, cap, r, N, f, rfl, h2, h3, h4⟩
  · rfl
  have := lt_of h2
  simp [At.lt, this]
theorem VS.len {H : List Blk} {a : At} {L : List By} (h : VS H a L) : lenA a = some L.length := by
  rcases h with ⟨rfl, rfl⟩ | ⟨k, off, cap, r, N, f, rfl, -⟩ <;> rfl
theorem VS.at {H : List Blk} {a : At} {L : List By} (h : VS H a L) (i : Nat) (hi : i < L.length) :
    ∃ k off len cap q, a = .sl k off len cap ∧ i < len ∧ off + i * 8 = q ∧ ∃ r N f, H[k]? = some ⟨r, .by [] N f⟩ ∧ q + 8 ≤ N ∧ ∀ x, x < 8 → (L.getD i z0) x = f (q + x) := by
  rcases h with ⟨rfl, rfl⟩ | ⟨k, off, cap, r, N, f, rfl, h2, h3, h4⟩
  · simp at hi
  exact ⟨k, off, L.length, cap, off + i * 8, rfl, hi, rfl, r, N, f, h2, by omega, fun x hx => (h4 i x hi hx).symm⟩
/-- a new list without vectors -/
theorem VW.nil {m : Nat} {H : List Blk} {f : By} (hm : m ≤ H.length) : VW m (H ++ [⟨false, .by [] (0 * 8) f⟩]) (.sl H.length 0 0 0) [] :=
  ⟨H.length, 0, 0, _, f, rfl, get_new, ⟨by omega, by simp, hm⟩, fun i x h => by simp at h⟩
/-- a new list with one vector -/
theorem VS.one {H : List Blk} {v : By} : VS (H ++ [⟨false, .by [] (1 * 8) (spl (fun _ => 0) (0 * 8) 8 v)⟩]) (.sl H.length 0 1 1) [v] := by
  refine .inr ⟨H.length, 0, 1, false, _, _, rfl, get_new, ⟨by omega, by simp⟩, fun i x h hx => ?_⟩
  obtain rfl : i = 0 := by simpa using h
  simp [spl, hx]

theorem getD_app {L M : List By} {i : Nat} : (L ++ M).getD i z0 = if i < L.length then L.getD i z0 else M.getD (i - L.length) z0 := by
  simp only [List.getD_eq_getElem?_getD]
  split
  · rename_i h; rw [List.getElem?_append_left h]
  · rename_i h; rw [List.getElem?_append_right (by omega)]

theorem getD_mem {L : List By} {i : Nat} (h : i < L.length) : L.getD i z0 ∈ L := by
  rw [List.getD_eq_getElem?_getD, List.getElem?_eq_getElem h]; simp

theorem app_set {H l : List Blk} {i : Nat} {B : Blk} : (H ++ l).set (H.length + i) B = H ++ l.set i B := by
  rw [List.set_append_right _ _ (by omega), Nat.add_sub_cancel_left]
theorem app_set0 {H : List Blk} {A B : Blk} : (H ++ [A]).set H.length B = H ++ [B] := app_set (i := 0)
end Hf
namespace Hf
open Go Classical
variable {P : Program} {ρ : Nat → FuncId}
theorem s_l01Inverse_ok (B : Bs P ρ) (E : F_s_l01Inverse P ρ) {p : Int} {x : UInt8} (hp : 1 ≤ p) (hp2 : p ≤ 256) :
    CallOK P ρ 274 [.i .i64 p, .u x] [] (.one (.u (byt (if ((invN p x : Nat) : Int) < p then ((invN p x : Nat) : Int) else 0)))) [] := by
  refine (CallR.pure (call_of_q B.fn B.mo E rfl (fun _ _ => ?_) rfl) rfl).ok
  refine ⟨Unit, (fun a0 a1 (i0 : Nat) (x0 : Unit) => [(0, a0), (1, a1), (5, .one (.i .i64 ((1 + i0 : Nat) : Int)))]) _ _ , fun (i0 : Nat) (x0 : Unit) (G0 : List Blk) => (G0 = [] ∧ ∀ j : Nat, 1 ≤ j → j < 1 + i0 → ((j : Int) * (x.toNat : Int) % p == 1) = false), (p - 1).toNat, ⟨(), ⟨rfl, fun j h1 h2 => by omega⟩, ⟨rfl, rfl, rfl, trivial⟩⟩, ?_⟩
  rintro i0 _ G0 hi0 ⟨rfl, hF0⟩
  refine ⟨fun h8 => ?_, fun h8 => ?_⟩
  · replace h8 := of_decide_eq_true h8
    have hx := toNat_le x
    have hm := mul_bd2 (a := ((1 + i0 : Nat) : Int)) (b := (x.toNat : Int)) (c := 256) (d := 255) (by omega) (by omega) (by omega) (by omega)
    refine ⟨_, w64_id _ (by omega) (by omega), ?_⟩
    refine ⟨by omega, _, Int.tmod_eq_emod_of_nonneg hm.1, ?_⟩
    refine ⟨fun h17 => ?_, fun h17 => ?_⟩
    · replace h17 := eq_of_beq h17
      have e : invN p x = 1 + i0 := fstN_eq (by omega) (by omega) (by simpa using h17) fun j h1 hj => hF0 j h1 hj
      exact ⟨rfl, by rw [e, if_pos (by omega)]; rfl, Ext.nil⟩
    · replace h17 := ne_of_beq_false h17
      refine ⟨((1 + i0 + 1 : Nat) : Int), w64_id _ (by omega) (by omega), ?_⟩
      refine ⟨by omega, (), ?_, ⟨rfl, rfl, rfl, trivial⟩⟩
      refine ⟨rfl, fun j h1 h2 => ?_⟩
      by_cases e : j = 1 + i0
      · rw [e]; simpa using h17
      · exact hF0 j h1 (by omega)
  · replace h8 := of_decide_eq_false h8
    have e : invN p x = 1 + (p - 1).toNat := fstN_end fun j h1 hj => hF0 j h1 (by omega)
    exact ⟨rfl, by rw [e, if_neg (by omega)]; rfl, Ext.nil⟩

theorem i_field_inverse_ok (B : Bs P ρ) (E : F_i_field_inverse P ρ) {p n : Int} {g : By} {x : UInt8} (hp : 1 ≤ p) (hp2 : p ≤ 256) :
    CallOK P ρ 279 [.ag [p, n] 2 g, .u x] [] (.one (.i .i64 (if ((invN p x : Nat) : Int) < p then ((invN p x : Nat) : Int) else 1 % p))) [] := by
  refine (CallR.pure (call_of_q B.fn B.mo E rfl (fun _ _ => ?_) rfl) rfl).ok
  refine ⟨0, rfl, ?_⟩
  refine ⟨Unit, (fun a1 a2 (i0 : Nat) (x0 : Unit) => [(1, a1), (2, a2), (5, .one (.i .i64 ((1 + i0 : Nat) : Int)))]) _ _ , fun (i0 : Nat) (x0 : Unit) (G0 : List Blk) => (G0 = [⟨false, .by [p, n] 2 g⟩] ∧ ∀ j : Nat, 1 ≤ j → j < 1 + i0 → ((j : Int) * (x.toNat : Int) % p == 1) = false), (p - 1).toNat, ⟨(), ⟨rfl, fun j h1 h2 => by omega⟩, ⟨rfl, rfl, rfl, trivial⟩⟩, ?_⟩
  rintro i0 _ G0 hi0 ⟨rfl, hF0⟩
  refine ⟨_, _, rfl, cat_hd (z := p) rfl (by omega), ?_⟩
  refine ⟨fun h9 => ?_, fun h9 => ?_⟩
  · replace h9 := of_decide_eq_true h9
    have hx := toNat_le x
    have hm := mul_bd2 (a := ((1 + i0 : Nat) : Int)) (b := (x.toNat : Int)) (c := 256) (d := 255) (by omega) (by omega) (by omega) (by omega)
    refine ⟨_, w64_id _ (by omega) (by omega), ?_⟩
    refine ⟨_, _, rfl, cat_hd (z := p) rfl (by omega), ?_⟩
    refine ⟨by omega, _, Int.tmod_eq_emod_of_nonneg hm.1, ?_⟩
    refine ⟨fun h19 => ?_, fun h19 => ?_⟩
    · replace h19 := eq_of_beq h19
      have e : invN p x = 1 + i0 := fstN_eq (by omega) (by omega) (by simpa using h19) fun j h1 hj => hF0 j h1 hj
      exact ⟨rfl, by rw [e, if_pos (by omega)]; rfl, Ext.nil⟩
    · replace h19 := ne_of_beq_false h19
      refine ⟨((1 + i0 + 1 : Nat) : Int), w64_id _ (by omega) (by omega), ?_⟩
      refine ⟨by omega, (), ?_, ⟨rfl, rfl, rfl, trivial⟩⟩
      refine ⟨rfl, fun j h1 h2 => ?_⟩
      by_cases e : j = 1 + i0
      · rw [e]; simpa using h19
      · exact hF0 j h1 (by omega)
  · replace h9 := of_decide_eq_false h9
    refine ⟨_, _, rfl, cat_hd (z := p) rfl (by omega), ?_⟩
    refine ⟨by omega, _, Int.tmod_eq_emod_of_nonneg (by omega), ?_⟩
    have e : invN p x = 1 + (p - 1).toNat := fstN_end fun j h1 hj => hF0 j h1 (by omega)
    exact ⟨rfl, by rw [e, if_neg (by omega)]; rfl, Ext.nil⟩

end Hf
namespace Hf
open Go Classical
/-- a vector of W numbers below p, with zeros behind -/
def Vp (W : Nat) (p : Int) (v : By) : Prop := (∀ x, bz v x < p) ∧ ∀ x, W ≤ x → v x = 0
def addW (W : Nat) (p : Int) (v w : By) (k : Int) : By := vec W p fun y => bz v y + k * bz w y
def fstW (W : Nat) (v : By) : Nat := fstN (fun i => v i != 0) W 0
section
variable {W : Nat} {p : Int}
theorem bz_z0 {x : Nat} : bz z0 x = 0 := rfl
theorem Vp.z (hp : 1 ≤ p) : Vp W p z0 := ⟨fun x => by rw [bz_z0]; omega, fun _ _ => rfl⟩
theorem Vp.add (hp : 1 ≤ p) (hp2 : p ≤ 256) {v w : By} {k : Int} : Vp W p (addW W p v w k) := ⟨fun x => bz_vec_lt hp hp2, fun x hx => vec_out hx⟩
theorem bz_inj {a b : UInt8} (h : (a.toNat : Int) = b.toNat) : a = b := UInt8.toNat_inj.1 (by omega)
theorem Vp.ext {v w : By} (hv : Vp W p v) (hw : Vp W p w) (h : ∀ x, x < W → cg p (bz v x) (bz w x)) : v = w := by
  funext x
  by_cases hx : x < W
  · have h1 := h x hx
    unfold cg at h1
    rw [Int.emod_eq_of_lt (bz_nn v x) (hv.1 x), Int.emod_eq_of_lt (bz_nn w x) (hw.1 x)] at h1
    exact bz_inj h1
  · rw [hv.2 x (by omega), hw.2 x (by omega)]
theorem cg_add' (hp : 1 ≤ p) (hp2 : p ≤ 256) {v w : By} {k : Int} {x : Nat} (hx : x < W) : cg p (bz (addW W p v w k) x) (bz v x + k * bz w x) := cg_vec hp hp2 hx
theorem bz_add (hp : 1 ≤ p) (hp2 : p ≤ 256) {v w : By} {k : Int} {x : Nat} (hx : x < W) : bz (addW W p v w k) x = (bz v x + k * bz w x) % p := bz_vec hp hp2 hx
theorem add_0 (hp : 1 ≤ p) (hp2 : p ≤ 256) {v w : By} (hv : Vp W p v) : addW W p v w 0 = v :=
  (Vp.add hp hp2).ext hv fun x hx => (cg_add' hp hp2 hx).trans (cg_of_eq (by simp))
theorem add_z (hp : 1 ≤ p) (hp2 : p ≤ 256) {v : By} {k : Int} (hv : Vp W p v) : addW W p v z0 k = v :=
  (Vp.add hp hp2).ext hv fun x hx => (cg_add' hp hp2 hx).trans (cg_of_eq (by simp [bz_z0]))
theorem z_add1 (hp : 1 ≤ p) (hp2 : p ≤ 256) {v : By} (hv : Vp W p v) : addW W p z0 v 1 = v :=
  (Vp.add hp hp2).ext hv fun x hx => (cg_add' hp hp2 hx).trans (cg_of_eq (by simp [bz_z0]))
/-- (u + k (v + c r)) = (u + k v) + k c r -/
theorem add_assoc' (hp : 1 ≤ p) (hp2 : p ≤ 256) {u v r : By} {k c : Int} : addW W p u (addW W p v r c) k = addW W p (addW W p u v k) r (k * c) := by
  refine (Vp.add hp hp2).ext (Vp.add hp hp2) fun x hx => ?_
  refine (cg_add' hp hp2 hx).trans ?_
  refine (cg_add cg.rfl' (cg_mul cg.rfl' (cg_add' hp hp2 hx))).trans ?_
  refine cg.trans ?_ (cg_add' hp hp2 hx).symm
  refine cg.trans ?_ (cg_add (cg_add' hp hp2 hx) cg.rfl').symm
  exact cg_of_eq (by grind)
/-- (u + a v) + b w = (u + b w) + a v -/
theorem add_comm' (hp : 1 ≤ p) (hp2 : p ≤ 256) {u v w : By} {a b : Int} : addW W p (addW W p u v a) w b = addW W p (addW W p u w b) v a := by
  refine (Vp.add hp hp2).ext (Vp.add hp hp2) fun x hx => ?_
  refine (cg_add' hp hp2 hx).trans ?_
  refine (cg_add (cg_add' hp hp2 hx) cg.rfl').trans ?_
  refine cg.trans ?_ (cg_add' hp hp2 hx).symm
  refine cg.trans ?_ (cg_add (cg_add' hp hp2 hx) cg.rfl').symm
  exact cg_of_eq (by grind)

/-! ### spaces -/
inductive Sp' (W : Nat) (p : Int) (L : List By) : By → Prop
  | z : Sp' W p L z0
  | a {u w : By} {k : Int} : Sp' W p L u → w ∈ L → Sp' W p L (addW W p u w k)

theorem Sp'.vp (hp : 1 ≤ p) (hp2 : p ≤ 256) {L : List By} {v : By} : Sp' W p L v → Vp W p v
  | .z => Vp.z hp
  | .a _ _ => Vp.add hp hp2
theorem Sp'.mem (hp : 1 ≤ p) (hp2 : p ≤ 256) {L : List By} {v : By} (h : v ∈ L) (hv : Vp W p v) : Sp' W p L v := by
  rw [← z_add1 hp hp2 hv]; exact .a .z h
theorem Sp'.add (hp : 1 ≤ p) (hp2 : p ≤ 256) {L : List By} {u v : By} {k : Int} (hu : Sp' W p L u) (hv : Sp' W p L v) : Sp' W p L (addW W p u v k) := by
  induction hv generalizing u k with
  | z => rw [add_z hp hp2 (hu.vp hp hp2)]; exact hu
  | a h1 h2 ih =>
    rw [add_assoc' hp hp2]
    exact .a (ih hu) h2
theorem Sp'.sub (hp : 1 ≤ p) (hp2 : p ≤ 256) {L M : List By} (h : ∀ r ∈ L, Sp' W p M r) {v : By} (hv : Sp' W p L v) : Sp' W p M v := by
  induction hv with
  | z => exact .z
  | a _ h2 ih => exact ih.add hp hp2 (h _ h2)
/-- the same space -/
def SpE (W : Nat) (p : Int) (L M : List By) : Prop := ∀ v, Sp' W p L v ↔ Sp' W p M v
theorem SpE.of (hp : 1 ≤ p) (hp2 : p ≤ 256) {L M : List By} (h : ∀ r ∈ L, Sp' W p M r) (h' : ∀ r ∈ M, Sp' W p L r) : SpE W p L M := fun v => ⟨fun q => q.sub hp hp2 h, fun q => q.sub hp hp2 h'⟩
theorem SpE.rfl' {L : List By} : SpE W p L L := fun _ => Iff.rfl
theorem SpE.symm {L M : List By} (h : SpE W p L M) : SpE W p M L := fun v => (h v).symm
theorem SpE.trans {L M N : List By} (h : SpE W p L M) (h' : SpE W p M N) : SpE W p L N := fun v => (h v).trans (h' v)

/-! ### first places -/
theorem fstW_le {v : By} : fstW W v ≤ W := by have := @fstN_ge (fun i => v i != 0) W 0; unfold fstW; omega
theorem fstW_lt {v : By} {y : Nat} (h : y < fstW W v) : v y = 0 := by
  have := @fstN_none (fun i => v i != 0) W 0 y (Nat.zero_le _) h
  simpa using this
theorem fstW_ne {v : By} (h : fstW W v < W) : v (fstW W v) ≠ 0 := by
  have := @fstN_some (fun i => v i != 0) W 0 (by unfold fstW at h; omega)
  simpa [fstW] using this
theorem fstW_eq {v : By} {k : Nat} (hk : k < W) (h : v k ≠ 0) (h0 : ∀ y, y < k → v y = 0) : fstW W v = k :=
  fstN_eq (Nat.zero_le _) (by omega) (by simpa using h) fun j _ hj => by simp [h0 j hj]
theorem fstW_z {v : By} (hv : ∀ x, W ≤ x → v x = 0) (h : fstW W v = W) : v = z0 := by
  funext y
  by_cases hy : y < W
  · exact fstW_lt (W := W) (by omega)
  · exact hv y (by omega)
theorem fst_nz {v : By} (hv : ∀ x, W ≤ x → v x = 0) (h : v ≠ z0) : fstW W v < W := by
  have := @fstW_le W v
  rcases Nat.lt_or_ge (fstW W v) W with h1 | h1
  · exact h1
  · exact (h (fstW_z hv (by omega))).elim

/-! ### what a list takes away -/
def byW1 (W : Nat) (p : Int) (v r : By) : By := if v (fstW W r) = 0 then v else addW W p v r (-(bz v (fstW W r)))
def byW (W : Nat) (p : Int) (v : By) (L : List By) : By := L.foldl (byW1 W p) v
/-- the first places grow, each first entry is 1, and the others have 0 there -/
structure RR (W : Nat) (p : Int) (L : List By) : Prop where
  vp : ∀ r ∈ L, Vp W p r
  ld : ∀ r ∈ L, fstW W r < W ∧ r (fstW W r) = 1
  st : L.Pairwise fun a b => fstW W a < fstW W b ∧ a (fstW W b) = 0

theorem byW1_add (hp : 1 ≤ p) (hp2 : p ≤ 256) {v r : By} (hv : Vp W p v) : byW1 W p v r = addW W p v r (-(bz v (fstW W r))) := by
  unfold byW1
  split
  · rename_i h
    rw [show bz v (fstW W r) = 0 from bz_eq0.2 h, Int.neg_zero, add_0 hp hp2 hv]
  · rfl
theorem byW1_vp (hp : 1 ≤ p) (hp2 : p ≤ 256) {v r : By} (hv : Vp W p v) : Vp W p (byW1 W p v r) := by
  rw [byW1_add hp hp2 hv]; exact Vp.add hp hp2
theorem byW_vp (hp : 1 ≤ p) (hp2 : p ≤ 256) : ∀ {L : List By} {v : By}, Vp W p v → Vp W p (byW W p v L)
  | [], _, hv => hv
  | r :: L, v, hv => byW_vp hp hp2 (L := L) (byW1_vp hp hp2 hv)
/-- it is linear -/
theorem byW1_lin (hp : 1 ≤ p) (hp2 : p ≤ 256) {u w r : By} {k : Int} (hu : Vp W p u) (hw : Vp W p w) (hr : fstW W r < W) :
    byW1 W p (addW W p u w k) r = addW W p (byW1 W p u r) (byW1 W p w r) k := by
  rw [byW1_add hp hp2 (Vp.add hp hp2), byW1_add hp hp2 hu, byW1_add hp hp2 hw]
  refine (Vp.add hp hp2).ext (Vp.add hp hp2) fun x hx => ?_
  refine (cg_add' hp hp2 hx).trans ?_
  refine (cg_add (cg_add' hp hp2 hx) (cg_mul (a := -(bz (addW W p u w k) (fstW W r))) (b := -(bz u (fstW W r) + k * bz w (fstW W r))) (c := bz r x) (d := bz r x) ?_ cg.rfl')).trans ?_
  · have := cg_mul (a := -1) (b := -1) (c := bz (addW W p u w k) (fstW W r)) cg.rfl' (cg_add' (v := u) (w := w) (k := k) hp hp2 hr)
    rw [Int.neg_one_mul, Int.neg_one_mul] at this
    exact this
  refine cg.trans ?_ (cg_add' hp hp2 hx).symm
  refine cg.trans ?_ (cg_add (cg_add' hp hp2 hx) (cg_mul cg.rfl' (cg_add' hp hp2 hx))).symm
  exact cg_of_eq (by grind)
theorem byW_lin (hp : 1 ≤ p) (hp2 : p ≤ 256) {k : Int} : ∀ {L : List By} {u w : By}, (∀ r ∈ L, fstW W r < W) → Vp W p u → Vp W p w → byW W p (addW W p u w k) L = addW W p (byW W p u L) (byW W p w L) k
  | [], _, _, _, _, _ => rfl
  | r :: L, u, w, h, hu, hw => by
    show byW W p (byW1 W p (addW W p u w k) r) L = addW W p (byW W p (byW1 W p u r) L) (byW W p (byW1 W p w r) L) k
    rw [byW1_lin hp hp2 hu hw (h r (by simp))]
    exact byW_lin hp hp2 (fun q hq => h q (by simp [hq])) (byW1_vp hp hp2 hu) (byW1_vp hp hp2 hw)
theorem byW_fix : ∀ {L : List By} {v : By}, (∀ r ∈ L, v (fstW W r) = 0) → byW W p v L = v
  | [], _, _ => rfl
  | r :: L, v, h => by
    show byW W p (byW1 W p v r) L = v
    rw [show byW1 W p v r = v from if_pos (h r (by simp))]
    exact byW_fix fun q hq => h q (by simp [hq])
theorem byW_app {L M : List By} {v : By} : byW W p v (L ++ M) = byW W p (byW W p v L) M := List.foldl_append

theorem RR.fs {L : List By} (h : RR W p L) : ∀ r ∈ L, fstW W r < W := fun r hr => (h.ld r hr).1
/-- places of two of a reduced list -/
theorem RR.two {A B : List By} {a b : By} (h : RR W p (A ++ a :: B)) (hb : b ∈ A ++ B) : b (fstW W a) = 0 ∧ a (fstW W b) = 0 ∧ fstW W a ≠ fstW W b := by
  have hp := h.st
  rw [List.pairwise_append] at hp
  obtain ⟨-, h2, h3⟩ := hp
  rw [List.pairwise_cons] at h2
  rcases List.mem_append.1 hb with hb | hb
  · obtain ⟨q1, q2⟩ := h3 b hb a (by simp)
    exact ⟨q2, fstW_lt q1, by omega⟩
  · obtain ⟨q1, q2⟩ := h2.1 b hb
    exact ⟨fstW_lt q1, q2, by omega⟩
theorem one_bz {f : By} {x : Nat} (h : f x = 1) : bz f x = 1 := by unfold bz; rw [h]; rfl
/-- a vector of the list is taken away whole -/
theorem RR.kill (hp : 1 ≤ p) (hp2 : p ≤ 256) {L : List By} (h : RR W p L) {w : By} (hw : w ∈ L) : byW W p w L = z0 := by
  obtain ⟨A, B, rfl⟩ := List.append_of_mem hw
  rw [byW_app, byW_fix fun r hr => (h.two (List.mem_append_left _ hr)).2.1]
  show byW W p (byW1 W p w w) B = z0
  have hv := h.vp w hw
  have e : byW1 W p w w = z0 := by
    rw [byW1_add hp hp2 hv, one_bz (h.ld w hw).2]
    refine (Vp.add hp hp2).ext (Vp.z hp) fun x hx => (cg_add' hp hp2 hx).trans (cg_of_eq (by rw [bz_z0]; omega))
  rw [e]
  exact byW_fix fun r _ => rfl
theorem RR.zero (hp : 1 ≤ p) (hp2 : p ≤ 256) {L : List By} (h : RR W p L) {v : By} (hv : Sp' W p L v) : byW W p v L = z0 := by
  induction hv with
  | z => exact byW_fix fun r _ => rfl
  | a h1 h2 ih =>
    rw [byW_lin hp hp2 h.fs (h1.vp hp hp2) (h.vp _ h2), ih, h.kill hp hp2 h2]
    exact add_z hp hp2 (Vp.z hp)
/-- v and what is left of it differ by what is in the space -/
theorem byW_sp (hp : 1 ≤ p) (hp2 : p ≤ 256) : ∀ {L M : List By} {v : By}, (∀ r ∈ L, r ∈ M) → Vp W p v → ∃ s, Sp' W p M s ∧ v = addW W p (byW W p v L) s 1 ∧ byW W p v L = addW W p v s (-1)
  | [], M, v, _, hv => ⟨z0, .z, (add_z hp hp2 hv).symm, (add_z hp hp2 hv).symm⟩
  | r :: L, M, v, h, hv => by
    obtain ⟨s, h1, h2, h3⟩ := byW_sp hp hp2 (L := L) (M := M) (v := byW1 W p v r) (fun q hq => h q (by simp [hq])) (byW1_vp hp hp2 hv)
    have e : byW W p v (r :: L) = byW W p (byW1 W p v r) L := rfl
    rw [byW1_add hp hp2 hv] at e h2 h3
    rw [e]
    refine ⟨addW W p s r (bz v (fstW W r)), .a h1 (h r (by simp)), ?_, ?_⟩
    · have h4 : addW W p (addW W p v r (-(bz v (fstW W r)))) r (bz v (fstW W r)) = v := by
        refine (Vp.add hp hp2).ext hv fun x hx => ?_
        refine (cg_add' hp hp2 hx).trans ((cg_add (cg_add' hp hp2 hx) cg.rfl').trans (cg_of_eq (by grind)))
      rw [add_assoc' hp hp2, ← h2, Int.one_mul, h4]
    · rw [h3, add_assoc' hp hp2 (u := v), add_comm' hp hp2, Int.neg_one_mul]
theorem RR.in_iff (hp : 1 ≤ p) (hp2 : p ≤ 256) {L : List By} (h : RR W p L) {v : By} (hv : Vp W p v) : Sp' W p L v ↔ byW W p v L = z0 := by
  refine ⟨h.zero hp hp2, fun e => ?_⟩
  obtain ⟨s, h1, h2, -⟩ := byW_sp hp hp2 (L := L) (M := L) (fun _ h => h) hv
  rw [e] at h2
  rw [h2]
  exact Sp'.z.add hp hp2 h1
end
end Hf
namespace Hf
theorem inv_exB : ∀ p, p < 32 → (∀ k, k < p → 2 ≤ k → p % k ≠ 0) → ∀ x, x < p → 0 < x → ((List.range p).any fun k => decide (1 ≤ k ∧ k * x % p = 1 % p)) = true := by decide +kernel
theorem inv_ex (p : Nat) (h1 : p < 32) (h2 : ∀ k, k < p → 2 ≤ k → p % k ≠ 0) (x : Nat) (h3 : x < p) (h4 : 0 < x) : ∃ k, k < p ∧ 1 ≤ k ∧ k * x % p = 1 % p := by
  have h := inv_exB p h1 h2 x h3 h4
  rw [List.any_eq_true] at h
  obtain ⟨k, hk, h⟩ := h
  exact ⟨k, List.mem_range.1 hk, (of_decide_eq_true h).1, (of_decide_eq_true h).2⟩
open Go Classical
section
variable {W : Nat} {p : Int}
theorem RR.nz {B : List By} (h : RR W p B) {b : By} (hb : b ∈ B) : b ≠ z0 := by
  intro e
  have h1 := (h.ld b hb).2
  have h2 : b (fstW W b) = 0 := by conv => lhs; rw [e]
                                   rfl
  rw [h1] at h2; cases h2
theorem byW_keep (hp : 1 ≤ p) (hp2 : p ≤ 256) {l : Nat} (hl : l < W) : ∀ {B : List By} {v : By}, Vp W p v → (∀ y, y < l → v y = 0) → (∀ b ∈ B, fstW W b ≠ l) → ∀ y, y ≤ l → byW W p v B y = v y
  | [], _, _, _, _, _, _ => rfl
  | r :: B, v, hv, h0, hne, y, hy => by
    show byW W p (byW1 W p v r) B y = v y
    have h1 : ∀ y, y ≤ l → byW1 W p v r y = v y := by
      intro y hy
      rcases Nat.lt_or_ge (fstW W r) l with h | h
      · unfold byW1; rw [if_pos (h0 _ h)]
      · have hne := hne r (by simp)
        rw [byW1_add hp hp2 hv]
        have hr : r y = 0 := fstW_lt (W := W) (by omega)
        apply bz_inj
        show bz (addW W p v r (-(bz v (fstW W r)))) y = bz v y
        rw [bz_add (W := W) hp hp2 (by omega), bz_eq0.2 hr, Int.mul_zero, Int.add_zero]
        exact Int.emod_eq_of_lt (bz_nn v y) (hv.1 y)
    rw [byW_keep hp hp2 hl (byW1_vp hp hp2 hv) (fun y hy => by rw [h1 y (by omega)]; exact h0 y hy) (fun b hb => hne b (by simp [hb])) y hy]
    exact h1 y hy
/-- a vector of the space begins where one of the list does -/
theorem RR.lead (hp : 1 ≤ p) (hp2 : p ≤ 256) {B : List By} (h : RR W p B) {v : By} (hv : Sp' W p B v) (hn : v ≠ z0) : ∃ b ∈ B, fstW W b = fstW W v := by
  apply Classical.byContradiction
  intro hne
  have hvp := hv.vp hp hp2
  have hl := fst_nz hvp.2 hn
  have := byW_keep hp hp2 hl (B := B) hvp (fun y hy => fstW_lt hy) (fun b hb e => hne ⟨b, hb, e⟩) _ (Nat.le_refl _)
  rw [h.zero hp hp2 hv] at this
  exact fstW_ne hl this.symm
theorem RR.sorted {A : List By} (h : RR W p A) : A.Pairwise (fun a b => fstW W a < fstW W b) := h.st.imp fun h => h.1
/-! ### inverses -/
theorem inv_ok (hp : Pr p) {x : UInt8} (hx : x ≠ 0) (hx2 : (x.toNat : Int) < p) : ((invN p x : Nat) : Int) < p ∧ ((invN p x : Nat) : Int) * (x.toNat : Int) % p = 1 := by
  obtain ⟨h1, h2, h3⟩ := hp
  obtain ⟨m, rfl⟩ : ∃ m : Nat, p = (m : Int) := ⟨p.toNat, by omega⟩
  have hx0 : 0 < x.toNat := by
    rcases Nat.eq_zero_or_pos x.toNat with e | e
    · exact (hx (u_eq0.2 (by omega))).elim
    · exact e
  obtain ⟨k, k1, k2, k3⟩ := inv_ex m (by omega) (fun k hk hk2 e => h3 (k : Int) (by omega) (by omega) (by omega)) x.toNat (by omega) hx0
  rw [Nat.mod_eq_of_lt (show 1 < m by omega)] at k3
  have hq : ((((k : Nat) : Int) * (x.toNat : Int) % (m : Int)) == 1) = true := by
    rw [beq_iff_eq, ← Int.natCast_mul, ← Int.natCast_emod, k3]; rfl
  have hlt : invN m x < 1 + ((m : Int) - 1).toNat := by
    have h4 := @fstN_ge (fun k => ((k : Nat) : Int) * (x.toNat : Int) % (m : Int) == 1) ((m : Int) - 1).toNat 1
    rcases Nat.lt_or_ge (invN m x) (1 + ((m : Int) - 1).toNat) with h | h
    · exact h
    · have := @fstN_none (fun k => ((k : Nat) : Int) * (x.toNat : Int) % (m : Int) == 1) ((m : Int) - 1).toNat 1 k k2 (by unfold invN at h; omega)
      rw [hq] at this; cases this
  have h5 := @fstN_some (fun k => ((k : Nat) : Int) * (x.toNat : Int) % (m : Int) == 1) ((m : Int) - 1).toNat 1 hlt
  exact ⟨by omega, eq_of_beq h5⟩

/-- what is left of v begins at none of the list's first places -/
theorem RR.left0 (hp : 1 ≤ p) (hp2 : p ≤ 256) : ∀ {A L : List By}, RR W p (A ++ L) → ∀ {v : By}, Vp W p v → (∀ r ∈ A, v (fstW W r) = 0) → ∀ r ∈ A ++ L, byW W p v L (fstW W r) = 0
  | A, [], h, v, hv, h0, r, hr => by simp at hr; exact h0 r hr
  | A, s :: L, h, v, hv, h0, r, hr => by
    have h' : RR W p ((A ++ [s]) ++ L) := by simpa using h
    refine RR.left0 hp hp2 (A := A ++ [s]) (L := L) h' (v := byW1 W p v s) (byW1_vp hp hp2 hv) ?_ r (by simpa using hr)
    intro q hq
    apply bz_eq0.1
    rcases List.mem_append.1 hq with hq | hq
    · rw [byW1_add hp hp2 hv, bz_add hp hp2 (h.ld q (List.mem_append_left _ hq)).1, bz_eq0.2 (h0 q hq)]
      have := (h.two (a := s) (A := A) (B := L) (List.mem_append_left _ hq)).2.1
      rw [bz_eq0.2 this]
      simp
    · obtain rfl := List.mem_singleton.1 hq
      have hl := h.ld q (by simp)
      rw [byW1_add hp hp2 hv, bz_add hp hp2 hl.1, one_bz hl.2, Int.mul_one, Int.add_right_neg]
      exact Int.zero_emod p
theorem RR.left (hp : 1 ≤ p) (hp2 : p ≤ 256) {L : List By} (h : RR W p L) {v : By} (hv : Vp W p v) : ∀ r ∈ L, byW W p v L (fstW W r) = 0 :=
  RR.left0 hp hp2 (A := []) h hv (by simp)
end
end Hf
namespace Hf
open Go Classical
section
variable {p : Int}
theorem RR.nil {W : Nat} : RR W p [] := ⟨by simp, by simp, List.Pairwise.nil⟩
theorem RR.len {W : Nat} {L : List By} (h : RR W p L) : L.length ≤ W := by
  have key : ∀ (L : List By) (k : Nat), L.Pairwise (fun a b => fstW W a < fstW W b) → (∀ r ∈ L, k ≤ fstW W r ∧ fstW W r < W) → L.length + k ≤ W ∨ L = [] := by
    intro L
    induction L with
    | nil => intro k _ _; exact .inr rfl
    | cons a L ih =>
      intro k hs hb
      rw [List.pairwise_cons] at hs
      have ha := hb a (by simp)
      rcases ih (fstW W a + 1) hs.2 fun r hr => ⟨hs.1 r hr, (hb r (by simp [hr])).2⟩ with h | h
      · simp only [List.length_cons]; omega
      · subst h; simp only [List.length_cons, List.length_nil]; omega
  rcases key L 0 h.sorted (fun r hr => ⟨Nat.zero_le _, h.fs r hr⟩) with h | h
  · omega
  · subst h; simp
end
end Hf
namespace Hf
open Go Classical
variable {P : Program} {ρ : Nat → FuncId}
theorem rdR_lenA {H : List Blk} {a : At} {L : List At} (h : rdR H a L) : lenA a = some L.length := by
  cases a <;> simp only [rdR] at h
  · obtain ⟨r, l, -, h1, rfl⟩ := h; simp [lenA]; omega
  · subst h; rfl
theorem rdR_at {H : List Blk} {a : At} {L : List At} (h : rdR H a L) (i : Nat) (hi : i < L.length) :
    ∃ k off len cap q, a = .sl k off len cap ∧ i < len ∧ off + i * 1 = q ∧ ∃ r l, H[k]? = some ⟨r, .rw l⟩ ∧ l[q]? = some (L.getD i .sn) := by
  cases a <;> simp only [rdR] at h
  · rename_i k off len cap
    obtain ⟨r, l, hk, h1, rfl⟩ := h
    have hl : ((l.drop off).take len).length = len := by simp; omega
    rw [hl] at hi
    refine ⟨k, off, len, cap, off + i * 1, rfl, hi, rfl, r, l, hk, ?_⟩
    rw [List.getD_eq_getElem?_getD, List.getElem?_take_of_lt hi, List.getElem?_drop, Nat.mul_one]
    have : off + i < l.length := by omega
    simp [this]
  · subst h; simp at hi
theorem rdR_ext {H H' : List Blk} {a : At} {L : List At} (h : rdR H a L) (e : Ext H H') : rdR H' a L := by
  cases a <;> simp only [rdR] at h ⊢
  · obtain ⟨r, l, hk, h1, h2⟩ := h; exact ⟨r, l, e _ _ hk, h1, h2⟩
  · exact h
/-- numbers in a slice -/
def VI (H : List Blk) (a : At) (L : List Int) : Prop := rdR H a (L.map (At.i .i64))
theorem VI.ext {H H' : List Blk} {a : At} {L : List Int} (h : VI H a L) (e : Ext H H') : VI H' a L := rdR_ext h e
theorem VI.len {H : List Blk} {a : At} {L : List Int} (h : VI H a L) : lenA a = some L.length := by
  have := rdR_lenA h; rwa [List.length_map] at this
theorem VI.at {H : List Blk} {a : At} {L : List Int} (h : VI H a L) (i : Nat) (hi : i < L.length) :
    ∃ k off len cap q, a = .sl k off len cap ∧ i < len ∧ off + i * 1 = q ∧ ∃ r l, H[k]? = some ⟨r, .rw l⟩ ∧ l[q]? = some (.i .i64 (L.getD i 0)) := by
  obtain ⟨k, off, len, cap, q, h1, h2, h3, r, l, h4, h5⟩ := rdR_at h i (by rw [List.length_map]; exact hi)
  refine ⟨k, off, len, cap, q, h1, h2, h3, r, l, h4, ?_⟩
  rw [h5, List.getD_eq_getElem?_getD, List.getElem?_map, List.getD_eq_getElem?_getD, List.getElem?_eq_getElem hi]
  rfl

theorem cput_rw {l : List At} {x : Nat} {a : At} (h : x < l.length) (hc : a.cell1 = true) : cput (.rw l) x a = some (.rw (l.set x a)) := if_pos ⟨h, hc⟩
theorem cput_vr {b a : At} (hc : a.cell1 = true) : cput (.vr b) 0 a = some (.vr a) := if_pos ⟨rfl, hc⟩
/-! ### rows -/
def blkOf : At → Nat
  | .sl k _ _ _ => k
  | _ => 0
/-- a row of w bytes, v -/
def RowB (H : List Blk) (w : Nat) (a : At) (v : By) : Prop := ∃ k cap N f, a = .sl k 0 w cap ∧ H[k]? = some ⟨false, .by [] N f⟩ ∧ (w ≤ N ∧ w ≤ cap) ∧ ∀ x, x < w → f x = v x
theorem RowB.lt {H : List Blk} {w : Nat} {a : At} {v : By} (h : RowB H w a v) : a.lt H.length = true := by
  obtain ⟨k, cap, N, f, rfl, h2, h3, h4⟩ := h
  have := lt_of h2
  simp [At.lt, this]
/-- all blocks but some are there still -/
def Fr (l : List Nat) (H H' : List Blk) : Prop := ∀ (k : Nat) (B : Blk), k ∉ l → H[k]? = some B → H'[k]? = some B
theorem Fr.refl {l : List Nat} {H : List Blk} : Fr l H H := fun _ _ _ h => h
theorem Fr.trans {l : List Nat} {H H1 H2 : List Blk} (h : Fr l H H1) (h' : Fr l H1 H2) : Fr l H H2 := fun k B hk e => h' k B hk (h k B hk e)
theorem Fr.mono {l l' : List Nat} {H H' : List Blk} (h : Fr l H H') (hs : ∀ k ∈ l, k ∈ l') : Fr l' H H' := fun k B hk e => h k B (fun q => hk (hs k q)) e
theorem Ext.fr {l : List Nat} {H H' : List Blk} (h : Ext H H') : Fr l H H' := fun k B _ e => h k B e
theorem Fr.upto {m : Nat} {l : List Nat} {H H' : List Blk} (h : Fr l H H') (hl : ∀ k ∈ l, m ≤ k) : Upto m H H' := fun k B hk e => h k B (fun q => by have := hl k q; omega) e
theorem RowB.fr {l : List Nat} {H H' : List Blk} {w : Nat} {a : At} {v : By} (h : RowB H w a v) (e : Fr l H H') (hn : blkOf a ∉ l) : RowB H' w a v := by
  obtain ⟨k, cap, N, f, rfl, h2, h3, h4⟩ := h
  exact ⟨k, cap, N, f, rfl, e _ _ hn h2, h3, h4⟩
/-- the slice of the rows -/
def Spn (H : List Blk) (ra : At) (As : List At) : Prop := (ra = .sn ∧ As = []) ∨ ∃ k cap l, ra = .sl k 0 As.length cap ∧ H[k]? = some ⟨false, .rw l⟩ ∧ (cap ≤ l.length ∧ As.length ≤ cap) ∧ l.take As.length = As
def spB : At → List Nat
  | .sl k _ _ _ => [k]
  | _ => []
theorem Spn.rd {H : List Blk} {ra : At} {As : List At} (h : Spn H ra As) : rdR H ra As := by
  rcases h with ⟨rfl, rfl⟩ | ⟨k, cap, l, rfl, hk, ⟨h1, h2⟩, h3⟩
  · exact rfl
  · exact ⟨false, l, hk, by omega, h3⟩
theorem Spn.fr {l : List Nat} {H H' : List Blk} {ra : At} {As : List At} (h : Spn H ra As) (e : Fr l H H') (hn : ∀ k ∈ spB ra, k ∉ l) : Spn H' ra As := by
  rcases h with ⟨rfl, rfl⟩ | ⟨k, cap, l', rfl, hk, h1, h3⟩
  · exact .inl ⟨rfl, rfl⟩
  · exact .inr ⟨k, cap, l', rfl, e _ _ (hn k (by simp [spB])) hk, h1, h3⟩
theorem Spn.lt {H : List Blk} {ra : At} {As : List At} (h : Spn H ra As) : ra.lt H.length = true ∧ ∀ k ∈ spB ra, k < H.length := by
  rcases h with ⟨rfl, rfl⟩ | ⟨k, cap, l', rfl, hk, h1, h3⟩
  · exact ⟨rfl, by simp [spB]⟩
  · have := lt_of hk
    exact ⟨by simp [At.lt, this], by simp [spB, this]⟩
theorem Spn.len {H : List Blk} {ra : At} {As : List At} (h : Spn H ra As) : lenA ra = some As.length := rdR_lenA h.rd
/-- one more row -/
theorem spn_app {z : C1} {bytes : Nat} {H : List Blk} {ra b x : At} {As : List At} (h : Spn H ra As) (hb : rdR H b [x]) (hlen : As.length ≤ 1000000) (hby : bytes ≤ 100) :
    apR z bytes H ra b fun a' H' => Spn H' a' (As ++ [x]) ∧ Fr (spB ra) H H' ∧ (spB a' = spB ra ∧ ra ≠ .sn ∨ spB a' = [H.length]) ∧ H.length ≤ H'.length := by
  rcases h with ⟨rfl, rfl⟩ | ⟨k, cap, l, rfl, hk, ⟨h1, h2⟩, h3⟩
  · refine ⟨[x], hb, ⟨by simp, by simp; omega, by simp⟩, fun cap' hc => ⟨.inr ⟨H.length, cap', _, rfl, get_new, ⟨?_, hc⟩, ?_⟩, Ext.app.fr, .inr rfl, by simp⟩⟩
    · simp at hc ⊢; omega
    · simp
  · refine ⟨[x], l, hb, hk, ⟨by omega, h2, Nat.le_trans (Nat.mul_le_mul (show As.length + [x].length ≤ 1000001 by simp; omega) hby) (by omega), by simp; omega⟩, fun hc => ⟨.inr ⟨k, cap, _, by simp, set_same hk, ⟨?_, ?_⟩, ?_⟩, ?_, .inl ⟨rfl, by simp⟩, by simp⟩, fun hc cap' hc' => ⟨.inr ⟨H.length, cap', _, by simp, get_new, ⟨?_, ?_⟩, ?_⟩, Ext.app.fr, .inr rfl, by simp⟩⟩
    · simp only [List.length_append, List.length_take, List.length_drop, List.length_cons, List.length_nil] at hc ⊢; omega
    · simpa using hc
    · have hl : As.length ≤ l.length := by omega
      have e1 : (As ++ [x]).length = As.length + 1 := by simp
      rw [e1, Nat.zero_add, h3]
      have e2 : As ++ [x] ++ l.drop (As.length + [x].length) = (As ++ [x]) ++ l.drop (As.length + 1) := rfl
      rw [e2, ← e1]; exact List.take_left'  rfl
    · intro j B hj e
      exact set_other e (by intro q; subst q; exact hj (by simp [spB]))
    · simp only [List.length_append, List.length_take, List.length_drop, List.length_cons, List.length_nil, List.length_replicate] at hc' ⊢; omega
    · simpa using hc'
    · have e1 : (As ++ [x]).length = As.length + 1 := by simp
      simp only [List.drop_zero, h3]
      rw [e1, ← e1]; exact List.take_left' rfl
/-- rows one by one -/
def Rows (H : List Blk) (w : Nat) (As : List At) (R : List By) : Prop := As.length = R.length ∧ ∀ i, i < As.length → RowB H w (As.getD i .sn) (R.getD i z0)
theorem RowB.at {H : List Blk} {w : Nat} {a : At} {v : By} (h : RowB H w a v) (x : Nat) (hx : x < w) :
    ∃ k off len cap q, a = .sl k off len cap ∧ x < len ∧ off + x * 1 = q ∧ ∃ r B, H[k]? = some ⟨r, B⟩ ∧ cat B q = some (.u (v x)) := by
  obtain ⟨k, cap, N, f, rfl, h2, h3, h4⟩ := h
  refine ⟨k, 0, w, cap, x, rfl, hx, by omega, false, _, h2, ?_⟩
  rw [cat_u (by omega), h4 x hx]
theorem RowB.len {H : List Blk} {w : Nat} {a : At} {v : By} (h : RowB H w a v) : lenA a = some w := by
  obtain ⟨k, cap, N, f, rfl, -⟩ := h; rfl
theorem RowB.congr {H : List Blk} {w : Nat} {a : At} {v v' : By} (h : RowB H w a v) (e : ∀ x, x < w → v x = v' x) : RowB H w a v' := by
  obtain ⟨k, cap, N, f, h1, h2, h3, h4⟩ := h
  exact ⟨k, cap, N, f, h1, h2, h3, fun x hx => (h4 x hx).trans (e x hx)⟩
def bput : Bk → Nat → UInt8 → Bk
  | .by hd N f, x, b => .by hd N (upd f x b)
  | c, _, _ => c
/-- an entry of a row is written -/
theorem RowB.st {H : List Blk} {w : Nat} {a : At} {v : By} (h : RowB H w a v) (x : Nat) (hx : x < w) :
    ∃ k off len cap q c, a = .sl k off len cap ∧ x < len ∧ off + x * 1 = q ∧ H[k]? = some ⟨false, c⟩ ∧ ∀ b, cput c q (.u b) = some (bput c q b) ∧ RowB (H.set k ⟨false, bput c q b⟩) w a (upd v x b) ∧ Fr [blkOf a] H (H.set k ⟨false, bput c q b⟩) := by
  obtain ⟨k, cap, N, f, rfl, h2, h3, h4⟩ := h
  refine ⟨k, 0, w, cap, x, _, rfl, hx, by omega, h2, fun b => ⟨cput_u (by simp) (by omega), ⟨k, cap, N, upd f x b, rfl, set_same h2, h3, ?_⟩, ?_⟩⟩
  · intro y hy
    unfold upd
    split
    · rfl
    · exact h4 y hy
  · intro j B hj e
    exact set_other e (by intro q; subst q; exact hj (by simp [blkOf]))
theorem Rows.at {H : List Blk} {w : Nat} {As : List At} {R : List By} (h : Rows H w As R) (i : Nat) (hi : i < R.length) : RowB H w (As.getD i .sn) (R.getD i z0) := h.2 i (by rw [h.1]; exact hi)
theorem map_getD {As : List At} {i : Nat} (hi : i < As.length) : blkOf (As.getD i .sn) ∈ As.map blkOf := by
  rw [List.getD_eq_getElem?_getD, List.getElem?_eq_getElem hi]
  exact List.mem_map_of_mem (by simp)
theorem nodup_ne {As : List At} (h : (As.map blkOf).Nodup) {i j : Nat} (hi : i < As.length) (hj : j < As.length) (hn : i ≠ j) : blkOf (As.getD i .sn) ≠ blkOf (As.getD j .sn) := by
  intro e
  have h1 := List.pairwise_iff_getElem.1 h
  have ei : As.getD i .sn = As[i] := by simp [List.getD_eq_getElem?_getD, List.getElem?_eq_getElem hi]
  have ej : As.getD j .sn = As[j] := by simp [List.getD_eq_getElem?_getD, List.getElem?_eq_getElem hj]
  rw [ei, ej] at e
  rcases Nat.lt_or_gt_of_ne hn with q | q
  · exact h1 i j (by simpa using hi) (by simpa using hj) q (by simpa using e)
  · exact h1 j i (by simpa using hj) (by simpa using hi) q (by simpa using e.symm)
/-- a system of m unknowns: rows R of m + 1 bytes each, places T -/
def OwnT (s : Nat) (ra : At) (As : List At) (pa : At) : List Nat := s :: (spB pa ++ (spB ra ++ As.map blkOf))
def sysB (p n0 : Int) (m : Nat) (ra pa : At) : Blk := ⟨false, .rw [.i .i64 p, .i .i64 n0, .i .i64 (m : Int), ra, pa]⟩
def SY (m0 : Nat) (H : List Blk) (s : Nat) (p n0 : Int) (m : Nat) (R : List By) (T : List Int) : Prop := ∃ ra As pa, H[s]? = some (sysB p n0 m ra pa) ∧ Spn H ra As ∧ Rows H (m + 1) As R ∧ Spn H pa (T.map (At.i .i64)) ∧ (OwnT s ra As pa).Nodup ∧ ∀ k ∈ OwnT s ra As pa, m0 ≤ k
/-- row d made 1 at c, the others 0 there -/
def invI (p : Int) (x : UInt8) : Int := if ((invN p x : Nat) : Int) < p then ((invN p x : Nat) : Int) else 1 % p
def clq (w : Nat) (p : Int) (v : By) (c : Nat) : By := vec w p fun y => invI p (v c) * bz v y
def clj (w : Nat) (p : Int) (q v : By) (c : Nat) : By := if v c = 0 then v else addW w p v q (-(bz v c))
def clR (w : Nat) (p : Int) (R : List By) (d c j : Nat) : By := if j = d then clq w p (R.getD d z0) c else clj w p (clq w p (R.getD d z0) c) (R.getD j z0) c
def clr (w : Nat) (p : Int) (R : List By) (d c : Nat) : List By := (List.range R.length).map (clR w p R d c)
theorem clr_len {w : Nat} {p : Int} {R : List By} {d c : Nat} : (clr w p R d c).length = R.length := by simp [clr]
theorem clr_at {w : Nat} {p : Int} {R : List By} {d c j : Nat} (h : j < R.length) : (clr w p R d c).getD j z0 = clR w p R d c j := by
  simp [clr, List.getD_eq_getElem?_getD, h]
theorem invI_bd {p : Int} {x : UInt8} (hp : 1 ≤ p) : 0 ≤ invI p x ∧ invI p x ≤ p := by
  unfold invI
  split
  · omega
  · have := Int.emod_nonneg 1 (show p ≠ 0 by omega); have := Int.emod_lt_of_pos 1 (show 0 < p by omega); omega
end Hf
namespace Hf
open Go Classical
variable {P : Program} {ρ : Nat → FuncId}
theorem x_IndexFunc_R_ok (B : Bs P ρ) (E : F_x_IndexFunc_R P ρ) {g : Nat} {caps : List (Nat × Nat)} {H : List Blk} {a : At} {As : List At} {q : Nat → Bool} {z : Int} (hz : firstQ q As.length 0 = z) (hA : rdR H a As) (hlt : a.lt H.length = true) (hcaps : (At.fn g [] caps).lt H.length = true) (hlen : As.length ≤ 1000000) (hq : ∀ i, i < As.length → CallR P ρ g ([As.getD i .sn] ++ caps.map (fun p => .pt p.1 p.2)) H fun u G => u = .one (.b (q i)) ∧ G = H) :
    CallR P ρ 277 [a, .fn g [] caps] H (fun u G => u = .one (.i .i64 z) ∧ G = H) := by
  refine call_of_q B.fn B.mo E rfl (fun hAr hHp => ?_) (by simp only [List.all_cons, List.all_nil, hlt, hcaps]; rfl)
  refine ⟨As.length, rdR_lenA hA, ?_⟩
  refine ⟨Unit, (fun a0 a1 a7 (i0 : Nat) (x0 : Unit) => [(0, a0), (1, a1), (7, a7), (8, .one (.i .i64 ((i0 : Nat) : Int)))]) _ _ _ , fun (i0 : Nat) (x0 : Unit) (G0 : List Blk) => (G0 = H ∧ ∀ j, j < i0 → q j = false), As.length, ⟨(), ⟨rfl, fun j h => by omega⟩, ⟨rfl, rfl, rfl, rfl, trivial⟩⟩, ?_⟩
  rintro i0 _ G0 hi0 ⟨rfl, hF0⟩
  refine ⟨fun h9 => ?_, fun h9 => ?_⟩
  · replace h9 := of_decide_eq_true h9
    obtain ⟨k14, o14, n14, c14, q14, ea14, hl14, hq14, r14, l14, hk14, hi14⟩ := rdR_at (hA) i0 (by omega)
    refine ⟨k14, o14, n14, c14, i0, q14, ea14, rfl, hl14, hq14, ?_⟩
    refine ⟨_, _, hk14, hi14, ?_⟩
    refine ⟨_, hq i0 (by omega), ?_⟩
    rintro _ _ ⟨rfl, rfl⟩
    refine ⟨fun h16 => ?_, fun h16 => ?_⟩
    · skip
      have e : z = (i0 : Int) := hz.symm.trans <| firstQ_some (by omega) (by omega) h16 fun j _ h => hF0 j h
      exact ⟨rfl, by rw [e]; rfl, rfl⟩
    · skip
      refine ⟨((i0 + 1 : Nat) : Int), w64_id _ (by omega) (by omega), ?_⟩
      refine ⟨by omega, (), ?_, ⟨rfl, rfl, rfl, rfl, trivial⟩⟩
      refine ⟨rfl, fun j hj => ?_⟩
      by_cases e : j = i0
      · subst e; exact h16
      · exact hF0 j (by omega)
  · replace h9 := of_decide_eq_false h9
    have e0 : As.length = i0 := by omega
    subst e0
    have e : z = -1 := hz.symm.trans <| firstQ_none fun j _ h => hF0 j (by omega)
    exact ⟨rfl, by rw [e]; rfl, rfl⟩

theorem x_ContainsFunc_R_ok (B : Bs P ρ) (E : F_x_ContainsFunc_R P ρ) {g : Nat} {caps : List (Nat × Nat)} {H : List Blk} {a : At} {As : List At} {q : Nat → Bool} {z : Int} (hz : firstQ q As.length 0 = z) (hA : rdR H a As) (hlt : a.lt H.length = true) (hcaps : (At.fn g [] caps).lt H.length = true) (hlen : As.length ≤ 1000000) (hq : ∀ i, i < As.length → CallR P ρ g ([As.getD i .sn] ++ caps.map (fun p => .pt p.1 p.2)) H fun u G => u = .one (.b (q i)) ∧ G = H) :
    CallR P ρ 281 [a, .fn g [] caps] H (fun u G => u = .one (.b (decide (z ≥ 0))) ∧ G = H) := by
  refine call_of_q B.fn B.mo E.1 rfl (fun hAr hHp => ?_) (by simp only [List.all_cons, List.all_nil, hlt, hcaps]; rfl)
  refine ⟨_, x_IndexFunc_R_ok B E.2 hz hA hlt hcaps hlen hq, ?_⟩
  rintro _ _ ⟨rfl, rfl⟩
  exact ⟨rfl, rfl, rfl⟩

theorem i_newSystem_ok (B : Bs P ρ) (E : F_i_newSystem P ρ) {H : List Blk} {p m : Int} :
    CallR P ρ 271 [.i .i64 p, .i .i64 m] H (fun u G => u = .one (.pt H.length 0) ∧ G = H ++ [⟨false, .rw [.i .i64 p, .i .i64 0, .i .i64 m, .sn, .sn]⟩]) := by
  refine call_of_q B.fn B.mo E rfl (fun hAr hHp => ?_) rfl
  refine ⟨H.length, rfl, ?_⟩
  exact ⟨rfl, rfl, rfl⟩

end Hf
namespace Hf
open Go Classical
variable {P : Program} {ρ : Nat → FuncId}
theorem i_system_solve_1_ok (B : Bs P ρ) (E : F_i_system_solve_1 P ρ) {H : List Blk} {w : Nat} {a : At} {v : By} {kc c : Nat} {q : Bool} (hr : RowB H w a v) (hc : H[kc]? = some ⟨q, .vr (.i .i64 (c : Int))⟩) (hcw : c < w) :
    CallR P ρ 276 [a, .pt kc 0] H (fun u G => u = .one (.b (v c != 0)) ∧ G = H) := by
  refine call_of_q B.fn B.mo E rfl (fun hAr hHp => ?_) (by simp only [List.all_cons, List.all_nil, hr.lt]; simp [At.lt, lt_of hc])
  refine ⟨_, _, hc, rfl, ?_⟩
  obtain ⟨k6, o6, n6, c6, q6, ea6, hl6, hq6, r6, l6, hk6, hi6⟩ := RowB.at (hr) c (hcw)
  refine ⟨k6, o6, n6, c6, c, q6, ea6, rfl, hl6, hq6, ?_⟩
  refine ⟨_, _, hk6, hi6, ?_⟩
  exact ⟨rfl, rfl, rfl⟩

theorem i_system_solve_2_ok (B : Bs P ρ) (E : F_i_system_solve_2 P ρ) {H : List Blk} {m s kb : Nat} {a ra pa : At} {v : By} {p n0 : Int} {q : Bool} (hr : RowB H (m + 1) a v) (hc : H[kb]? = some ⟨q, .vr (.pt s 0)⟩) (hs : H[s]? = some (sysB p n0 m ra pa)) :
    CallR P ρ 282 [a, .pt kb 0] H (fun u G => u = .one (.b (v m != 0)) ∧ G = H) := by
  refine call_of_q B.fn B.mo E rfl (fun hAr hHp => ?_) (by simp only [List.all_cons, List.all_nil, hr.lt]; simp [At.lt, lt_of hc])
  refine ⟨_, _, hc, rfl, ?_⟩
  refine ⟨_, _, hs, rfl, ?_⟩
  obtain ⟨k9, o9, n9, c9, q9, ea9, hl9, hq9, r9, l9, hk9, hi9⟩ := RowB.at (hr) m (by omega)
  refine ⟨k9, o9, n9, c9, m, q9, ea9, rfl, hl9, hq9, ?_⟩
  refine ⟨_, _, hk9, hi9, ?_⟩
  exact ⟨rfl, rfl, rfl⟩

theorem i_system_clear_ok (B : Bs P ρ) (E : F_i_system_clear P ρ) {H : List Blk} {s m d c : Nat} {p n0 : Int} {ra pa : At} {As : List At} {R : List By} (hp : 1 ≤ p) (hp2 : p ≤ 256) (hm : m ≤ 100000) (hs : H[s]? = some (sysB p n0 m ra pa)) (hA : Spn H ra As) (hR : Rows H (m + 1) As R) (hnd : (As.map blkOf).Nodup) (hsn : s ∉ As.map blkOf) (hra : ∀ k ∈ spB ra, k ∉ As.map blkOf) (hlen : As.length ≤ 1000000) (hd : d < R.length) (hc : c ≤ m) :
    CallR P ρ 280 [.pt s 0, .i .i64 (d : Int), .i .i64 (c : Int)] H (fun u G => Rows G (m + 1) As (clr (m + 1) p R d c) ∧ Fr (As.map blkOf) H G) := by
  refine call_of_q B.fn B.mo E.1 rfl (fun hAr hHp => ?_) (by simp [At.lt, lt_of hs])
  have hAl := hR.1
  have hI := invI_bd (p := p) (x := R.getD d z0 c) hp
  have hmd : blkOf (As.getD d .sn) ∈ As.map blkOf := map_getD (by omega)
  have hqv : ∀ y, y < m + 1 → clq (m + 1) p (R.getD d z0) c y = byt (invI p (R.getD d z0 c) * bz (R.getD d z0) y % p) := fun y hy => by simp only [clq, vec]; rw [if_pos hy]
  refine ⟨_, _, hs, rfl, ?_⟩
  obtain ⟨k20, o20, n20, c20, q20, ea20, hl20, hq20, r20, l20, hk20, hi20⟩ := rdR_at (hA.rd) d (by omega)
  refine ⟨k20, o20, n20, c20, d, q20, ea20, rfl, hl20, hq20, ?_⟩
  refine ⟨_, _, hk20, hi20, ?_⟩
  refine .inr ⟨_, _, [_, _], hs, ⟨rfl, rfl⟩, ?_⟩
  obtain ⟨k28, o28, n28, c28, q28, ea28, hl28, hq28, r28, l28, hk28, hi28⟩ := RowB.at (hR.at d hd) c (by omega)
  refine ⟨k28, o28, n28, c28, c, q28, ea28, rfl, hl28, hq28, ?_⟩
  refine ⟨_, _, hk28, hi28, ?_⟩
  refine ⟨.one (.i .i64 (invI p (R.getD d z0 c))), i_field_inverse_ok B E.2.1 hp hp2, rfl, ?_⟩
  refine ⟨_, (hR.at d hd).len, ?_⟩
  refine ⟨Unit, (fun a0 a1 a2 a6 a7 a31 a32 (i0 : Nat) (x0 : Unit) => [(0, a0), (1, a1), (2, a2), (6, a6), (7, a7), (31, a31), (32, a32), (33, .one (.i .i64 ((i0 : Nat) : Int)))]) _ _ _ _ _ _ _ , fun (i0 : Nat) (x0 : Unit) (G0 : List Blk) => (Fr [blkOf (As.getD d .sn)] H G0 ∧ RowB G0 (m + 1) (As.getD d .sn) (fun y => if y < i0 then clq (m + 1) p (R.getD d z0) c y else R.getD d z0 y)), m + 1, ⟨(), ⟨Fr.refl, (hR.at d hd).congr fun x hx => by simp⟩, ⟨rfl, rfl, rfl, rfl, rfl, rfl, rfl, rfl, trivial⟩⟩, ?_⟩
  rintro i0 _ G0 hi0 ⟨hF0, hG0⟩
  have hs0 : G0[s]? = some (sysB p n0 m ra pa) := hF0 _ _ (by simp; intro q; exact hsn (q ▸ hmd)) hs
  refine ⟨fun h34 => ?_, fun h34 => ?_⟩
  · replace h34 := of_decide_eq_true h34
    obtain ⟨k36, o36, n36, c36, q36, ea36, hl36, hq36, r36, l36, hk36, hi36⟩ := RowB.at (hG0) i0 (by omega)
    refine ⟨k36, o36, n36, c36, i0, q36, ea36, rfl, hl36, hq36, ?_⟩
    refine ⟨_, _, hk36, hi36, ?_⟩
    refine .inr ⟨_, _, [_, _], hs0, ⟨rfl, rfl⟩, ?_⟩
    have hx9 := toNat_le (if i0 < i0 then clq (m + 1) p (R.getD d z0) c i0 else R.getD d z0 i0)
    have hb : 0 ≤ invI p (R.getD d z0 c) * ((if i0 < i0 then clq (m + 1) p (R.getD d z0) c i0 else R.getD d z0 i0).toNat : Int) ∧ invI p (R.getD d z0 c) * ((if i0 < i0 then clq (m + 1) p (R.getD d z0) c i0 else R.getD d z0 i0).toNat : Int) ≤ 256 * 255 := mul_bd2 hI.1 (by omega) (by omega) (by omega)
    refine ⟨_, w64_id _ (by omega) (by omega), ?_⟩
    refine ⟨_, i_field_mod_ok B E.2.2 hp (by omega), rfl, ?_⟩
    obtain ⟨k49, o49, n49, c49, q49, C49, ea49, hl49, hq49, hk49, hs49⟩ := RowB.st (hG0) i0 (by omega)
    refine ⟨k49, o49, n49, c49, i0, q49, ea49, rfl, hl49, hq49, ?_⟩
    refine ⟨_, _, _, hk49, (hs49 _).1, eqBk_rfl, ?_⟩
    refine ⟨((i0 + 1 : Nat) : Int), w64_id _ (by omega) (by omega), ?_⟩
    refine ⟨by omega, (), ?_, ⟨rfl, rfl, rfl, rfl, rfl, rfl, rfl, rfl, trivial⟩⟩
    refine ⟨hF0.trans ((hs49 _).2.2.mono (by simp)), (hs49 _).2.1.congr fun x hx => ?_⟩
    by_cases e : x = i0
    · subst e
      rw [upd_same, if_neg (Nat.lt_irrefl _), if_pos (Nat.lt_succ_self _), hqv _ hx]
      simp [bz]
    · rw [upd_ne _ _ _ _ e]
      by_cases h : x < i0
      · rw [if_pos h, if_pos (by omega)]
      · rw [if_neg h, if_neg (by omega)]
  · replace h34 := of_decide_eq_false h34
    have e0 : i0 = m + 1 := by omega
    subst e0
    have hpre : ∀ j, j < As.length → RowB G0 (m + 1) (As.getD j .sn) (if j < 0 ∨ j = d then clR (m + 1) p R d c j else R.getD j z0) := by
      intro j hj
      by_cases e : j = d
      · subst e
        rw [if_pos (.inr rfl)]
        refine hG0.congr fun x hx => ?_
        simp only [clR, if_true]; rw [if_pos hx]
      · rw [if_neg (by omega)]
        exact (hR.at j (by omega)).fr hF0 (by simp; exact nodup_ne hnd hj (by omega) e)
    have hF1 : Fr (As.map blkOf) H G0 := hF0.mono (by simpa using hmd)
    have hA0 := hA.fr hF1 hra
    refine ⟨_, _, hs0, rfl, ?_⟩
    refine ⟨_, (hA0).len, ?_⟩
    refine ⟨Unit, (fun a0 a1 a2 a6 a54 a55 (i1 : Nat) (x1 : Unit) => [(0, a0), (1, a1), (2, a2), (6, a6), (54, a54), (55, a55), (56, .one (.i .i64 ((i1 : Nat) : Int)))]) _ _ _ _ _ _ , fun (i1 : Nat) (x1 : Unit) (G1 : List Blk) => (Fr (As.map blkOf) H G1 ∧ ∀ j, j < As.length → RowB G1 (m + 1) (As.getD j .sn) (if j < i1 ∨ j = d then clR (m + 1) p R d c j else R.getD j z0)), As.length, ⟨(), ⟨hF1, hpre⟩, ⟨rfl, rfl, rfl, rfl, rfl, rfl, rfl, trivial⟩⟩, ?_⟩
    rintro i1 _ G1 hi1 ⟨hFa, hGa⟩
    have hs1 : G1[s]? = some (sysB p n0 m ra pa) := hFa _ _ hsn hs
    have hA1 := hA.fr hFa hra
    refine ⟨fun h57 => ?_, fun h57 => ?_⟩
    · replace h57 := of_decide_eq_true h57
      obtain ⟨k59, o59, n59, c59, q59, ea59, hl59, hq59, r59, l59, hk59, hi59⟩ := rdR_at (hA1.rd) i1 (by omega)
      refine ⟨k59, o59, n59, c59, i1, q59, ea59, rfl, hl59, hq59, ?_⟩
      refine ⟨_, _, hk59, hi59, ?_⟩
      refine ⟨fun h64 => ?_, fun h64 => ?_⟩
      · replace h64 := eq_of_beq h64
        refine brB_t ?_
        refine brB_t ?_
        refine brB_t ?_
        refine brB_t ?_
        refine brB_t ?_
        refine brB_t ?_
        refine ⟨((i1 + 1 : Nat) : Int), w64_id _ (by omega) (by omega), ?_⟩
        refine ⟨by omega, (), ?_, ⟨rfl, rfl, rfl, rfl, rfl, rfl, rfl, trivial⟩⟩
        refine ⟨hFa, fun j hj => (hGa j hj).congr fun x _ => ?_⟩
        by_cases e : j = d
        · rw [if_pos (.inr e), if_pos (.inr e)]
        · by_cases h : j < i1
          · rw [if_pos (.inl h), if_pos (.inl (by omega))]
          · rw [if_neg (by omega), if_neg (by omega)]
      · replace h64 := ne_of_beq_false h64
        have hj := hGa i1 (by omega)
        rw [if_neg (by omega)] at hj
        refine brB_f ?_
        refine brB_f ?_
        obtain ⟨k67, o67, n67, c67, q67, ea67, hl67, hq67, r67, l67, hk67, hi67⟩ := RowB.at (hj) c (by omega)
        refine ⟨k67, o67, n67, c67, c, q67, ea67, rfl, hl67, hq67, ?_⟩
        refine brB_f ?_
        refine ⟨_, _, hk67, hi67, ?_⟩
        refine brB_f ?_
        refine brB_f ?_
        refine ⟨fun h70 => ?_, fun h70 => ?_⟩
        · replace h70 := eq_of_beq h70
          refine ⟨((i1 + 1 : Nat) : Int), w64_id _ (by omega) (by omega), ?_⟩
          refine ⟨by omega, (), ?_, ⟨rfl, rfl, rfl, rfl, rfl, rfl, rfl, trivial⟩⟩
          refine ⟨hFa, fun j hj' => (hGa j hj').congr fun x _ => ?_⟩
          by_cases e : j = d
          · rw [if_pos (.inr e), if_pos (.inr e)]
          · by_cases h : j < i1
            · rw [if_pos (.inl h), if_pos (.inl (by omega))]
            · rw [if_neg (by omega)]
              by_cases h' : j = i1
              · subst h'
                rw [if_pos (.inl (by omega))]
                simp only [clR, if_neg e, clj]; rw [if_pos h70]
              · rw [if_neg (by omega)]
        · replace h70 := ne_of_beq_false h70
          obtain ⟨k73, o73, n73, c73, q73, ea73, hl73, hq73, r73, l73, hk73, hi73⟩ := RowB.at (hj) c (by omega)
          refine ⟨k73, o73, n73, c73, c, q73, ea73, rfl, hl73, hq73, ?_⟩
          refine ⟨_, _, hk73, hi73, ?_⟩
          have hkc := toNat_le (R.getD i1 z0 c)
          have hne : i1 ≠ d := by omega
          have hq1 : RowB G1 (m + 1) (As.getD d .sn) (clq (m + 1) p (R.getD d z0) c) := by
            have := hGa d (by omega)
            rw [if_pos (.inr rfl)] at this
            exact this.congr fun x _ => by simp [clR]
          have hmj : blkOf (As.getD i1 .sn) ∈ As.map blkOf := map_getD (by omega)
          refine ⟨_, (hq1).len, ?_⟩
          refine ⟨Unit, (fun a0 a1 a2 a6 a11 a12 a54 a55 a56 a76 a77 (i2 : Nat) (x2 : Unit) => [(0, a0), (1, a1), (2, a2), (6, a6), (11, a11), (12, a12), (54, a54), (55, a55), (56, a56), (76, a76), (77, a77), (78, .one (.i .i64 ((i2 : Nat) : Int)))]) _ _ _ _ _ _ _ _ _ _ _ , fun (i2 : Nat) (x2 : Unit) (G2 : List Blk) => (Fr [blkOf (As.getD i1 .sn)] G1 G2 ∧ RowB G2 (m + 1) (As.getD i1 .sn) (fun y => if y < i2 then addW (m + 1) p (R.getD i1 z0) (clq (m + 1) p (R.getD d z0) c) (-(bz (R.getD i1 z0) c)) y else R.getD i1 z0 y)), m + 1, ⟨(), ⟨Fr.refl, hj.congr fun x hx => by simp⟩, ⟨rfl, rfl, rfl, rfl, rfl, rfl, rfl, rfl, rfl, rfl, rfl, rfl, trivial⟩⟩, ?_⟩
          rintro i2 _ G2 hi2 ⟨hFb, hGb⟩
          have hs2 : G2[s]? = some (sysB p n0 m ra pa) := hFb _ _ (by simp; intro q; exact hsn (q ▸ hmj)) hs1
          have hq2 := hq1.fr hFb (by simp; exact nodup_ne hnd (by omega) (by omega) (Ne.symm hne))
          refine ⟨fun h79 => ?_, fun h79 => ?_⟩
          · replace h79 := of_decide_eq_true h79
            obtain ⟨k81, o81, n81, c81, q81, ea81, hl81, hq81, r81, l81, hk81, hi81⟩ := RowB.at (hq2) i2 (by omega)
            refine ⟨k81, o81, n81, c81, i2, q81, ea81, rfl, hl81, hq81, ?_⟩
            refine ⟨_, _, hk81, hi81, ?_⟩
            refine .inr ⟨_, _, [_, _], hs2, ⟨rfl, rfl⟩, ?_⟩
            obtain ⟨k91, o91, n91, c91, q91, ea91, hl91, hq91, r91, l91, hk91, hi91⟩ := RowB.at (hGb) i2 (by omega)
            refine ⟨k91, o91, n91, c91, i2, q91, ea91, rfl, hl91, hq91, ?_⟩
            refine ⟨_, _, hk91, hi91, ?_⟩
            have hxq := toNat_le (clq (m + 1) p (R.getD d z0) c i2)
            have hxr := toNat_le (if i2 < i2 then addW (m + 1) p (R.getD i1 z0) (clq (m + 1) p (R.getD d z0) c) (-(bz (R.getD i1 z0) c)) i2 else R.getD i1 z0 i2)
            have hb2 : 0 ≤ ((R.getD i1 z0 c).toNat : Int) * ((clq (m + 1) p (R.getD d z0) c i2).toNat : Int) ∧ ((R.getD i1 z0 c).toNat : Int) * ((clq (m + 1) p (R.getD d z0) c i2).toNat : Int) ≤ 256 * 255 := mul_bd2 (by omega) (by omega) (by omega) (by omega)
            refine ⟨_, w64_id _ (by omega) (by omega), ?_⟩
            refine ⟨_, w64_id _ (by omega) (by omega), ?_⟩
            refine ⟨_, i_field_mod_ok B E.2.2 hp (by omega), rfl, ?_⟩
            obtain ⟨k100, o100, n100, c100, q100, C100, ea100, hl100, hq100, hk100, hs100⟩ := RowB.st (hGb) i2 (by omega)
            refine ⟨k100, o100, n100, c100, i2, q100, ea100, rfl, hl100, hq100, ?_⟩
            refine ⟨_, _, _, hk100, (hs100 _).1, eqBk_rfl, ?_⟩
            refine ⟨((i2 + 1 : Nat) : Int), w64_id _ (by omega) (by omega), ?_⟩
            refine ⟨by omega, (), ?_, ⟨rfl, rfl, rfl, rfl, rfl, rfl, rfl, rfl, rfl, rfl, rfl, rfl, trivial⟩⟩
            refine ⟨hFb.trans ((hs100 _).2.2.mono (by simp)), (hs100 _).2.1.congr fun x hx => ?_⟩
            by_cases e : x = i2
            · subst e
              rw [upd_same, if_neg (Nat.lt_irrefl _), if_pos (Nat.lt_succ_self _)]
              simp only [addW, vec]; rw [if_pos hx]
              simp only [bz]
              rw [Int.neg_mul, Int.sub_eq_add_neg]
            · rw [upd_ne _ _ _ _ e]
              by_cases h : x < i2
              · rw [if_pos h, if_pos (by omega)]
              · rw [if_neg h, if_neg (by omega)]
          · replace h79 := of_decide_eq_false h79
            have e2 : i2 = m + 1 := by omega
            subst e2
            refine ⟨((i1 + 1 : Nat) : Int), w64_id _ (by omega) (by omega), ?_⟩
            refine ⟨by omega, (), ?_, ⟨rfl, rfl, rfl, rfl, rfl, rfl, rfl, trivial⟩⟩
            refine ⟨hFa.trans (hFb.mono (by simpa using hmj)), fun j hj' => ?_⟩
            by_cases h' : j = i1
            · subst h'
              rw [if_pos (.inl (by omega))]
              refine hGb.congr fun x hx => ?_
              simp only [clR, if_neg hne, clj]; rw [if_neg h70, if_pos hx]
            · refine ((hGa j hj').fr hFb (by simp; exact nodup_ne hnd hj' (by omega) h')).congr fun x _ => ?_
              by_cases e : j = d
              · rw [if_pos (.inr e), if_pos (.inr e)]
              · by_cases h : j < i1
                · rw [if_pos (.inl h), if_pos (.inl (by omega))]
                · rw [if_neg (by omega), if_neg (by omega)]
    · replace h57 := of_decide_eq_false h57
      have e1 : i1 = As.length := by omega
      subst e1
      refine ⟨rfl, ⟨by rw [clr_len]; exact hAl, fun j hj => ?_⟩, hFa⟩
      rw [clr_at (by omega)]
      have := hGa j hj
      rwa [if_pos (.inl hj)] at this

end Hf
namespace Hf
open Go Classical
def swL {α : Type} (z : α) (L : List α) (i j : Nat) : List α := (L.set i (L.getD j z)).set j (L.getD i z)
section
variable {α : Type} {z : α} {L : List α} {i j : Nat}
theorem swL_len : (swL z L i j).length = L.length := by simp [swL]
theorem swL_perm (hi : i < L.length) (hj : j < L.length) : (swL z L i j).Perm L := by
  have := List.set_set_perm (as := L) hi hj
  simpa [swL, List.getD_eq_getElem?_getD, List.getElem?_eq_getElem hi, List.getElem?_eq_getElem hj] using this
theorem swL_at (hi : i < L.length) (hj : j < L.length) (x : Nat) : (swL z L i j).getD x z = if x = j then L.getD i z else if x = i then L.getD j z else L.getD x z := by
  unfold swL
  by_cases h1 : x = j
  · subst h1
    rw [if_pos rfl, List.getD_eq_getElem?_getD, List.getElem?_set_self (by simpa using hj)]; rfl
  · rw [if_neg h1, List.getD_eq_getElem?_getD, List.getElem?_set_ne (Ne.symm h1)]
    by_cases h2 : x = i
    · subst h2
      rw [if_pos rfl, List.getElem?_set_self hi]; rfl
    · rw [if_neg h2, List.getElem?_set_ne (Ne.symm h2), List.getD_eq_getElem?_getD]
end
theorem Rows.sw {H : List Blk} {w : Nat} {As : List At} {R : List By} (h : Rows H w As R) {i j : Nat} (hi : i < R.length) (hj : j < R.length) : Rows H w (swL .sn As i j) (swL z0 R i j) := by
  refine ⟨by rw [swL_len, swL_len]; exact h.1, fun x hx => ?_⟩
  have hA := h.1
  rw [swL_len] at hx
  rw [swL_at (by omega) (by omega), swL_at hi hj]
  split
  · exact h.at i hi
  · split
    · exact h.at j hj
    · exact h.2 x hx
theorem Rows.fr {l : List Nat} {H H' : List Blk} {w : Nat} {As : List At} {R : List By} (h : Rows H w As R) (e : Fr l H H') (hn : ∀ k ∈ As.map blkOf, k ∉ l) : Rows H' w As R :=
  ⟨h.1, fun i hi => (h.2 i hi).fr e (hn _ (map_getD hi))⟩
theorem RowB.cell {H : List Blk} {w : Nat} {a : At} {v : By} (h : RowB H w a v) : a.cell1 = true := by
  obtain ⟨k, cap, N, f, rfl, -⟩ := h; rfl
def rput : Bk → Nat → At → Bk
  | .rw l, x, a => .rw (l.set x a)
  | c, _, _ => c
/-- a place of the slice of rows is written -/
theorem Spn.st {H : List Blk} {ra : At} {As : List At} (h : Spn H ra As) (i : Nat) (hi : i < As.length) :
    ∃ k off len cap q c, ra = .sl k off len cap ∧ i < len ∧ off + i * 1 = q ∧ H[k]? = some ⟨false, c⟩ ∧ ∀ a, a.cell1 = true → cput c q a = some (rput c q a) ∧ Spn (H.set k ⟨false, rput c q a⟩) ra (As.set i a) ∧ Fr (spB ra) H (H.set k ⟨false, rput c q a⟩) := by
  rcases h with ⟨rfl, rfl⟩ | ⟨k, cap, l, rfl, hk, ⟨h1, h2⟩, h3⟩
  · simp at hi
  · refine ⟨k, 0, _, cap, i, _, rfl, hi, by omega, hk, fun a ha => ⟨if_pos ⟨by omega, ha⟩, .inr ⟨k, cap, l.set i a, by simp, set_same hk, ⟨by simpa using h1, by simpa using h2⟩, ?_⟩, ?_⟩⟩
    · rw [List.length_set, List.take_set, h3]
    · intro j B hj e
      exact set_other e (by intro q; subst q; exact hj (by simp [spB]))
theorem firstQ_or {q : Nat → Bool} {n : Nat} : (firstQ q n 0 = -1 ∧ ∀ j, j < n → q j = false) ∨ ∃ k, k < n ∧ firstQ q n 0 = (k : Int) ∧ q k = true ∧ ∀ j, j < k → q j = false := by
  by_cases h : fstN q n 0 < n
  · have e1 : q (fstN q n 0) = true := fstN_some (by omega)
    have e2 : ∀ j, j < fstN q n 0 → q j = false := fun j hj => fstN_none (n := n) (i := 0) j (by omega) hj
    exact .inr ⟨fstN q n 0, h, firstQ_some (by omega) (by omega) e1 fun j _ hj => e2 j hj, e1, e2⟩
  · have e2 : ∀ j, j < n → q j = false := fun j hj => fstN_none (n := n) (i := 0) j (by omega) (by omega)
    exact .inl ⟨firstQ_none fun j _ hj => e2 j (by omega), e2⟩

/-- one column -/
noncomputable def solS (w : Nat) (p : Int) (s : List By × List Int) (c : Nat) : List By × List Int :=
  if firstQ (fun i => s.1.getD (s.2.length + i) z0 c != 0) (s.1.length - s.2.length) 0 < 0 then s
  else (clr w p (swL z0 s.1 s.2.length (s.2.length + (firstQ (fun i => s.1.getD (s.2.length + i) z0 c != 0) (s.1.length - s.2.length) 0).toNat)) s.2.length c, s.2 ++ [(c : Int)])
noncomputable def solT (w : Nat) (p : Int) (R : List By) (i : Nat) : List By × List Int := (List.range i).foldl (solS w p) (R, [])
theorem solT_succ {w : Nat} {p : Int} {R : List By} {i : Nat} : solT w p R (i + 1) = solS w p (solT w p R i) i := by
  unfold solT; rw [List.range_succ, List.foldl_append]; rfl
theorem solS_len {w : Nat} {p : Int} {s : List By × List Int} {c : Nat} (h : s.2.length ≤ s.1.length) : (solS w p s c).1.length = s.1.length ∧ (solS w p s c).2.length ≤ s.1.length ∧ s.2.length ≤ (solS w p s c).2.length ∧ (solS w p s c).2.length ≤ s.2.length + 1 := by
  unfold solS
  rcases @firstQ_or (fun i => s.1.getD (s.2.length + i) z0 c != 0) (s.1.length - s.2.length) with ⟨e, -⟩ | ⟨k, hk, e, -⟩
  · rw [e, if_pos (by omega)]; exact ⟨rfl, h, Nat.le_refl _, by omega⟩
  · rw [e, if_neg (by omega)]
    refine ⟨by rw [clr_len, swL_len], ?_, ?_, ?_⟩ <;> simp <;> omega
theorem solT_len {w : Nat} {p : Int} {R : List By} : ∀ {i : Nat}, (solT w p R i).1.length = R.length ∧ (solT w p R i).2.length ≤ R.length ∧ (solT w p R i).2.length ≤ i
  | 0 => by simp [solT]
  | i + 1 => by
    obtain ⟨h1, h2, h3⟩ := @solT_len w p R i
    rw [solT_succ]
    have := @solS_len w p (solT w p R i) i (by omega)
    omega
/-- once every row is done, nothing changes -/
theorem solT_full {w : Nat} {p : Int} {R : List By} {i : Nat} : ∀ {j : Nat}, (solT w p R i).2.length = R.length → solT w p R (i + j) = solT w p R i
  | 0, _ => rfl
  | j + 1, h => by
    have ih := @solT_full w p R i j h
    rw [show i + (j + 1) = (i + j) + 1 from rfl, solT_succ, ih]
    have h1 := (@solT_len w p R i).1
    unfold solS
    rw [if_pos]
    rw [h1, h, Nat.sub_self, firstQ_none fun j _ hj => by omega]
    decide
theorem spB_nd (a : At) : (spB a).Nodup := by cases a <;> simp [spB]
/-- in the midst of solving: kb has the pointer to the system -/
structure SolI (m0 kb s : Nat) (p n0 : Int) (m : Nat) (R : List By) (T : List Int) (G : List Blk) (ra : At) (As : List At) (pa : At) : Prop where
  fkb : G[kb]? = some ⟨false, .vr (.pt s 0)⟩
  fs : G[s]? = some (sysB p n0 m ra pa)
  fra : Spn G ra As
  frows : Rows G (m + 1) As R
  fpa : Spn G pa (T.map (At.i .i64))
  nd : (kb :: OwnT s ra As pa).Nodup
  ge : ∀ k ∈ kb :: OwnT s ra As pa, m0 ≤ k
theorem Rows.blt {H : List Blk} {w : Nat} {As : List At} {R : List By} (h : Rows H w As R) : ∀ k ∈ As.map blkOf, k < H.length := by
  intro k hk
  obtain ⟨a, ha, rfl⟩ := List.mem_map.1 hk
  obtain ⟨i, hi, rfl⟩ := List.mem_iff_getElem.1 ha
  have := h.2 i hi
  rw [List.getD_eq_getElem?_getD, List.getElem?_eq_getElem hi] at this
  obtain ⟨k, cap, N, f, e, h2, -⟩ := this
  simp only [Option.getD_some] at e
  rw [e]; exact lt_of h2
section
variable {m0 kb s : Nat} {p n0 : Int} {m : Nat} {R : List By} {T : List Int} {G G' : List Blk} {ra : At} {As : List At} {pa : At}
theorem SolI.lt (h : SolI m0 kb s p n0 m R T G ra As pa) : ∀ k ∈ kb :: OwnT s ra As pa, k < G.length := by
  intro k hk
  simp only [OwnT, List.mem_cons, List.mem_append] at hk
  rcases hk with rfl | rfl | hk | hk | hk
  · exact lt_of h.fkb
  · exact lt_of h.fs
  · exact h.fpa.lt.2 k hk
  · exact h.fra.lt.2 k hk
  · exact h.frows.blt k hk
theorem SolI.fr (h : SolI m0 kb s p n0 m R T G ra As pa) {l : List Nat} (e : Fr l G G') (hn : ∀ k ∈ kb :: OwnT s ra As pa, k ∉ l) : SolI m0 kb s p n0 m R T G' ra As pa :=
  ⟨e _ _ (hn _ (by simp)) h.fkb, e _ _ (hn _ (by simp [OwnT])) h.fs, h.fra.fr e fun k hk => hn k (by simp [OwnT, hk]), h.frows.fr e fun k hk => hn k (by simp only [OwnT, List.mem_cons, List.mem_append]; simp [hk]), h.fpa.fr e fun k hk => hn k (by simp [OwnT, hk]), h.nd, h.ge⟩
theorem SolI.ext (h : SolI m0 kb s p n0 m R T G ra As pa) (e : Ext G G') : SolI m0 kb s p n0 m R T G' ra As pa := h.fr (l := []) (e.fr) (by simp)
/-- the rows in another order -/
theorem SolI.sw (h : SolI m0 kb s p n0 m R T G ra As pa) {i j : Nat} (hi : i < R.length) (hj : j < R.length) (e : Fr (spB ra) G G') (hr : Spn G' ra (swL .sn As i j)) : SolI m0 kb s p n0 m (swL z0 R i j) T G' ra (swL .sn As i j) pa := by
  have hA := h.frows.1
  have hperm : ((swL .sn As i j).map blkOf).Perm (As.map blkOf) := (swL_perm (by omega) (by omega)).map _
  have hown : (kb :: OwnT s ra (swL .sn As i j) pa).Perm (kb :: OwnT s ra As pa) := by
    unfold OwnT
    exact ((hperm.append_left _).append_left _ |>.cons _).cons _
  have nd := h.nd
  have hnr : ∀ k, k = kb ∨ k = s ∨ k ∈ spB pa ∨ k ∈ As.map blkOf → k ∉ spB ra := by
    intro k hk hq
    simp only [OwnT, List.nodup_cons, List.nodup_append, List.mem_cons, List.mem_append, not_or] at nd
    grind
  refine ⟨e _ _ (hnr _ (.inl rfl)) h.fkb, e _ _ (hnr _ (.inr (.inl rfl))) h.fs, hr, (h.frows.fr e fun k hk => hnr k (by simp [hk])).sw hi hj, h.fpa.fr e fun k hk => hnr k (by simp [hk]), hown.nodup_iff.2 nd, fun k hk => h.ge k (hown.mem_iff.1 hk)⟩
/-- the contents of the rows changed -/
theorem SolI.cl (h : SolI m0 kb s p n0 m R T G ra As pa) {R' : List By} (e : Fr (As.map blkOf) G G') (hr : Rows G' (m + 1) As R') : SolI m0 kb s p n0 m R' T G' ra As pa := by
  have nd := h.nd
  have hnr : ∀ k, k = kb ∨ k = s ∨ k ∈ spB pa ∨ k ∈ spB ra → k ∉ As.map blkOf := by
    intro k hk hq
    simp only [OwnT, List.nodup_cons, List.nodup_append, List.mem_cons, List.mem_append, not_or] at nd
    grind
  exact ⟨e _ _ (hnr _ (.inl rfl)) h.fkb, e _ _ (hnr _ (.inr (.inl rfl))) h.fs, h.fra.fr e fun k hk => hnr k (by simp [hk]), hr, h.fpa.fr e fun k hk => hnr k (by simp [hk]), nd, h.ge⟩
/-- other places -/
theorem SolI.pl (h : SolI m0 kb s p n0 m R T G ra As pa) {T' : List Int} {pa' : At} {G1 : List Blk} (e0 : Ext G G1) (e : Fr (spB pa) G1 G') (hp : Spn G' pa' (T'.map (At.i .i64))) (hb : ∀ k ∈ spB pa', k ∈ spB pa ∨ k = G1.length) (hm : m0 ≤ G.length) : SolI m0 kb s p n0 m R T' (G'.set s (sysB p n0 m ra pa')) ra As pa' := by
  have nd := h.nd
  have hlt := h.lt
  have ge := h.ge
  have hl := e0.len
  have hnr : ∀ k, k = kb ∨ k = s ∨ k ∈ spB ra ∨ k ∈ As.map blkOf → k ∉ spB pa := by
    intro k hk hq
    simp only [OwnT, List.nodup_cons, List.nodup_append, List.mem_cons, List.mem_append, not_or] at nd
    grind
  have hs' := e _ _ (hnr s (by simp)) (e0 _ _ h.fs)
  have nd' : (kb :: OwnT s ra As pa').Nodup ∧ ∀ k ∈ kb :: OwnT s ra As pa', m0 ≤ k := by
    have hn' := spB_nd pa'
    unfold OwnT at nd ge hlt ⊢
    simp only [List.nodup_cons, List.nodup_append, List.mem_cons, List.mem_append, not_or] at nd ge hlt ⊢
    constructor <;> grind
  have f1 : Fr [s] G' (G'.set s (sysB p n0 m ra pa')) := fun k B hk e => set_other e (by intro q; exact hk (by simp [q]))
  have hx := nd'.1
  have hns : ∀ k, k = kb ∨ k ∈ spB pa' ∨ k ∈ spB ra ∨ k ∈ As.map blkOf → k ∉ [s] := by
    intro k hk hq
    simp only [OwnT, List.nodup_cons, List.nodup_append, List.mem_cons, List.mem_append, not_or] at hx
    grind
  refine ⟨f1 _ _ (hns _ (.inl rfl)) (e _ _ (hnr _ (.inl rfl)) (e0 _ _ h.fkb)), set_same hs', ((h.fra.fr e0.fr (l := []) (by simp)).fr e fun k hk => hnr k (by simp [hk])).fr f1 fun k hk => hns k (by simp [hk]),
    ((h.frows.fr (l := []) e0.fr (by simp)).fr e fun k hk => hnr k (by simp [hk])).fr f1 fun k hk => hns k (by simp [hk]), hp.fr f1 fun k hk => hns k (by simp [hk]), nd'.1, nd'.2⟩
end
theorem app_hb {pa a' : At} {n : Nat} (h : spB a' = spB pa ∧ pa ≠ .sn ∨ spB a' = [n]) : ∀ k ∈ spB a', k ∈ spB pa ∨ k = n := by
  intro k hk
  rcases h with ⟨h, -⟩ | h
  · rw [h] at hk; exact .inl hk
  · rw [h] at hk; exact .inr (by simpa using hk)
theorem Spn.sl {H : List Blk} {ra : At} {As : List At} (h : Spn H ra As) (hn : 0 < As.length) : ∃ k cap l, ra = .sl k 0 As.length cap ∧ H[k]? = some ⟨false, .rw l⟩ ∧ (cap ≤ l.length ∧ As.length ≤ cap) ∧ l.take As.length = As := by
  rcases h with ⟨rfl, rfl⟩ | h
  · simp at hn
  · exact h
theorem Spn.cell {H : List Blk} {ra : At} {As : List At} (h : Spn H ra As) : ra.cell1 = true := by
  rcases h with ⟨rfl, rfl⟩ | ⟨k, cap, l, rfl, -⟩ <;> rfl
theorem rdR_drop {H : List Blk} {k cap d : Nat} {l As : List At} (hk : H[k]? = some ⟨false, .rw l⟩) (h1 : cap ≤ l.length ∧ As.length ≤ cap) (h3 : l.take As.length = As) (hd : d ≤ As.length) (c : Nat) :
    rdR H (.sl k (if cap = d then 0 else 0 + d * 1) (As.length - d) c) (As.drop d) := by
  refine ⟨false, l, hk, by split <;> omega, ?_⟩
  split
  · have : As.length = d := by omega
    simp [this]
  · rw [show As.drop d = (l.take As.length).drop d by rw [h3], List.drop_take]
    simp
theorem kept1 {k : Nat} {B : Blk} {H H' : List Blk} (h : H[k]? = some B) (h' : H'[k]? = some B) : H'[k]? = H[k]? := by rw [h, h']
theorem drop_getD {As : List At} {d i : Nat} : (As.drop d).getD i .sn = As.getD (d + i) .sn := by
  simp [List.getD_eq_getElem?_getD]
theorem solve_start {m0 s m : Nat} {p n0 : Int} {R : List By} {H : List Blk} {T0 : List Int} {ra pa : At} {As : List At} {B : Blk} (hs : H[s]? = some (sysB p n0 m ra pa)) (hra : Spn H ra As) (hR : Rows H (m + 1) As R) (hpa : Spn H pa (T0.map (At.i .i64)))
    (hnd : (OwnT s ra As pa).Nodup) (hge : ∀ k ∈ OwnT s ra As pa, m0 ≤ k) (hm : m0 ≤ H.length) :
    SolI m0 H.length s p n0 m R [] (((H ++ [(⟨false, .vr (.pt s 0)⟩ : Blk)]).set s (sysB p n0 m ra .sn)) ++ [B]) ra As .sn ∧ (∀ k ∈ H.length :: OwnT s ra As .sn, k < H.length + 1) ∧ Upto m0 H (((H ++ [(⟨false, .vr (.pt s 0)⟩ : Blk)]).set s (sysB p n0 m ra .sn)) ++ [B]) := by
  have e0 : Ext H (H ++ [⟨false, .vr (.pt s 0)⟩]) := Ext.app
  have hlt : ∀ k ∈ OwnT s ra As pa, k < H.length := by
    intro k hk
    simp only [OwnT, List.mem_cons, List.mem_append] at hk
    rcases hk with rfl | hk | hk | hk
    · exact lt_of hs
    · exact hpa.lt.2 k hk
    · exact hra.lt.2 k hk
    · exact hR.blt k hk
  have h1 : SolI m0 H.length s p n0 m R T0 (H ++ [⟨false, .vr (.pt s 0)⟩]) ra As pa :=
    ⟨get_new, e0 _ _ hs, hra.fr (l := []) e0.fr (by simp), hR.fr (l := []) e0.fr (by simp), hpa.fr (l := []) e0.fr (by simp), List.nodup_cons.2 ⟨fun h => absurd (hlt _ h) (by omega), hnd⟩, by
      intro k hk
      rcases List.mem_cons.1 hk with rfl | hk
      · exact hm
      · exact hge k hk⟩
  have h2 := h1.pl (T' := []) (pa' := .sn) Ext.refl Fr.refl (.inl ⟨rfl, rfl⟩) (by simp [spB]) (by simp; omega)
  refine ⟨h2.ext Ext.app, fun k hk => by simpa using h2.lt k hk, fun k B hk e => app_old ?_⟩
  rw [List.getElem?_set_ne (by have := hge s (by simp [OwnT]); omega)]
  exact app_old e
/-- the rows before and behind a place -/
theorem SolI.done {m0 kb s : Nat} {p n0 : Int} {m : Nat} {R : List By} {T : List Int} {G : List Blk} {ra : At} {As : List At} {pa : At} (h : SolI m0 kb s p n0 m R T G ra As pa) {d : Nat} (hd : d ≤ R.length) {ra' : At} (hr : spB ra' = spB ra)
    (hsp : Spn (G.set s (sysB p n0 m ra' pa)) ra' (As.take d)) : SY m0 (G.set s (sysB p n0 m ra' pa)) s p n0 m (R.take d) T ∧ Fr [s] G (G.set s (sysB p n0 m ra' pa)) := by
  have nd := h.nd
  have f1 : Fr [s] G (G.set s (sysB p n0 m ra' pa)) := fun k B hk e => set_other e (by intro q; exact hk (by simp [q]))
  have hns : ∀ k, k ∈ spB pa ∨ k ∈ spB ra ∨ k ∈ As.map blkOf → k ∉ [s] := by
    intro k hk hq
    simp only [OwnT, List.nodup_cons, List.nodup_append, List.mem_cons, List.mem_append, not_or] at nd
    grind
  have hsub : (OwnT s ra' (As.take d) pa).Sublist (kb :: OwnT s ra As pa) := by
    unfold OwnT
    rw [hr]
    exact ((((List.Sublist.map _ (List.take_sublist d As)).append_left _).append_left _).cons_cons _).cons _
  refine ⟨⟨ra', As.take d, pa, set_same h.fs, hsp, ⟨by simp; rw [h.frows.1], fun i hi => ?_⟩, h.fpa.fr f1 fun k hk => hns k (.inl hk), hsub.nodup nd, fun k hk => h.ge k (hsub.subset hk)⟩, f1⟩
  have hi' : i < d ∧ i < As.length := by rwa [List.length_take, Nat.lt_min] at hi
  have e1 : (As.take d).getD i .sn = As.getD i .sn := by simp [List.getD_eq_getElem?_getD, List.getElem?_take_of_lt hi'.1]
  have e2 : (R.take d).getD i z0 = R.getD i z0 := by simp [List.getD_eq_getElem?_getD, List.getElem?_take_of_lt hi'.1]
  rw [e1, e2]
  exact (h.frows.2 i hi'.2).fr f1 (hns _ (.inr (.inr (map_getD hi'.2))))
noncomputable def solOK (w : Nat) (p : Int) (R : List By) (m : Nat) : Bool := !decide (firstQ (fun i => (solT w p R m).1.getD ((solT w p R m).2.length + i) z0 m != 0) (R.length - (solT w p R m).2.length) 0 ≥ 0)
theorem spn_take {H : List Blk} {k cap d : Nat} {l As : List At} (hk : H[k]? = some ⟨false, .rw l⟩) (h1 : cap ≤ l.length ∧ As.length ≤ cap) (h3 : l.take As.length = As) (hd : d ≤ As.length) :
    Spn H (.sl k (if cap = 0 then 0 else 0 + 0 * 1) (d - 0) (cap - 0)) (As.take d) := by
  have e : (if cap = 0 then 0 else 0 + 0 * 1) = 0 := by split <;> rfl
  have e2 : (As.take d).length = d := by simp; omega
  rw [e]
  refine .inr ⟨k, cap, l, by rw [e2]; rfl, hk, by rw [e2]; exact ⟨h1.1, by omega⟩, ?_⟩
  rw [e2, ← h3, List.take_take, Nat.min_eq_left hd]
end Hf
namespace Hf
open Go Classical
section
variable {W : Nat} {p : Int}
theorem clq_ok (hp : Pr p) {v : By} {c : Nat} (hc : c < W) (hv : Vp W p v) (h : v c ≠ 0) :
    Vp W p (clq W p v c) ∧ clq W p v c c = 1 ∧ (∀ y, v y = 0 → clq W p v c y = 0) ∧ clq W p v c = addW W p z0 v (invI p (v c)) ∧ v = addW W p z0 (clq W p v c) (bz v c) := by
  have h2 := hp.1
  have h3 := hp.2.1
  have hp1 : 1 ≤ p := by omega
  have hp2 : p ≤ 256 := by omega
  obtain ⟨i1, i2⟩ := inv_ok hp h (hv.1 c)
  have hI : invI p (v c) = ((invN p (v c) : Nat) : Int) := if_pos i1
  have e : clq W p v c = addW W p z0 v (invI p (v c)) := vec_congr fun y hy => cg_of_eq (by rw [bz_z0, Int.zero_add])
  have hb : ∀ y, y < W → bz (clq W p v c) y = invI p (v c) * bz v y % p := by
    intro y hy
    rw [e, bz_add hp1 hp2 hy, bz_z0, Int.zero_add]
  have h1 : bz (clq W p v c) c = 1 := by
    rw [hb c hc, hI]; exact i2
  have hvp : Vp W p (clq W p v c) := by rw [e]; exact Vp.add hp1 hp2
  refine ⟨hvp, bz_inj h1, ?_, e, ?_⟩
  · intro y hy
    by_cases hw : y < W
    · apply bz_eq0.1
      rw [hb y hw, bz_eq0.2 hy, Int.mul_zero]; exact Int.zero_emod p
    · exact hvp.2 y (by omega)
  · refine hv.ext (Vp.add hp1 hp2) fun x hx => cg.symm ((cg_add' hp1 hp2 hx).trans ?_)
    rw [bz_z0, Int.zero_add, hb x hx]
    refine (cg_mul cg.rfl' cg_mod).trans ?_
    have h5 : cg p (invI p (v c) * bz v c) 1 := by
      unfold cg
      rw [show invI p (v c) * bz v c % p = 1 from by rw [hI]; exact i2, Int.emod_eq_of_lt (by omega) (by omega)]
    refine cg.trans (cg_of_eq ?_) ((cg_mul h5 cg.rfl').trans (cg_of_eq (Int.one_mul (bz v x))))
    grind
theorem clj_add (hp : 1 ≤ p) (hp2 : p ≤ 256) {q v : By} {c : Nat} (hv : Vp W p v) : clj W p q v c = addW W p v q (-(bz v c)) := by
  unfold clj
  split
  · rename_i h
    rw [bz_eq0.2 h, Int.neg_zero, add_0 hp hp2 hv]
  · rfl
theorem clj_at (hp : 1 ≤ p) (hp2 : p ≤ 256) {q v : By} {c y : Nat} (hv : Vp W p v) (hq : q y = 0) : clj W p q v c y = v y := by
  rw [clj_add hp hp2 hv]
  by_cases hy : y < W
  · apply bz_inj
    show bz _ y = bz v y
    rw [bz_add hp hp2 hy, bz_eq0.2 hq, Int.mul_zero, Int.add_zero]
    have := hv.1 y
    exact Int.emod_eq_of_lt (by unfold bz; omega) this
  · rw [(Vp.add hp hp2).2 y (by omega), hv.2 y (by omega)]
theorem clj_0 (hp : 2 ≤ p) (hp2 : p ≤ 256) {q v : By} {c : Nat} (hc : c < W) (hv : Vp W p v) (hq : q c = 1) : clj W p q v c c = 0 := by
  rw [clj_add (by omega) hp2 hv]
  apply bz_eq0.1
  rw [bz_add (by omega) hp2 hc, show bz q c = 1 from one_bz hq, Int.mul_one, Int.add_right_neg]
  exact Int.zero_emod p

/-- what holds ahead of column i -/
structure SolP (W : Nat) (p : Int) (R L : List By) (C : List Nat) (i : Nat) : Prop where
  len : L.length = R.length
  vp : ∀ r ∈ L, Vp W p r
  sp : SpE W p L R
  cl : C.length ≤ L.length
  ci : ∀ a, a < C.length → C.getD a 0 < i
  cs : ∀ a b, a < b → b < C.length → C.getD a 0 < C.getD b 0
  one : ∀ a, a < C.length → L.getD a z0 (C.getD a 0) = 1
  lo : ∀ a, a < C.length → ∀ y, y < C.getD a 0 → L.getD a z0 y = 0
  z : ∀ a, a < C.length → ∀ b, b < L.length → b ≠ a → L.getD b z0 (C.getD a 0) = 0
  r : ∀ b, C.length ≤ b → b < L.length → ∀ y, y < i → L.getD b z0 y = 0

theorem SolP.stay {R L : List By} {C : List Nat} {i : Nat} (h : SolP W p R L C i) (h0 : ∀ j, j < L.length - C.length → L.getD (C.length + j) z0 i = 0) : SolP W p R L C (i + 1) := by
  refine ⟨h.len, h.vp, h.sp, h.cl, fun a ha => by have := h.ci a ha; omega, h.cs, h.one, h.lo, h.z, fun b hb hb2 y hy => ?_⟩
  rcases Nat.eq_or_lt_of_le (Nat.lt_succ_iff.1 hy) with e | e
  · subst e
    have := h0 (b - C.length) (by omega)
    rwa [show C.length + (b - C.length) = b by omega] at this
  · exact h.r b hb hb2 y e

theorem swL_mem {α : Type} {z : α} {L : List α} {i j : Nat} (hi : i < L.length) (hj : j < L.length) {x : α} : x ∈ swL z L i j ↔ x ∈ L := (swL_perm hi hj).mem_iff

theorem getD_app1 {C : List Nat} {c a : Nat} (h : a < C.length) : (C ++ [c]).getD a 0 = C.getD a 0 := by
  simp only [List.getD_eq_getElem?_getD]; rw [List.getElem?_append_left h]
theorem getD_app2 {C : List Nat} {c : Nat} : (C ++ [c]).getD C.length 0 = c := by
  simp only [List.getD_eq_getElem?_getD]; rw [List.getElem?_append_right (Nat.le_refl _)]; simp

theorem SolP.step (hp : Pr p) {R L : List By} {C : List Nat} {i k : Nat} (hi : i < W) (h : SolP W p R L C i) (hk : k < L.length - C.length) (hn : L.getD (C.length + k) z0 i ≠ 0) :
    SolP W p R (clr W p (swL z0 L C.length (C.length + k)) C.length i) (C ++ [i]) (i + 1) := by
  have h2 := hp.1
  have h3 := hp.2.1
  have hp1 : 1 ≤ p := by omega
  have hp2 : p ≤ 256 := by omega
  have hd : C.length < L.length := by omega
  have hdk : C.length + k < L.length := by omega
  generalize hL1 : swL z0 L C.length (C.length + k) = L1
  have hlen1 : L1.length = L.length := by rw [← hL1, swL_len]
  have hat : ∀ x, L1.getD x z0 = if x = C.length + k then L.getD C.length z0 else if x = C.length then L.getD (C.length + k) z0 else L.getD x z0 := by
    intro x; rw [← hL1, swL_at hd hdk]
  have hvp1 : ∀ r ∈ L1, Vp W p r := fun r hr => h.vp r ((swL_mem hd hdk).1 (by rw [hL1]; exact hr))
  have hd1 : L1.getD C.length z0 = L.getD (C.length + k) z0 := by
    rw [hat]; split
    · rename_i e; rw [← e]
    · rw [if_pos rfl]
  -- rows of the new list that came from behind have zeros ahead of i
  have hr1 : ∀ b, C.length ≤ b → b < L.length → ∀ y, y < i → L1.getD b z0 y = 0 := by
    intro b hb hb2 y hy
    rw [hat]
    split
    · exact h.r _ (Nat.le_refl _) hd y hy
    · split
      · exact h.r _ (by omega) hdk y hy
      · exact h.r b hb hb2 y hy
  have hfr : ∀ b, b < C.length → L1.getD b z0 = L.getD b z0 := by
    intro b hb
    rw [hat, if_neg (by omega), if_neg (by omega)]
  have hz1 : ∀ a, a < C.length → ∀ b, b < L.length → b ≠ a → L1.getD b z0 (C.getD a 0) = 0 := by
    intro a ha b hb hn
    rcases Nat.lt_or_ge b C.length with h' | h'
    · rw [hfr b h']; exact h.z a ha b hb hn
    · exact hr1 b h' hb _ (h.ci a ha)
  have hvd : Vp W p (L1.getD C.length z0) := hvp1 _ (getD_mem (by omega))
  have hnz : L1.getD C.length z0 i ≠ 0 := by rw [hd1]; exact hn
  obtain ⟨q1, q2, q3, q4, q5⟩ := clq_ok hp hi hvd hnz
  generalize hq : clq W p (L1.getD C.length z0) i = q at q1 q2 q3 q4 q5
  have hq0 : ∀ y, y < i → q y = 0 := fun y hy => q3 y (hr1 _ (Nat.le_refl _) hd y hy)
  have hN : ∀ j, j < L.length → (clr W p L1 C.length i).getD j z0 = if j = C.length then q else clj W p q (L1.getD j z0) i := by
    intro j hj
    rw [clr_at (by omega)]
    unfold clR
    rw [hq]
  have hvj : ∀ j, j < L.length → Vp W p (L1.getD j z0) := fun j hj => hvp1 _ (getD_mem (by omega))
  have hvN : ∀ j, j < L.length → Vp W p ((clr W p L1 C.length i).getD j z0) := by
    intro j hj
    rw [hN j hj]
    split
    · exact q1
    · rw [clj_add hp1 hp2 (hvj j hj)]; exact Vp.add hp1 hp2
  have hmem : ∀ r ∈ clr W p L1 C.length i, ∃ j, j < L.length ∧ r = (clr W p L1 C.length i).getD j z0 := by
    intro r hr
    obtain ⟨j, hj, rfl⟩ := List.mem_iff_getElem.1 hr
    rw [clr_len, hlen1] at hj
    exact ⟨j, hj, by simp [List.getD_eq_getElem?_getD, clr_len, hlen1, hj]⟩
  have hmem1 : ∀ r ∈ L1, ∃ j, j < L.length ∧ r = L1.getD j z0 := by
    intro r hr
    obtain ⟨j, hj, rfl⟩ := List.mem_iff_getElem.1 hr
    exact ⟨j, by omega, by simp [List.getD_eq_getElem?_getD, hj]⟩
  have hin : ∀ j, j < L.length → (clr W p L1 C.length i).getD j z0 ∈ clr W p L1 C.length i := fun j hj => getD_mem (by rw [clr_len]; omega)
  have hsq : Sp' W p L1 q := by rw [q4]; exact .a .z (getD_mem (by omega))
  have hsq' : Sp' W p (clr W p L1 C.length i) q := by
    have := hin _ hd
    rw [hN _ hd, if_pos rfl] at this
    exact .mem hp1 hp2 this q1
  refine ⟨by rw [clr_len, hlen1]; exact h.len, ?_, ?_, ?_, ?_, ?_, ?_, ?_, ?_, ?_⟩
  · intro r hr
    obtain ⟨j, hj, rfl⟩ := hmem r hr
    exact hvN j hj
  · refine SpE.trans (SpE.of hp1 hp2 (M := L1) ?_ ?_) (SpE.trans (SpE.of hp1 hp2 ?_ ?_) h.sp)
    · intro r hr
      obtain ⟨j, hj, rfl⟩ := hmem r hr
      rw [hN j hj]
      split
      · exact hsq
      · rw [clj_add hp1 hp2 (hvj j hj)]
        exact (Sp'.mem hp1 hp2 (getD_mem (by omega)) (hvj j hj)).add hp1 hp2 hsq
    · intro r hr
      obtain ⟨j, hj, rfl⟩ := hmem1 r hr
      by_cases e : j = C.length
      · rw [e, q5]
        exact Sp'.z.add hp1 hp2 hsq'
      · have h1 := Sp'.mem hp1 hp2 (hin j hj) (hvN j hj)
        have h4 := h1.add hp1 hp2 (k := bz (L1.getD j z0) i) hsq'
        rw [hN j hj, if_neg e, clj_add hp1 hp2 (hvj j hj)] at h4
        have e2 : addW W p (addW W p (L1.getD j z0) q (-(bz (L1.getD j z0) i))) q (bz (L1.getD j z0) i) = L1.getD j z0 := by
          refine (Vp.add hp1 hp2).ext (hvj j hj) fun x hx => ?_
          refine (cg_add' hp1 hp2 hx).trans ((cg_add (cg_add' hp1 hp2 hx) cg.rfl').trans (cg_of_eq ?_))
          grind
        rwa [e2] at h4
    · intro r hr
      have := (swL_mem (z := z0) hd hdk).1 (by rw [hL1]; exact hr)
      exact .mem hp1 hp2 this (h.vp r this)
    · intro r hr
      have := (swL_mem (z := z0) hd hdk).2 hr
      rw [hL1] at this
      exact .mem hp1 hp2 this (hvp1 r this)
  · rw [clr_len, hlen1]; simp; omega
  · intro a ha
    rw [List.length_append, List.length_singleton] at ha
    rcases Nat.lt_or_ge a C.length with h' | h'
    · rw [getD_app1 h']; have := h.ci a h'; omega
    · obtain rfl : a = C.length := by omega
      rw [getD_app2]; omega
  · intro a b hab hb
    rw [List.length_append, List.length_singleton] at hb
    rcases Nat.lt_or_ge b C.length with h' | h'
    · rw [getD_app1 h', getD_app1 (by omega)]; exact h.cs a b hab h'
    · obtain rfl : b = C.length := by omega
      rw [getD_app2, getD_app1 hab]; exact h.ci a hab
  · intro a ha
    rw [List.length_append, List.length_singleton] at ha
    rw [hN a (by omega)]
    rcases Nat.lt_or_ge a C.length with h' | h'
    · rw [if_neg (by omega), getD_app1 h', clj_at hp1 hp2 (hvj a (by omega)) (hq0 _ (h.ci a h')), hfr a h']
      exact h.one a h'
    · obtain rfl : a = C.length := by omega
      rw [if_pos rfl, getD_app2]; exact q2
  · intro a ha y hy
    rw [List.length_append, List.length_singleton] at ha
    rw [hN a (by omega)]
    rcases Nat.lt_or_ge a C.length with h' | h'
    · rw [getD_app1 h'] at hy
      rw [if_neg (by omega), clj_at hp1 hp2 (hvj a (by omega)) (hq0 _ (by have := h.ci a h'; omega)), hfr a h']
      exact h.lo a h' y hy
    · obtain rfl : a = C.length := by omega
      rw [getD_app2] at hy
      rw [if_pos rfl]; exact hq0 y hy
  · intro a ha b hb hne
    rw [List.length_append, List.length_singleton] at ha
    rw [clr_len, hlen1] at hb
    rw [hN b hb]
    rcases Nat.lt_or_ge a C.length with h' | h'
    · rw [getD_app1 h']
      split
      · exact hq0 _ (h.ci a h')
      · rw [clj_at hp1 hp2 (hvj b hb) (hq0 _ (h.ci a h'))]
        exact hz1 a h' b hb hne
    · obtain rfl : a = C.length := by omega
      rw [getD_app2, if_neg hne]
      exact clj_0 h2 hp2 hi (hvj b hb) q2
  · intro b hb hb2 y hy
    rw [List.length_append, List.length_singleton] at hb
    rw [clr_len, hlen1] at hb2
    rw [hN b hb2, if_neg (by omega)]
    rcases Nat.eq_or_lt_of_le (Nat.lt_succ_iff.1 hy) with e | e
    · rw [e]; exact clj_0 h2 hp2 hi (hvj b hb2) q2
    · rw [clj_at hp1 hp2 (hvj b hb2) (hq0 y e)]
      exact hr1 b (by omega) hb2 y e

theorem solP (hp : Pr p) {R : List By} (hR : ∀ r ∈ R, Vp W p r) : ∀ {i : Nat}, i ≤ W → ∃ C : List Nat, (solT W p R i).2 = C.map (fun c : Nat => (c : Int)) ∧ SolP W p R (solT W p R i).1 C i
  | 0, _ => ⟨[], rfl, rfl, hR, SpE.rfl', by simp, by simp, by simp, by simp, by simp, by simp, fun b hb hb2 y hy => by omega⟩
  | i + 1, hi => by
    obtain ⟨C, hC, h⟩ := @solP hp R hR i (by omega)
    rw [solT_succ]
    have hl : (solT W p R i).2.length = C.length := by rw [hC]; simp
    unfold solS
    rw [hl]
    rcases @firstQ_or (fun j => (solT W p R i).1.getD (C.length + j) z0 i != 0) ((solT W p R i).1.length - C.length) with ⟨e, h0⟩ | ⟨k, hk, e, h0, -⟩
    · rw [e, if_pos (by omega)]
      exact ⟨C, hC, h.stay fun j hj => by simpa using h0 j hj⟩
    · rw [e, if_neg (by omega), Int.toNat_natCast]
      refine ⟨C ++ [i], by rw [hC]; simp, h.step hp hi hk (by simpa using h0)⟩

/-- the rows done are reduced -/
theorem SolP.rr {R L : List By} {C : List Nat} {i : Nat} (hiW : i ≤ W) (h : SolP W p R L C i) : RR W p (L.take C.length) ∧ ∀ a, a < C.length → fstW W (L.getD a z0) = C.getD a 0 := by
  have hf : ∀ a, a < C.length → fstW W (L.getD a z0) = C.getD a 0 := fun a ha =>
    fstW_eq (by have := h.ci a ha; omega) (by rw [h.one a ha]; decide) (h.lo a ha)
  have hmem : ∀ r ∈ L.take C.length, ∃ a, a < C.length ∧ r = L.getD a z0 := by
    intro r hr
    obtain ⟨a, ha, rfl⟩ := List.mem_iff_getElem.1 hr
    rw [List.length_take] at ha
    exact ⟨a, by omega, by simp [List.getD_eq_getElem?_getD, show a < L.length by omega]⟩
  refine ⟨⟨?_, ?_, ?_⟩, hf⟩
  · intro r hr; exact h.vp r (List.mem_of_mem_take hr)
  · intro r hr
    obtain ⟨a, ha, rfl⟩ := hmem r hr
    rw [hf a ha]
    exact ⟨by have := h.ci a ha; omega, h.one a ha⟩
  · rw [List.pairwise_iff_getElem]
    intro a b ha hb hab
    rw [List.length_take] at ha hb
    have ea : (L.take C.length)[a] = L.getD a z0 := by simp [List.getD_eq_getElem?_getD, show a < L.length by omega]
    have eb : (L.take C.length)[b] = L.getD b z0 := by simp [List.getD_eq_getElem?_getD, show b < L.length by omega]
    rw [ea, eb, hf a (by omega), hf b (by omega)]
    exact ⟨h.cs a b hab (by omega), h.z b (by omega) a (by omega) (by omega)⟩
end
end Hf
namespace Hf
open Go Classical
section
variable {W W' m : Nat} {p : Int}
theorem Vp.mono (hW : W ≤ W') {v : By} (h : Vp W p v) : Vp W' p v := ⟨h.1, fun x hx => h.2 x (by omega)⟩
theorem addW_w (hW : W ≤ W') {u w : By} {k : Int} (hu : Vp W p u) (hw : Vp W p w) : addW W' p u w k = addW W p u w k :=
  (vec_more hW fun y hy _ => by rw [bz_eq0.2 (hu.2 y hy), bz_eq0.2 (hw.2 y hy)]; simp).symm
theorem Sp'.w1 (hp : 1 ≤ p) (hp2 : p ≤ 256) (hW : W ≤ W') {L : List By} (hL : ∀ v ∈ L, Vp W p v) {v : By} (h : Sp' W' p L v) : Sp' W p L v := by
  induction h with
  | z => exact .z
  | a h1 h2 ih => rw [addW_w hW (ih.vp hp hp2) (hL _ h2)]; exact .a ih h2
theorem Sp'.w2 (hp : 1 ≤ p) (hp2 : p ≤ 256) (hW : W ≤ W') {L : List By} (hL : ∀ v ∈ L, Vp W p v) {v : By} (h : Sp' W p L v) : Sp' W' p L v := by
  induction h with
  | z => exact .z
  | a h1 h2 ih => rw [← addW_w hW (h1.vp hp hp2) (hL _ h2)]; exact .a ih h2
theorem fstW_w (hW : W ≤ W') {v : By} (hv : ∀ x, W ≤ x → v x = 0) (h : v ≠ z0) : fstW W' v = fstW W v := by
  have h1 := fst_nz hv h
  exact fstW_eq (by omega) (fstW_ne h1) fun y hy => fstW_lt hy
theorem RR.w (hp : 1 ≤ p) (hW : W ≤ W') {L : List By} (hL : ∀ v ∈ L, Vp W p v) (h : RR W' p L) : RR W p L := by
  have hf : ∀ v ∈ L, fstW W' v = fstW W v := fun v hv => fstW_w hW (hL v hv).2 (h.nz hv)
  refine ⟨hL, fun r hr => ?_, ?_⟩
  · have := h.ld r hr
    rw [hf r hr] at this
    exact ⟨fst_nz (hL r hr).2 (h.nz hr), this.2⟩
  · refine List.Pairwise.imp_of_mem ?_ h.st
    intro a b ha hb hab
    rw [hf a ha, hf b hb] at hab
    exact hab
/-- a system whose right sides are 0 -/
theorem sol_rr (hp : Pr p) {R : List By} (hR : ∀ v ∈ R, Vp m p v) : ∃ C : List Nat, (solT (m + 1) p R m).2 = C.map (fun c : Nat => (c : Int)) ∧ SolP (m + 1) p R (solT (m + 1) p R m).1 C m ∧ (∀ v ∈ (solT (m + 1) p R m).1, Vp m p v) ∧ (∀ b, C.length ≤ b → (solT (m + 1) p R m).1.getD b z0 = z0) ∧
    RR m p ((solT (m + 1) p R m).1.take C.length) ∧ SpE m p ((solT (m + 1) p R m).1.take C.length) R ∧ ∀ a, a < C.length → fstW m ((solT (m + 1) p R m).1.getD a z0) = C.getD a 0 := by
  have h2 := hp.1
  have h3 := hp.2.1
  have hp1 : 1 ≤ p := by omega
  have hp2 : p ≤ 256 := by omega
  obtain ⟨C, hC, h⟩ := solP (W := m + 1) hp (R := R) (fun r hr => (hR r hr).mono (by omega)) (i := m) (by omega)
  have hv : ∀ v ∈ (solT (m + 1) p R m).1, Vp m p v := by
    intro v hv
    have h1 := (h.sp v).1 (.mem hp1 hp2 hv (h.vp v hv))
    exact (h1.w1 hp1 hp2 (by omega) hR).vp hp1 hp2
  have hz : ∀ b, C.length ≤ b → (solT (m + 1) p R m).1.getD b z0 = z0 := by
    intro b hb
    rcases Nat.lt_or_ge b (solT (m + 1) p R m).1.length with hb2 | hb2
    · funext y
      rcases Nat.lt_or_ge y m with hy | hy
      · exact h.r b hb hb2 y hy
      · exact (hv _ (getD_mem hb2)).2 y hy
    · rw [List.getD_eq_getElem?_getD, List.getElem?_eq_none hb2]; rfl
  obtain ⟨r1, r2⟩ := h.rr (by omega)
  have hvt : ∀ v ∈ (solT (m + 1) p R m).1.take C.length, Vp m p v := fun v hv' => hv v (List.mem_of_mem_take hv')
  have rrm := r1.w hp1 (by omega : m ≤ m + 1) hvt
  refine ⟨C, hC, h, hv, hz, rrm, SpE.of hp1 hp2 ?_ ?_, ?_⟩
  · intro r hr
    have hr' := List.mem_of_mem_take hr
    exact ((h.sp r).1 (.mem hp1 hp2 hr' (h.vp r hr'))).w1 hp1 hp2 (by omega) hR
  · intro r hr
    have h4 := ((h.sp r).2 (.mem hp1 hp2 hr ((hR r hr).mono (by omega)))).w1 hp1 hp2 (by omega) hv
    refine h4.sub hp1 hp2 ?_
    intro q hq
    obtain ⟨j, hj, rfl⟩ := List.mem_iff_getElem.1 hq
    have ej : (solT (m + 1) p R m).1[j] = (solT (m + 1) p R m).1.getD j z0 := by simp [List.getD_eq_getElem?_getD, hj]
    rcases Nat.lt_or_ge j C.length with h' | h'
    · have hm : (solT (m + 1) p R m).1[j] ∈ (solT (m + 1) p R m).1.take C.length := by
        rw [List.mem_take_iff_getElem]
        exact ⟨j, by omega, rfl⟩
      exact .mem hp1 hp2 hm (hvt _ hm)
    · rw [ej, hz j h']; exact .z
  · intro a ha
    have := r2 a ha
    have hm : (solT (m + 1) p R m).1.getD a z0 ∈ (solT (m + 1) p R m).1.take C.length := by
      rw [List.mem_take_iff_getElem]
      have := h.cl
      exact ⟨a, by omega, by simp [List.getD_eq_getElem?_getD, show a < (solT (m + 1) p R m).1.length by omega]⟩
    rw [← fstW_w (by omega : m ≤ m + 1) (hvt _ hm).2 (rrm.nz hm)]
    exact this
end
/-! ### a new row -/
/-- a row that may be written on behind: its block is none of the first m -/
def RowC (m : Nat) (H : List Blk) (n : Nat) (a : At) (v : By) : Prop := ∃ k cap N f, a = .sl k 0 n cap ∧ H[k]? = some ⟨false, .by [] N f⟩ ∧ (cap ≤ N ∧ n ≤ cap ∧ m ≤ k) ∧ ∀ x, x < n → f x = v x
theorem RowC.row {m : Nat} {H : List Blk} {n : Nat} {a : At} {v : By} (h : RowC m H n a v) : RowB H n a v := by
  obtain ⟨k, cap, N, f, h1, h2, h3, h4⟩ := h
  exact ⟨k, cap, N, f, h1, h2, by omega, h4⟩
theorem RowC.ge {m : Nat} {H : List Blk} {n : Nat} {a : At} {v : By} (h : RowC m H n a v) : m ≤ blkOf a := by
  obtain ⟨k, cap, N, f, rfl, h2, h3, h4⟩ := h
  exact h3.2.2
theorem RowC.mono {m m' : Nat} {H : List Blk} {n : Nat} {a : At} {v : By} (h : RowC m H n a v) (hm : m' ≤ m) : RowC m' H n a v := by
  obtain ⟨k, cap, N, f, h1, h2, h3, h4⟩ := h
  exact ⟨k, cap, N, f, h1, h2, by omega, h4⟩
theorem RowC.ext {m : Nat} {H H' : List Blk} {n : Nat} {a : At} {v : By} (h : RowC m H n a v) (e : Ext H H') : RowC m H' n a v := by
  obtain ⟨k, cap, N, f, h1, h2, h3, h4⟩ := h
  exact ⟨k, cap, N, f, h1, e _ _ h2, h3, h4⟩
/-- a system with one more row -/
theorem sy_add {m0 : Nat} {G0 G6 G7 : List Blk} {s : Nat} {p n0 : Int} {m : Nat} {R : List By} {T : List Int} {ra pa ra' x : At} {As : List At} {v : By} (hs : G0[s]? = some (sysB p n0 m ra pa)) (hra : Spn G0 ra As) (hR : Rows G0 (m + 1) As R) (hpa : Spn G0 pa (T.map (At.i .i64)))
    (hnd : (OwnT s ra As pa).Nodup) (hge : ∀ k ∈ OwnT s ra As pa, m0 ≤ k) (hm : m0 ≤ G0.length) (e : Ext G0 G6) (hx : RowC G0.length G6 (m + 1) x v) (hsp : Spn G7 ra' (As ++ [x])) (hf : Fr (spB ra) G6 G7) (hb : ∀ k ∈ spB ra', k ∈ spB ra ∨ k = G6.length) :
    G7[s]? = some (sysB p n0 m ra pa) ∧ SY m0 (G7.set s (sysB p n0 m ra' pa)) s p n0 m (R ++ [v]) T ∧ Fr (s :: spB ra) G0 (G7.set s (sysB p n0 m ra' pa)) := by
  have hlt : ∀ k ∈ OwnT s ra As pa, k < G0.length := by
    intro k hk
    simp only [OwnT, List.mem_cons, List.mem_append] at hk
    rcases hk with rfl | hk | hk | hk
    · exact lt_of hs
    · exact hpa.lt.2 k hk
    · exact hra.lt.2 k hk
    · exact hR.blt k hk
  have hxg := hx.ge
  have hxl : blkOf x < G6.length := by
    obtain ⟨k, cap, N, f, rfl, h2, -⟩ := hx
    exact lt_of h2
  have hel := e.len
  have hnr : ∀ k, k = s ∨ k ∈ spB pa ∨ k ∈ As.map blkOf ∨ k = blkOf x → k ∉ spB ra := by
    intro k hk hq
    have hq' := hlt k (by simp [OwnT, hq])
    have nd := hnd
    simp only [OwnT, List.nodup_cons, List.nodup_append, List.mem_cons, List.mem_append, not_or] at nd
    grind
  have hs7 := hf _ _ (hnr s (.inl rfl)) (e _ _ hs)
  have f1 : Fr [s] G7 (G7.set s (sysB p n0 m ra' pa)) := fun k B hk e => set_other e (by intro q; exact hk (by simp [q]))
  have hn' := spB_nd ra'
  have nd' : (OwnT s ra' (As ++ [x]) pa).Nodup ∧ ∀ k ∈ OwnT s ra' (As ++ [x]) pa, m0 ≤ k := by
    have nd := hnd
    have ge := hge
    have hl := hlt
    unfold OwnT at nd ge hl ⊢
    rw [List.map_append]
    simp only [List.nodup_cons, List.nodup_append, List.mem_cons, List.mem_append, not_or, List.map_cons, List.map_nil, List.not_mem_nil, or_false] at nd ge hl ⊢
    constructor <;> grind
  have hns : ∀ k, k ∈ spB pa ∨ k ∈ spB ra' ∨ k ∈ (As ++ [x]).map blkOf → k ∉ [s] := by
    intro k hk hq
    have nd := nd'.1
    simp only [OwnT, List.nodup_cons, List.mem_append, not_or] at nd
    simp at hq
    subst hq
    rcases hk with hk | hk | hk
    · exact nd.1.1 hk
    · exact nd.1.2.1 hk
    · exact nd.1.2.2 hk
  refine ⟨hs7, ⟨ra', As ++ [x], pa, set_same hs7, hsp.fr f1 fun k hk => hns k (.inr (.inl hk)), ?_, ?_, nd'.1, nd'.2⟩, ?_⟩
  · have h1 := ((hR.fr (l := []) e.fr (by simp)).fr hf fun k hk => hnr k (by simp only [hk]; simp)).fr f1 fun k hk => hns k (.inr (.inr (by rw [List.map_append]; exact List.mem_append_left _ hk)))
    have h2 := ((hx.row.fr hf (hnr _ (by simp))).fr f1 (hns _ (.inr (.inr (by simp)))))
    have hA := hR.1
    refine ⟨by simp [hA], fun i hi => ?_⟩
    rw [List.length_append, List.length_singleton] at hi
    by_cases hi' : i < As.length
    · have e1 : (As ++ [x]).getD i .sn = As.getD i .sn := by simp only [List.getD_eq_getElem?_getD]; rw [List.getElem?_append_left hi']
      rw [e1, getD_app, if_pos (by omega)]
      exact h1.2 i hi'
    · obtain rfl : i = As.length := by omega
      have e1 : (As ++ [x]).getD As.length .sn = x := by simp only [List.getD_eq_getElem?_getD]; rw [List.getElem?_append_right (Nat.le_refl _)]; simp
      rw [e1, getD_app, if_neg (by omega), hA, Nat.sub_self]
      exact h2
  · exact ((hpa.fr (l := []) e.fr (by simp)).fr hf fun k hk => hnr k (by simp [hk])).fr f1 fun k hk => hns k (by simp [hk])
  · intro k B hk e'
    simp only [List.mem_cons, not_or] at hk
    exact f1 _ _ (by simpa using hk.1) (hf _ _ hk.2 (e _ _ e'))
theorem SY.len {m0 : Nat} {H : List Blk} {s m : Nat} {p n0 : Int} {R : List By} {T : List Int} (h : SY m0 H s p n0 m R T) : s < H.length := by
  obtain ⟨ra, As, pa, h, -⟩ := h; exact lt_of h
end Hf
namespace Hf
open Go Classical
variable {P : Program} {ρ : Nat → FuncId}
theorem i_system_solve_ok (B : Bs P ρ) (E : F_i_system_solve P ρ) {m0 : Nat} {H : List Blk} {s m : Nat} {p n0 : Int} {R : List By} {T0 : List Int} (hp : 1 ≤ p) (hp2 : p ≤ 256) (hm : m ≤ 100000) (hS : SY m0 H s p n0 m R T0) (hlen : R.length ≤ 1000000) (hm0 : m0 ≤ H.length) :
    CallR P ρ 287 [.pt s 0] H (fun u G => u = .one (.b (solOK (m + 1) p R m)) ∧ SY m0 G s p n0 m ((solT (m + 1) p R m).1.take (solT (m + 1) p R m).2.length) (solT (m + 1) p R m).2 ∧ Upto m0 H G) := by
  obtain ⟨ra0, As0, pa0, hs0, hra0, hR0, hpa0, hnd0, hge0⟩ := hS
  refine call_of_q B.fn B.mo E.1 rfl (fun hAr hHp => ?_) (by simp [At.lt, lt_of hs0])
  refine ⟨H.length, rfl, ?_⟩
  refine ⟨_, _, get_new, rfl, ?_⟩
  refine ⟨_, _, _, app_old hs0, cput_rw (by simp) rfl, eqBk_rfl, ?_⟩
  refine ⟨_, rfl, ?_⟩
  refine ⟨_, _, _, get_new, cput_vr rfl, eqBk_rfl, ?_⟩
  obtain ⟨hI0, hK0, hU0⟩ := solve_start (B := ⟨false, .vr (.i .i64 ((0 : Nat) : Int))⟩) hs0 hra0 hR0 hpa0 hnd0 hge0 hm0
  refine ⟨At × List At × At × Nat × Nat, (fun a1 (i0 : Nat) (x0 : At × List At × At × Nat × Nat) => match x0 with | ⟨ra, As, pa, cb, d⟩ => [(1, a1), (3, .one (.i .i64 ((d : Nat) : Int))), (4, .one (.pt cb 0))]) _ , fun (i0 : Nat) (x0 : At × List At × At × Nat × Nat) (G0 : List Blk) => match x0 with | ⟨ra, As, pa, cb, d⟩ => (SolI m0 H.length s p n0 m (solT (m + 1) p R i0).1 (solT (m + 1) p R i0).2 G0 ra As pa ∧ G0[cb]? = some ⟨false, .vr (.i .i64 ((i0 : Nat) : Int))⟩ ∧ cb ∉ H.length :: OwnT s ra As pa ∧ m0 ≤ cb ∧ d = (solT (m + 1) p R i0).2.length ∧ Upto m0 H G0), m, ⟨⟨ra0, As0, .sn, _, 0⟩, ?_, ⟨rfl, rfl, rfl, trivial⟩⟩, ?_⟩
  · rw [app_set0]
    refine ⟨hI0, get_new, fun h => ?_, by simp; omega, rfl, hU0⟩
    have := hK0 _ h
    simp at this
  rintro i0 ⟨ra, As, pa, cb, d⟩ G0 hi0 ⟨hI, hcb, hcn, hc0, hd, hU⟩
  have hl := @solT_len (m + 1) p R i0
  have hAl := hI.frows.1
  refine ⟨_, _, hcb, rfl, ?_⟩
  refine ⟨_, _, hI.fkb, rfl, ?_⟩
  refine ⟨_, _, hI.fs, rfl, ?_⟩
  refine ⟨fun h16 => ?_, fun h16 => ?_⟩
  · replace h16 := of_decide_eq_true h16
    refine brB_t ?_
    refine ⟨_, _, hI.fkb, rfl, ?_⟩
    refine brB_t ?_
    refine brB_t ?_
    refine brB_t ?_
    refine ⟨_, _, hI.fs, rfl, ?_⟩
    refine brB_t ?_
    refine ⟨_, (hI.fra).len, ?_⟩
    refine brB_t ?_
    refine brB_t ?_
    refine ⟨fun h24 => ?_, fun h24 => ?_⟩
    · replace h24 := of_decide_eq_true h24
      subst hd
      have hd0 : (solT (m + 1) p R i0).2.length < R.length := by omega
      refine ⟨_, _, hI.fkb, rfl, ?_⟩
      refine ⟨_, _, hI.fs, rfl, ?_⟩
      obtain ⟨kr, cr, lr, rfl, hkr, ⟨hr1, hr2⟩, hr3⟩ := hI.fra.sl (by omega)
      obtain ⟨z, hz⟩ : ∃ z, firstQ (fun i => (solT (m + 1) p R i0).1.getD ((solT (m + 1) p R i0).2.length + i) z0 i0 != 0) (R.length - (solT (m + 1) p R i0).2.length) 0 = z := ⟨_, rfl⟩
      have hdl : (As.drop (solT (m + 1) p R i0).2.length).length = R.length - (solT (m + 1) p R i0).2.length := by simp; omega
      refine ⟨_, _, rfl, rfl, ⟨by omega, by omega⟩, ?_⟩
      refine ⟨_, x_IndexFunc_R_ok B E.2.2.1 (q := fun i => (solT (m + 1) p R i0).1.getD ((solT (m + 1) p R i0).2.length + i) z0 i0 != 0) (z := z) (by rw [hdl]; exact hz) (rdR_drop hkr ⟨hr1, hr2⟩ hr3 (by omega) _) (by simp [At.lt, lt_of hkr]) (by simp [At.lt, lt_of hcb]) (by omega) (fun i hi => by rw [drop_getD]; exact i_system_solve_1_ok B E.2.1 (hI.frows.at _ (by omega)) hcb (by omega)), ?_⟩
      rintro _ _ ⟨rfl, rfl⟩
      refine ⟨fun h36 => ?_, fun h36 => ?_⟩
      · replace h36 := of_decide_eq_true h36
        have hS : solT (m + 1) p R (i0 + 1) = solT (m + 1) p R i0 := by
          rw [solT_succ]; unfold solS
          rw [hl.1, hz, if_pos h36]
        refine ⟨_, _, hcb, rfl, ?_⟩
        refine ⟨_, rfl, ?_⟩
        refine ⟨_, _, _, get_new, cput_vr rfl, eqBk_rfl, ?_⟩
        refine ⟨_, _, set_same get_new, rfl, ?_⟩
        refine ⟨((i0 + 1 : Nat) : Int), w64_id _ (by omega) (by omega), ?_⟩
        refine ⟨_, _, _, set_same get_new, cput_vr rfl, eqBk_rfl, ?_⟩
        refine ⟨by omega, (.sl kr 0 As.length cr, As, pa, _, _), ?_, ⟨rfl, rfl, rfl, trivial⟩⟩
        dsimp only
        rw [app_set0, app_set0, hS]
        exact ⟨hI.ext Ext.app, get_new, fun h => absurd (hI.lt _ h) (by omega), by have := (hI.lt _ (List.mem_cons_self ..)); omega, rfl, hU.trans (Ext.app).upto⟩
      · replace h36 := of_decide_eq_false h36
        obtain ⟨k, hk, rfl⟩ : ∃ k, k < R.length - (solT (m + 1) p R i0).2.length ∧ z = (k : Int) := by
          rcases @firstQ_or (fun i => (solT (m + 1) p R i0).1.getD ((solT (m + 1) p R i0).2.length + i) z0 i0 != 0) (R.length - (solT (m + 1) p R i0).2.length) with ⟨e, -⟩ | ⟨k, hk, e, -⟩
          · omega
          · exact ⟨k, hk, by omega⟩
        have hS : solT (m + 1) p R (i0 + 1) = (clr (m + 1) p (swL z0 (solT (m + 1) p R i0).1 (solT (m + 1) p R i0).2.length ((solT (m + 1) p R i0).2.length + k)) (solT (m + 1) p R i0).2.length i0, (solT (m + 1) p R i0).2 ++ [(i0 : Int)]) := by
          rw [solT_succ]; unfold solS
          rw [hl.1, hz, if_neg h36, Int.toNat_natCast]
        refine ⟨_, _, hI.fkb, rfl, ?_⟩
        refine ⟨_, _, hI.fs, rfl, ?_⟩
        refine ⟨_, _, hI.fkb, rfl, ?_⟩
        refine ⟨_, _, hI.fs, rfl, ?_⟩
        refine ⟨(((solT (m + 1) p R i0).2.length + k : Nat) : Int), w64_id _ (by omega) (by omega), ?_⟩
        refine ⟨_, _, hI.fkb, rfl, ?_⟩
        refine ⟨_, _, hI.fs, rfl, ?_⟩
        refine ⟨(((solT (m + 1) p R i0).2.length + k : Nat) : Int), w64_id _ (by omega) (by omega), ?_⟩
        obtain ⟨k56, o56, n56, c56, q56, ea56, hl56, hq56, r56, l56, hk56, hi56⟩ := rdR_at (hI.fra.rd) (((solT (m + 1) p R i0).2.length + k)) (by omega)
        refine ⟨k56, o56, n56, c56, ((solT (m + 1) p R i0).2.length + k), q56, ea56, rfl, hl56, hq56, ?_⟩
        refine ⟨_, _, hk56, hi56, ?_⟩
        refine ⟨_, _, hI.fkb, rfl, ?_⟩
        refine ⟨_, _, hI.fs, rfl, ?_⟩
        obtain ⟨k63, o63, n63, c63, q63, ea63, hl63, hq63, r63, l63, hk63, hi63⟩ := rdR_at (hI.fra.rd) (((solT (m + 1) p R i0).2.length)) (by omega)
        refine ⟨k63, o63, n63, c63, ((solT (m + 1) p R i0).2.length), q63, ea63, rfl, hl63, hq63, ?_⟩
        refine ⟨_, _, hk63, hi63, ?_⟩
        have hca := (hI.frows.at ((solT (m + 1) p R i0).2.length + k) (by omega)).cell
        have hcb2 := (hI.frows.at (solT (m + 1) p R i0).2.length (by omega)).cell
        obtain ⟨k65, o65, n65, c65, q65, C65, ea65, hl65, hq65, hk65, hs65⟩ := Spn.st (hI.fra) (((solT (m + 1) p R i0).2.length)) (by omega)
        refine ⟨k65, o65, n65, c65, ((solT (m + 1) p R i0).2.length), q65, ea65, rfl, hl65, hq65, ?_⟩
        refine ⟨_, _, _, hk65, (hs65 _ hca).1, eqBk_rfl, ?_⟩
        obtain ⟨-, hsp1, hf1⟩ := hs65 _ hca
        obtain ⟨k66, o66, n66, c66, q66, C66, ea66, hl66, hq66, hk66, hs66⟩ := Spn.st (hsp1) (((solT (m + 1) p R i0).2.length + k)) (by rw [List.length_set]; omega)
        refine ⟨k66, o66, n66, c66, ((solT (m + 1) p R i0).2.length + k), q66, ea66, rfl, hl66, hq66, ?_⟩
        refine ⟨_, _, _, hk66, (hs66 _ hcb2).1, eqBk_rfl, ?_⟩
        obtain ⟨-, hsp2, hf2⟩ := hs66 _ hcb2
        have hI2 := hI.sw (i := (solT (m + 1) p R i0).2.length) (j := (solT (m + 1) p R i0).2.length + k) (by omega) (by omega) (hf1.trans hf2) hsp2
        have hcb3 := (hf1.trans hf2) _ _ (fun h => hcn (by simp [OwnT, h])) hcb
        refine ⟨_, _, hI2.fkb, rfl, ?_⟩
        refine ⟨_, _, hcb3, rfl, ?_⟩
        refine ⟨_, i_system_clear_ok B E.2.2.2.1 (d := (solT (m + 1) p R i0).2.length) (c := i0) hp hp2 hm hI2.fs hI2.fra hI2.frows (by have := hI2.nd; unfold OwnT at this; simp only [List.nodup_cons, List.nodup_append] at this; exact this.2.2.2.1.2.1) (by have := hI2.nd; unfold OwnT at this; simp only [List.nodup_cons, List.nodup_append, List.mem_append, not_or] at this; exact this.2.1.2.2) (fun k hk hq => by have := hI2.nd; unfold OwnT at this; simp only [List.nodup_cons, List.nodup_append] at this; exact this.2.2.2.1.2.2 k hk k hq rfl) (by rw [swL_len]; omega) (by rw [swL_len]; omega) (by omega), ?_⟩
        rintro _ G3 ⟨hc1, hc2⟩
        have hI3 := hI2.cl hc2 hc1
        have hcn2 : cb ∉ (swL At.sn As (solT (m + 1) p R i0).2.length ((solT (m + 1) p R i0).2.length + k)).map blkOf := by
          intro h
          refine hcn ?_
          have := ((swL_perm (z := At.sn) (L := As) (i := (solT (m + 1) p R i0).2.length) (j := (solT (m + 1) p R i0).2.length + k) (by omega) (by omega)).map blkOf).mem_iff.1 h
          unfold OwnT
          simp only [List.mem_cons, List.mem_append]
          exact .inr (.inr (.inr (.inr this)))
        have hcb4 := hc2 _ _ hcn2 hcb3
        refine ⟨_, _, hI3.fkb, rfl, ?_⟩
        refine ⟨_, _, hI3.fkb, rfl, ?_⟩
        refine ⟨_, _, hI3.fs, rfl, ?_⟩
        refine ⟨_, _, hcb4, rfl, ?_⟩
        refine ⟨_, rfl, ⟨kept1 hI3.fs (app_old hI3.fs), kept1 hI3.fkb (app_old hI3.fkb), kept1 hI3.fkb (app_old hI3.fkb), trivial⟩, ?_⟩
        refine ⟨_, spn_app (x := .i .i64 (i0 : Int)) (hI3.ext Ext.app).fpa ⟨false, _, get_new, by simp, rfl⟩ (by simp; omega) (by omega), ?_⟩
        rintro a78 G78 ⟨hp78, hf78, hb78, hl78⟩
        have hx3 : ∀ k, k = H.length ∨ k = s → k ∉ spB pa := by
          intro k hk hq
          have nd := hI3.nd
          simp only [OwnT, List.nodup_cons, List.nodup_append, List.mem_cons, List.mem_append, not_or] at nd
          grind
        have hkb78 := hf78 _ _ (hx3 _ (.inl rfl)) (app_old hI3.fkb)
        have hs78 := hf78 _ _ (hx3 _ (.inr rfl)) (app_old hI3.fs)
        refine ⟨⟨kept1 (app_old hI3.fs) hs78, kept1 (app_old hI3.fkb) hkb78, kept1 (app_old hI3.fkb) hkb78, trivial⟩, ?_⟩
        have hI4 := hI3.pl (T' := (solT (m + 1) p R i0).2 ++ [(i0 : Int)]) Ext.app hf78 (by rw [List.map_append]; exact hp78) (app_hb hb78) (by have := hI3.lt _ (List.mem_cons_self ..); omega)
        have hcb5 : cb ∉ spB pa ∧ cb ≠ s := by constructor <;> (intro h; exact hcn (by simp [OwnT, h]))
        have hcb6 := hf78 _ _ hcb5.1 (app_old hcb4)
        refine ⟨_, _, _, hs78, cput_rw (by simp) hp78.cell, eqBk_rfl, ?_⟩
        refine ⟨((((solT (m + 1) p R i0).2.length + 1 : Nat)) : Int), w64_id _ (by omega) (by omega), ?_⟩
        refine ⟨_, _, set_other hcb6 (Ne.symm hcb5.2), rfl, ?_⟩
        refine ⟨_, rfl, ?_⟩
        refine ⟨_, _, _, get_new, cput_vr rfl, eqBk_rfl, ?_⟩
        refine ⟨_, _, set_same get_new, rfl, ?_⟩
        refine ⟨((i0 + 1 : Nat) : Int), w64_id _ (by omega) (by omega), ?_⟩
        refine ⟨_, _, _, set_same get_new, cput_vr rfl, eqBk_rfl, ?_⟩
        refine ⟨by omega, (.sl kr 0 As.length cr, swL At.sn As (solT (m + 1) p R i0).2.length ((solT (m + 1) p R i0).2.length + k), a78, _, _), ?_, ⟨rfl, rfl, rfl, trivial⟩⟩
        dsimp only
        rw [app_set0, app_set0, hS]
        refine ⟨hI4.ext Ext.app, get_new, fun h => Nat.lt_irrefl _ (hI4.lt _ h), Nat.le_trans (hI4.ge _ (List.mem_cons_self ..)) (Nat.le_of_lt (hI4.lt _ (List.mem_cons_self ..))), by simp, ?_⟩
        have ge := hI.ge
        have ge3 := hI3.ge
        refine hU.trans (((hf1.trans hf2).upto fun k hk => ge k (by simp only [OwnT, List.mem_cons, List.mem_append]; simp [hk])).trans ((hc2.upto fun k hk => ge3 k (by simp only [OwnT, List.mem_cons, List.mem_append]; simp [hk])).trans ((Ext.app (G := _)).upto.trans ((hf78.upto fun k hk => ge3 k (by simp only [OwnT, List.mem_cons, List.mem_append]; simp [hk])).trans (Upto.trans (H1 := _) (fun k B hk e => set_other e ?_) (Ext.app (G := _)).upto)))))
        have := ge s (by simp [OwnT]); omega
    · replace h24 := of_decide_eq_false h24
      have hfin : solT (m + 1) p R m = solT (m + 1) p R i0 := by
        have := @solT_full (m + 1) p R i0 (m - i0) (by omega)
        rwa [show i0 + (m - i0) = m by omega] at this
      refine ⟨_, _, hI.fkb, rfl, ?_⟩
      refine ⟨_, _, hI.fs, rfl, ?_⟩
      have hR0l : As.length = R.length := by omega
      subst hd
      rcases hI.fra with ⟨rfl, rfl⟩ | ⟨kr, cr, lr, rfl, hkr, ⟨hr1, hr2⟩, hr3⟩
      · have hd0 : (solT (m + 1) p R i0).2.length = 0 := by have : ([] : List At).length = R.length := hR0l; simp at this; omega
        refine ⟨⟨by rw [hd0]; rfl, rfl⟩, ?_⟩
        refine ⟨_, _, hI.fkb, rfl, ?_⟩
        refine ⟨_, _, hI.fkb, rfl, ?_⟩
        refine ⟨_, _, hI.fs, rfl, ?_⟩
        refine ⟨⟨rfl, by rw [hd0]; rfl⟩, ?_⟩
        obtain ⟨hD, hf9⟩ := hI.done (d := 0) (ra' := .sn) (by omega) rfl (.inl ⟨rfl, rfl⟩)
        refine ⟨_, _, _, hI.fs, cput_rw (by simp) rfl, eqBk_rfl, ?_⟩
        obtain ⟨z, hz⟩ : ∃ z, firstQ (fun i => (solT (m + 1) p R i0).1.getD ((solT (m + 1) p R i0).2.length + i) z0 m != 0) (R.length - (solT (m + 1) p R i0).2.length) 0 = z := ⟨_, rfl⟩
        have hkb9 := hf9 _ _ (by have nd := hI.nd; simp [OwnT] at nd ⊢; grind) hI.fkb
        have hs9 : ∀ ra', (List.set _ s (sysB p n0 m ra' pa))[s]? = some (sysB p n0 m ra' pa) := fun ra' => set_same hI.fs
        refine ⟨_, x_ContainsFunc_R_ok B E.2.2.2.2.2 (a := .sn) (As := []) (q := fun i => (solT (m + 1) p R i0).1.getD ((solT (m + 1) p R i0).2.length + i) z0 m != 0) (z := z) (by rw [← hz, ← hR0l, hd0]; rfl) rfl rfl (by have := lt_of hI.fkb; simp [At.lt]; omega) (by simp) (fun i hi => by simp at hi), ?_⟩
        rintro _ _ ⟨rfl, rfl⟩
        refine ⟨rfl, by unfold solOK; rw [hfin, hz]; rfl, ?_, ?_⟩
        · rw [hfin]; first | exact hD | (rw [hd0]; exact hD)
        · exact hU.trans (hf9.upto fun k hk => by have := hI.ge s (by simp [OwnT]); simp at hk; omega)
      · refine ⟨_, As.length, rfl, rfl, ⟨by omega, by omega⟩, ?_⟩
        refine ⟨_, _, hI.fkb, rfl, ?_⟩
        refine ⟨_, _, hI.fkb, rfl, ?_⟩
        refine ⟨_, _, hI.fs, rfl, ?_⟩
        refine ⟨0, _, rfl, rfl, ⟨by omega, by omega⟩, ?_⟩
        obtain ⟨hD, hf9⟩ := hI.done (d := (solT (m + 1) p R i0).2.length) (ra' := .sl kr (if cr = 0 then 0 else 0 + 0 * 1) ((solT (m + 1) p R i0).2.length - 0) (cr - 0)) (by omega) rfl (by refine spn_take ?_ ⟨hr1, hr2⟩ hr3 (by omega); exact set_other hkr (by intro q; have nd := hI.nd; subst q; simp [OwnT, spB] at nd))
        refine ⟨_, _, _, hI.fs, cput_rw (by simp) rfl, eqBk_rfl, ?_⟩
        obtain ⟨z, hz⟩ : ∃ z, firstQ (fun i => (solT (m + 1) p R i0).1.getD ((solT (m + 1) p R i0).2.length + i) z0 m != 0) (R.length - (solT (m + 1) p R i0).2.length) 0 = z := ⟨_, rfl⟩
        have hkb9 := hf9 _ _ (by have nd := hI.nd; simp [OwnT] at nd ⊢; grind) hI.fkb
        have hkr9 : kr ∉ [s] := by have nd := hI.nd; simp [OwnT, spB] at nd ⊢; grind
        have hrow9 : ∀ i, i < As.length → blkOf (As.getD i .sn) ∉ [s] := by
          intro i hi
          have nd := hI.nd
          have := map_getD hi
          simp only [OwnT, List.nodup_cons, List.nodup_append, List.mem_cons, List.mem_append, not_or, List.not_mem_nil, or_false] at nd ⊢
          intro q
          grind
        refine ⟨_, x_ContainsFunc_R_ok B E.2.2.2.2.2 (As := As.drop (solT (m + 1) p R i0).2.length) (q := fun i => (solT (m + 1) p R i0).1.getD ((solT (m + 1) p R i0).2.length + i) z0 m != 0) (z := z) (by rw [← hz, List.length_drop, hR0l]) (rdR_drop (hf9 _ _ hkr9 hkr) ⟨hr1, hr2⟩ hr3 (by omega) _) (by simp [At.lt]; have := lt_of hkr; omega) (by have := lt_of hI.fkb; simp [At.lt]; omega) (by rw [List.length_drop]; omega) (fun i hi => by rw [List.length_drop] at hi; rw [drop_getD]; exact i_system_solve_2_ok B E.2.2.2.2.1 ((hI.frows.at _ (by omega)).fr hf9 (hrow9 _ (by omega))) hkb9 (set_same hI.fs)), ?_⟩
        rintro _ _ ⟨rfl, rfl⟩
        refine ⟨rfl, by unfold solOK; rw [hfin, hz]; rfl, ?_, ?_⟩
        · rw [hfin]; first | exact hD | (rw [hd0]; exact hD)
        · exact hU.trans (hf9.upto fun k hk => by have := hI.ge s (by simp [OwnT]); simp at hk; omega)
  · replace h16 := of_decide_eq_false h16
    have e0 : i0 = m := by omega
    have hfin : solT (m + 1) p R m = solT (m + 1) p R i0 := by rw [e0]
    refine brB_f ?_
    refine brB_f ?_
    refine brB_f ?_
    refine brB_f ?_
    refine brB_f ?_
    refine brB_f ?_
    refine brB_f ?_
    refine brB_f ?_
    refine ⟨_, _, hI.fkb, rfl, ?_⟩
    refine ⟨_, _, hI.fs, rfl, ?_⟩
    have hR0l : As.length = R.length := by omega
    subst hd
    rcases hI.fra with ⟨rfl, rfl⟩ | ⟨kr, cr, lr, rfl, hkr, ⟨hr1, hr2⟩, hr3⟩
    · have hd0 : (solT (m + 1) p R i0).2.length = 0 := by have : ([] : List At).length = R.length := hR0l; simp at this; omega
      refine ⟨⟨by rw [hd0]; rfl, rfl⟩, ?_⟩
      refine ⟨_, _, hI.fkb, rfl, ?_⟩
      refine ⟨_, _, hI.fkb, rfl, ?_⟩
      refine ⟨_, _, hI.fs, rfl, ?_⟩
      refine ⟨⟨rfl, by rw [hd0]; rfl⟩, ?_⟩
      obtain ⟨hD, hf9⟩ := hI.done (d := 0) (ra' := .sn) (by omega) rfl (.inl ⟨rfl, rfl⟩)
      refine ⟨_, _, _, hI.fs, cput_rw (by simp) rfl, eqBk_rfl, ?_⟩
      obtain ⟨z, hz⟩ : ∃ z, firstQ (fun i => (solT (m + 1) p R i0).1.getD ((solT (m + 1) p R i0).2.length + i) z0 m != 0) (R.length - (solT (m + 1) p R i0).2.length) 0 = z := ⟨_, rfl⟩
      have hkb9 := hf9 _ _ (by have nd := hI.nd; simp [OwnT] at nd ⊢; grind) hI.fkb
      have hs9 : ∀ ra', (List.set _ s (sysB p n0 m ra' pa))[s]? = some (sysB p n0 m ra' pa) := fun ra' => set_same hI.fs
      refine ⟨_, x_ContainsFunc_R_ok B E.2.2.2.2.2 (a := .sn) (As := []) (q := fun i => (solT (m + 1) p R i0).1.getD ((solT (m + 1) p R i0).2.length + i) z0 m != 0) (z := z) (by rw [← hz, ← hR0l, hd0]; rfl) rfl rfl (by have := lt_of hI.fkb; simp [At.lt]; omega) (by simp) (fun i hi => by simp at hi), ?_⟩
      rintro _ _ ⟨rfl, rfl⟩
      refine ⟨rfl, by unfold solOK; rw [hfin, hz]; rfl, ?_, ?_⟩
      · rw [hfin]; first | exact hD | (rw [hd0]; exact hD)
      · exact hU.trans (hf9.upto fun k hk => by have := hI.ge s (by simp [OwnT]); simp at hk; omega)
    · refine ⟨_, As.length, rfl, rfl, ⟨by omega, by omega⟩, ?_⟩
      refine ⟨_, _, hI.fkb, rfl, ?_⟩
      refine ⟨_, _, hI.fkb, rfl, ?_⟩
      refine ⟨_, _, hI.fs, rfl, ?_⟩
      refine ⟨0, _, rfl, rfl, ⟨by omega, by omega⟩, ?_⟩
      obtain ⟨hD, hf9⟩ := hI.done (d := (solT (m + 1) p R i0).2.length) (ra' := .sl kr (if cr = 0 then 0 else 0 + 0 * 1) ((solT (m + 1) p R i0).2.length - 0) (cr - 0)) (by omega) rfl (by refine spn_take ?_ ⟨hr1, hr2⟩ hr3 (by omega); exact set_other hkr (by intro q; have nd := hI.nd; subst q; simp [OwnT, spB] at nd))
      refine ⟨_, _, _, hI.fs, cput_rw (by simp) rfl, eqBk_rfl, ?_⟩
      obtain ⟨z, hz⟩ : ∃ z, firstQ (fun i => (solT (m + 1) p R i0).1.getD ((solT (m + 1) p R i0).2.length + i) z0 m != 0) (R.length - (solT (m + 1) p R i0).2.length) 0 = z := ⟨_, rfl⟩
      have hkb9 := hf9 _ _ (by have nd := hI.nd; simp [OwnT] at nd ⊢; grind) hI.fkb
      have hkr9 : kr ∉ [s] := by have nd := hI.nd; simp [OwnT, spB] at nd ⊢; grind
      have hrow9 : ∀ i, i < As.length → blkOf (As.getD i .sn) ∉ [s] := by
        intro i hi
        have nd := hI.nd
        have := map_getD hi
        simp only [OwnT, List.nodup_cons, List.nodup_append, List.mem_cons, List.mem_append, not_or, List.not_mem_nil, or_false] at nd ⊢
        intro q
        grind
      refine ⟨_, x_ContainsFunc_R_ok B E.2.2.2.2.2 (As := As.drop (solT (m + 1) p R i0).2.length) (q := fun i => (solT (m + 1) p R i0).1.getD ((solT (m + 1) p R i0).2.length + i) z0 m != 0) (z := z) (by rw [← hz, List.length_drop, hR0l]) (rdR_drop (hf9 _ _ hkr9 hkr) ⟨hr1, hr2⟩ hr3 (by omega) _) (by simp [At.lt]; have := lt_of hkr; omega) (by have := lt_of hI.fkb; simp [At.lt]; omega) (by rw [List.length_drop]; omega) (fun i hi => by rw [List.length_drop] at hi; rw [drop_getD]; exact i_system_solve_2_ok B E.2.2.2.2.1 ((hI.frows.at _ (by omega)).fr hf9 (hrow9 _ (by omega))) hkb9 (set_same hI.fs)), ?_⟩
      rintro _ _ ⟨rfl, rfl⟩
      refine ⟨rfl, by unfold solOK; rw [hfin, hz]; rfl, ?_, ?_⟩
      · rw [hfin]; first | exact hD | (rw [hd0]; exact hD)
      · exact hU.trans (hf9.upto fun k hk => by have := hI.ge s (by simp [OwnT]); simp at hk; omega)

end Hf
namespace Hf
open Go Classical
variable {P : Program} {ρ : Nat → FuncId}
theorem CallOK.at0 {f : Nat} {as : List At} {H : List Blk} {v : Sv} (h : CallOK P ρ f as [] v []) (ha : as = as.map (mva (tau [] H.length))) (hv : mvs (tau [] H.length) v = v) : CallR P ρ f as H fun u G => u = v ∧ G = H :=
  (h.emb [] ha trivial rfl hv (by simp [back])).r
/-! ### the rows of a matrix -/
def rw8 (g : By) (i : Nat) : By := fun x => if x < 8 then g (i * 8 + x) else 0
def rows8 (g : By) : List By := (List.range 8).map (rw8 g)
theorem rows8_at {g : By} {i : Nat} (h : i < 8) : (rows8 g).getD i z0 = rw8 g i := by simp [rows8, List.getD_eq_getElem?_getD, h]
theorem VS.ag {H : List Blk} {k : Nat} {r : Bool} {g : By} (h : H[k]? = some ⟨r, .by [] 64 g⟩) : VS H (.sl k 0 8 8) (rows8 g) := by
  refine .inr ⟨k, 0, 8, r, 64, g, by simp [rows8], h, by simp [rows8], fun i x hi hx => ?_⟩
  have hi : i < 8 := by simpa [rows8] using hi
  rw [rows8_at hi, rw8, if_pos hx, Nat.zero_add]
theorem VW.one {H : List Blk} {m : Nat} {v : By} (hm : m ≤ H.length) : VW m (H ++ [⟨false, .by [] (1 * 8) (spl (fun _ => 0) (0 * 8) 8 v)⟩]) (.sl H.length 0 1 1) [v] := by
  refine ⟨H.length, 0, 1, _, _, rfl, get_new, ⟨by omega, by simp, hm⟩, fun i x h hx => ?_⟩
  obtain rfl : i = 0 := by simpa using h
  simp [spl, hx]
/-- a slice that may be nil -/
def VM (m : Nat) (H : List Blk) (a : At) (L : List By) : Prop := (a = .sn ∧ L = []) ∨ VW m H a L
theorem VM.nil {m : Nat} {H : List Blk} : VM m H .sn [] := .inl ⟨rfl, rfl⟩
theorem VM.mono {m m' : Nat} {H : List Blk} {a : At} {L : List By} (h : VM m H a L) (hm : m' ≤ m) : VM m' H a L := h.imp id fun h => h.mono hm
theorem VM.ext {m : Nat} {H H' : List Blk} {a : At} {L : List By} (h : VM m H a L) (e : Ext H H') : VM m H' a L := h.imp id fun h => h.ext e
theorem VS.upto {m : Nat} {H H' : List Blk} {a : At} {L : List By} (h : VS H a L) (hm : H.length ≤ m) (e : Upto m H H') : VS H' a L := h.ext fun k B hk => e k B (by have := lt_of hk; omega) hk

theorem brB_f' {b : Bool} {K : Bool → Prop} (hb : b = false) (h : K false) : brB b K := by subst hb; exact brB_f h
theorem VW.congr {m : Nat} {H : List Blk} {a : At} {L L' : List By} (h : VW m H a L) (hl : L'.length = L.length) (e : ∀ i x, i < L.length → x < 8 → (L.getD i z0) x = (L'.getD i z0) x) : VW m H a L' := by
  obtain ⟨k, off, cap, N, f, rfl, h2, h3, h4⟩ := h
  exact ⟨k, off, cap, N, f, by rw [hl], h2, by rw [hl]; exact h3, fun i x hi hx => by rw [hl] at hi; rw [h4 i x hi hx]; exact e i x hi hx⟩
/-- an entry is written -/
theorem VW.st {m : Nat} {H : List Blk} {a : At} {L : List By} (h : VW m H a L) (i : Nat) (hi : i < L.length) :
    ∃ k off len cap q c, a = .sl k off len cap ∧ i < len ∧ off + i * 8 = q ∧ H[k]? = some ⟨false, c⟩ ∧ ∀ x b, x < 8 → cput c (q + x) (.u b) = some (bput c (q + x) b) ∧
      (∀ L', L'.length = L.length → (∀ j y, j < L.length → y < 8 → (L'.getD j z0) y = if j = i ∧ y = x then b else (L.getD j z0) y) → VW m (H.set k ⟨false, bput c (q + x) b⟩) a L') ∧ Upto m H (H.set k ⟨false, bput c (q + x) b⟩) := by
  obtain ⟨k, off, cap, N, f, rfl, h2, h3, h4⟩ := h
  refine ⟨k, off, L.length, cap, off + i * 8, _, rfl, hi, rfl, h2, fun x b hx => ⟨cput_u (by simp) (by omega), fun L' hl he => ⟨k, off, cap, N, upd f (off + i * 8 + x) b, by rw [hl], set_same h2, by rw [hl]; exact h3, fun j y hj hy => ?_⟩, fun j B hj e => set_other e (by omega)⟩⟩
  rw [hl] at hj
  rw [he j y hj hy]
  unfold upd
  by_cases e : j = i ∧ y = x
  · rw [if_pos e, if_pos (by omega)]
  · rw [if_neg e, if_neg (by omega)]
    exact h4 j y hj hy
end Hf
namespace Hf
open Go Classical
variable {P : Program} {ρ : Nat → FuncId}
theorem VS.shape {H : List Blk} {a : At} {L : List By} (h : VS H a L) : a = .sn ∨ ∃ k o n c, a = .sl k o n c := by
  rcases h with ⟨h, -⟩ | ⟨k, off, cap, r, N, f, h, -⟩
  · exact .inl h
  · exact .inr ⟨_, _, _, _, h⟩
end Hf
namespace Hf
open Go Classical
variable {P : Program} {ρ : Nat → FuncId}
/-- an equation as a row -/
def eqR (m : Nat) (p : Int) (L : List Int) (z : Int) : By := fun x => if x = m then byt (z % p) else if x < L.length then byt (L.getD x 0 % p) else 0
theorem i_system_add_ok (B : Bs P ρ) (E : F_i_system_add P ρ) {m0 : Nat} {H : List Blk} {s m : Nat} {p n0 z : Int} {R : List By} {T L : List Int} {a : At} (hp : 1 ≤ p) (hp2 : p ≤ 256) (hm : m ≤ 100000) (hS : SY m0 H s p n0 m R T) (hA : VI H a L) (hL : L.length ≤ m) (hlt : a.lt H.length = true) (hlen : R.length ≤ 100000) (hm0 : m0 ≤ H.length) :
    CallR P ρ 286 [.pt s 0, a, .i .i64 z] H (fun u G => SY m0 G s p n0 m (R ++ [eqR m p L z]) T ∧ Upto m0 H G) := by
  obtain ⟨ra, As, pa, hs, hra, hR, hpa, hnd, hge⟩ := hS
  refine call_of_q B.fn B.mo E.1 rfl (fun hAr hHp => ?_) (by simp only [List.all_cons, List.all_nil, hlt]; simp [At.lt, lt_of hs])
  refine ⟨_, _, hs, rfl, ?_⟩
  refine ⟨((m + 1 : Nat) : Int), w64_id _ (by omega) (by omega), ?_⟩
  refine ⟨m + 1, _, ⟨rfl, by omega, by omega⟩, rfl, ?_⟩
  refine ⟨_, (hA).len, ?_⟩
  refine ⟨Unit, (fun a0 a2 a6 a15 a16 (i0 : Nat) (x0 : Unit) => [(0, a0), (2, a2), (6, a6), (15, a15), (16, a16), (17, .one (.i .i64 ((i0 : Nat) : Int)))]) _ _ _ _ _ , fun (i0 : Nat) (x0 : Unit) (G0 : List Blk) => (∃ w, G0 = H ++ [⟨false, .by [] ((m + 1) * 1) w⟩] ∧ ∀ x, x < m + 1 → w x = if x < i0 then byt (L.getD x 0 % p) else 0), L.length, ⟨(), ⟨_, rfl, fun x hx => by simp⟩, ⟨rfl, rfl, rfl, rfl, rfl, rfl, trivial⟩⟩, ?_⟩
  rintro i0 _ G0 hi0 ⟨w, rfl, hw⟩
  refine ⟨fun h18 => ?_, fun h18 => ?_⟩
  · replace h18 := of_decide_eq_true h18
    obtain ⟨k20, o20, n20, c20, q20, ea20, hl20, hq20, r20, l20, hk20, hi20⟩ := VI.at (hA.ext Ext.app) i0 (by omega)
    refine ⟨k20, o20, n20, c20, i0, q20, ea20, rfl, hl20, hq20, ?_⟩
    refine ⟨_, _, hk20, hi20, ?_⟩
    refine .inr ⟨_, _, [_, _], app_old hs, ⟨rfl, rfl⟩, ?_⟩
    refine ⟨_, i_field_mod_ok B E.2 hp (by omega), rfl, ?_⟩
    refine ⟨_, _, _, _, i0, i0, rfl, rfl, by omega, by omega, ?_⟩
    refine ⟨_, _, _, get_new, cput_u (by simp) (by omega), eqBk_rfl, ?_⟩
    refine ⟨((i0 + 1 : Nat) : Int), w64_id _ (by omega) (by omega), ?_⟩
    refine ⟨by omega, (), ?_, ⟨rfl, rfl, rfl, rfl, rfl, rfl, trivial⟩⟩
    refine ⟨_, app_set0, fun x hx => ?_⟩
    by_cases e : x = i0
    · subst e
      rw [upd_same, if_pos (Nat.lt_succ_self _)]
    · rw [upd_ne _ _ _ _ e, hw x hx]
      by_cases h : x < i0
      · rw [if_pos h, if_pos (by omega)]
      · rw [if_neg h, if_neg (by omega)]
  · replace h18 := of_decide_eq_false h18
    have e0 : L.length = i0 := by omega
    subst e0
    refine ⟨_, _, app_old hs, rfl, ?_⟩
    refine .inr ⟨_, _, [_, _], app_old hs, ⟨rfl, rfl⟩, ?_⟩
    refine ⟨_, i_field_mod_ok B E.2 hp (by omega), rfl, ?_⟩
    refine ⟨_, _, _, _, m, m, rfl, rfl, by omega, by omega, ?_⟩
    refine ⟨_, _, _, get_new, cput_u (by simp) (by omega), eqBk_rfl, ?_⟩
    rw [app_set0]
    have hx : RowC H.length (H ++ [⟨false, .by [] ((m + 1) * 1) (upd w m (byt (z % p)))⟩]) (m + 1) (.sl H.length 0 (m + 1) (m + 1)) (eqR m p L z) := by
      refine ⟨H.length, m + 1, _, _, rfl, get_new, by omega, fun x hx => ?_⟩
      unfold eqR
      by_cases e : x = m
      · rw [e, upd_same, if_pos rfl]
      · rw [upd_ne _ _ _ _ e, hw x hx, if_neg e]
    refine ⟨_, _, app_old hs, rfl, ?_⟩
    refine ⟨_, rfl, ?_⟩
    refine ⟨_, spn_app (x := .sl H.length 0 (m + 1) (m + 1)) (hra.fr (l := []) (Ext.app.trans Ext.app).fr (by simp)) ⟨false, _, get_new, by simp, rfl⟩ (by have := hR.1; omega) (by omega), ?_⟩
    rintro a51 G51 ⟨hp51, hf51, hb51, hl51⟩
    obtain ⟨hs51, hS51, hF51⟩ := sy_add hs hra hR hpa hnd hge hm0 (Ext.app.trans Ext.app) (hx.ext Ext.app) hp51 hf51 (app_hb hb51)
    refine ⟨_, _, _, hs51, cput_rw (by simp) hp51.cell, eqBk_rfl, ?_⟩
    exact ⟨rfl, hS51, hF51.upto fun k hk => hge k (by simp only [List.mem_cons] at hk; rcases hk with h | h <;> simp [OwnT, h])⟩

end Hf
namespace Hf
open Go Classical
section
variable {W W' n : Nat} {p : Int}
theorem RR.up (hW : W ≤ W') {L : List By} (h : RR W p L) : RR W' p L := by
  have hf : ∀ v ∈ L, fstW W' v = fstW W v := fun v hv => fstW_w hW (h.vp v hv).2 (h.nz hv)
  refine ⟨fun v hv => (h.vp v hv).mono hW, fun r hr => ?_, ?_⟩
  · have := h.ld r hr
    rw [hf r hr]
    exact ⟨by omega, this.2⟩
  · refine List.Pairwise.imp_of_mem ?_ h.st
    intro a b ha hb hab
    rw [hf a ha, hf b hb]
    exact hab
theorem SpE.up (hp : 1 ≤ p) (hp2 : p ≤ 256) (hW : W ≤ W') {A B : List By} (hA : ∀ v ∈ A, Vp W p v) (hB : ∀ v ∈ B, Vp W p v) (h : SpE W p A B) : SpE W' p A B :=
  fun v => ⟨fun q => ((h v).1 (q.w1 hp hp2 hW hA)).w2 hp hp2 hW hB, fun q => ((h v).2 (q.w1 hp hp2 hW hB)).w2 hp hp2 hW hA⟩
end
theorem SY.ext {m0 : Nat} {H G : List Blk} {s m : Nat} {p n0 : Int} {R : List By} {T : List Int} (h : SY m0 H s p n0 m R T) (e : Ext H G) : SY m0 G s p n0 m R T := by
  obtain ⟨ra, As, pa, hs, hra, hR, hpa, hnd, hge⟩ := h
  exact ⟨ra, As, pa, e _ _ hs, hra.fr (l := []) e.fr (by simp), hR.fr (l := []) e.fr (by simp), hpa.fr (l := []) e.fr (by simp), hnd, hge⟩
theorem eqR_vec {m : Nat} {p : Int} {X : Nat → Int} : eqR m p ((List.range m).map X) 0 = vec m p X := by
  funext x
  unfold eqR vec
  by_cases h : x < m
  · rw [if_neg (by omega), if_pos (by simpa using h), if_pos h]
    simp [List.getD_eq_getElem?_getD, h]
  · rw [if_neg h]
    split
    · rw [Int.zero_emod]; rfl
    · rw [if_neg (by simp; omega)]
end Hf
namespace Hf
open Go Classical
variable {P : Program} {ρ : Nat → FuncId}
/-- a slice whose block is none of the first m, or that is full -/
def VF (m : Nat) (H : List Blk) (a : At) (L : List By) : Prop :=
  ∃ k off cap N f, a = .sl k off L.length cap ∧ H[k]? = some ⟨false, .by [] N f⟩ ∧ (off + cap * 8 ≤ N ∧ L.length ≤ cap ∧ (m ≤ k ∨ L.length = cap)) ∧ ∀ i x, i < L.length → x < 8 → f (off + i * 8 + x) = (L.getD i z0) x
theorem VF.ext {m : Nat} {H H' : List Blk} {a : At} {L : List By} (h : VF m H a L) (e : Ext H H') : VF m H' a L := by
  obtain ⟨k, off, cap, N, f, h1, h2, h3, h4⟩ := h
  exact ⟨k, off, cap, N, f, h1, e k _ h2, h3, h4⟩
theorem VF.nil {m : Nat} {H : List Blk} {f : By} : VF m (H ++ [⟨false, .by [] (0 * 8) f⟩]) (.sl H.length 0 0 0) [] :=
  ⟨H.length, 0, 0, _, f, rfl, get_new, ⟨by omega, by simp, .inr rfl⟩, fun i x h => by simp at h⟩
end Hf
namespace Hf
open Go Classical
variable {P : Program} {ρ : Nat → FuncId}
theorem oc_0 {q : Prop} (h : oc q 1 = 0) : q := by
  apply Classical.byContradiction
  intro hq
  rw [oc_f hq] at h
  cases h
end Hf
namespace Hf
open Go Classical
variable {P : Program} {ρ : Nat → FuncId}
def IQ (p n d : Int) (g f : By) : Prop := Hop p n f ∧ Mod p n.toNat d g f
end Hf
namespace Hf
open Go Classical
variable {P : Program} {ρ : Nat → FuncId}
/-- a module and vectors of it -/
def SQ (p n d : Int) (g f : By) (L : List By) : Prop := IQ p n d g f ∧ ∀ v ∈ L, Vec p d v 0
theorem SQ.vp {p n : Int} {d : Nat} {g f : By} {L : List By} (h : SQ p n d g f L) (hz : ∀ v ∈ L, ∀ x, 8 ≤ x → v x = 0) : ∀ v ∈ L, Vp d p v := by
  intro v hv
  have hp2 := h.1.1.1.1.1.1
  have hd : d ≤ 8 := by have := h.1.2.1.1.2.2; omega
  refine ⟨fun x => ?_, fun x hx => ?_⟩
  · rcases Nat.lt_or_ge x 8 with h8 | h8
    · have := (h.2 v hv x h8).1; rwa [Nat.zero_add] at this
    · rw [bz_eq0.2 (hz v hv x h8)]; omega
  · rcases Nat.lt_or_ge x 8 with h8 | h8
    · have := (h.2 v hv x h8).2 (by omega)
      rw [Nat.zero_add] at this
      exact bz_eq0.1 this
    · exact hz v hv x h8
end Hf
namespace Hf
open Go Classical
variable {P : Program} {ρ : Nat → FuncId}
/-- a list that the input brings along: its block may hold other things too -/
def VA (H : List Blk) (a : At) (L : List By) : Prop :=
  (a = .sn ∧ L = []) ∨ ∃ k off cap r cs fz, a = .sl k off L.length cap ∧ H[k]? = some ⟨r, .fo cs fz⟩ ∧ ∀ i x, i < L.length → x < 8 → cs[off + i * 8 + x]? = some (.int .u8 ((((L.getD i z0) x).toNat : Nat) : Int))
theorem VA.ext {H H' : List Blk} {a : At} {L : List By} (h : VA H a L) (e : Ext H H') : VA H' a L := by
  rcases h with h | ⟨k, off, cap, r, cs, fz, h1, h2, h3⟩
  · exact .inl h
  · exact .inr ⟨k, off, cap, r, cs, fz, h1, e k _ h2, h3⟩
theorem VA.lt {H : List Blk} {a : At} {L : List By} (h : VA H a L) : a.lt H.length = true := by
  rcases h with ⟨rfl, -⟩ | ⟨k, off, cap, r, cs, fz, rfl, h2, h3⟩
  · rfl
  · simp [At.lt, lt_of h2]
theorem VA.len {H : List Blk} {a : At} {L : List By} (h : VA H a L) : lenA a = some L.length := by
  rcases h with ⟨rfl, rfl⟩ | ⟨k, off, cap, r, cs, fz, rfl, -⟩ <;> rfl
theorem VA.at {H : List Blk} {a : At} {L : List By} (h : VA H a L) (i : Nat) (hi : i < L.length) :
    ∃ k off len cap q, a = .sl k off len cap ∧ i < len ∧ off + i * 8 = q ∧ ∃ r cs fz, H[k]? = some ⟨r, .fo cs fz⟩ ∧ ∀ y, y < 8 → cs[q + y]? = some (.int .u8 ((((L.getD i z0) y).toNat : Nat) : Int)) := by
  rcases h with ⟨rfl, rfl⟩ | ⟨k, off, cap, r, cs, fz, rfl, h2, h3⟩
  · simp at hi
  · exact ⟨k, off, L.length, cap, off + i * 8, rfl, hi, rfl, r, cs, fz, h2, fun y hy => h3 i y hi hy⟩
/-- room behind a list of n -/
def room (n : Nat) : Nat := if n % 6 = 5 then 0 else if n % 3 = 0 then 1 else n
def v201 : By := fun x => if x = 0 then 201 else 0
/-- a list and what stands behind it -/
def extL (L : List By) : List By := L ++ List.replicate (room L.length) v201
/-- an argument as the laws lay it: from the m-th block on, and room behind it -/
def VT (m : Nat) (H : List Blk) (a : At) (L : List By) : Prop :=
  ∃ k f, a = .sl k 0 L.length (L.length + room L.length) ∧ H[k]? = some ⟨false, .by [] ((L.length + room L.length) * 8) f⟩ ∧ m ≤ k ∧ ∀ i x, i < L.length + room L.length → x < 8 → f (i * 8 + x) = ((extL L).getD i z0) x
theorem VT.ext {m : Nat} {H H' : List Blk} {a : At} {L : List By} (h : VT m H a L) (e : Ext H H') : VT m H' a L := by
  obtain ⟨k, f, rfl, h2, h3, h4⟩ := h
  exact ⟨k, f, rfl, e _ _ h2, h3, h4⟩
end Hf
namespace Hf
open Go Classical
section
variable {W n : Nat} {p : Int}
def dt (n : Nat) (u v : By) : Int := sm n fun i => bz u i * bz v i
theorem dt_add (hp : 1 ≤ p) (hp2 : p ≤ 256) (hn : n ≤ W) {r u w : By} {k : Int} : cg p (dt n r (addW W p u w k)) (dt n r u + k * dt n r w) := by
  refine (cg_sm (y := fun i => bz r i * bz u i + k * (bz r i * bz w i)) fun i hi => (cg_mul cg.rfl' (cg_add' hp hp2 (by omega))).trans (cg_of_eq (by grind))).trans (cg_of_eq ?_)
  rw [sm_add, sm_mul]; rfl
theorem dt_add' (hp : 1 ≤ p) (hp2 : p ≤ 256) (hn : n ≤ W) {r u w : By} {k : Int} : cg p (dt n (addW W p u w k) r) (dt n u r + k * dt n w r) := by
  refine (cg_sm (y := fun i => bz u i * bz r i + k * (bz w i * bz r i)) fun i hi => (cg_mul (cg_add' hp hp2 (by omega)) cg.rfl').trans (cg_of_eq (by grind))).trans (cg_of_eq ?_)
  rw [sm_add, sm_mul]; rfl
theorem dt_z {r : By} : dt n r z0 = 0 := sm_zero fun i _ => by rw [bz_z0, Int.mul_zero]
theorem dt_z' {r : By} : dt n z0 r = 0 := sm_zero fun i _ => by rw [bz_z0, Int.zero_mul]
/-- a solution of the equations E -/
def KerD (n : Nat) (p : Int) (E : List By) (v : By) : Prop := Vp n p v ∧ ∀ e ∈ E, cg p (dt n e v) 0
theorem KerD.sp (hp : 1 ≤ p) (hp2 : p ≤ 256) (hn : n ≤ W) {E : List By} {v : By} (h : KerD n p E v) {u : By} (hu : Sp' W p E u) : cg p (dt n u v) 0 := by
  induction hu with
  | z => rw [dt_z']; rfl
  | a h1 h2 ih =>
    refine (dt_add' hp hp2 hn).trans ((cg_add ih (cg_mul cg.rfl' (h.2 _ h2))).trans (cg_of_eq (by simp)))
theorem KerD.add (hp : 1 ≤ p) (hp2 : p ≤ 256) {E : List By} {u w : By} {k : Int} (hu : KerD n p E u) (hw : KerD n p E w) : KerD n p E (addW n p u w k) :=
  ⟨Vp.add hp hp2, fun e he => (dt_add hp hp2 (Nat.le_refl _)).trans ((cg_add (hu.2 e he) (cg_mul cg.rfl' (hw.2 e he))).trans (cg_of_eq (by simp)))⟩
theorem KerD.z (hp : 1 ≤ p) {E : List By} : KerD n p E z0 := ⟨Vp.z hp, fun e _ => by rw [dt_z]; rfl⟩
theorem KerD.of (hp : 1 ≤ p) (hp2 : p ≤ 256) (hn : n ≤ W) {E L : List By} (h : ∀ u ∈ L, KerD n p E u) {v : By} (hv : Sp' W p L v) : KerD n p E v := by
  induction hv with
  | z => exact .z hp
  | a h1 h2 ih => rw [addW_w hn ih.1 (h _ h2).1]; exact ih.add hp hp2 (h _ h2)

end
end Hf
namespace Hf
open Go Classical
section
variable {p : Int}
/-- the first entries are 1, and the later ones have 0 there -/
structure HR (W : Nat) (p : Int) (L : List By) : Prop where
  vp : ∀ r ∈ L, Vp W p r
  ld : ∀ r ∈ L, fstW W r < W ∧ r (fstW W r) = 1
  st : L.Pairwise fun a b => b (fstW W a) = 0
variable {W : Nat}
theorem HR.tl {r : By} {L : List By} (h : HR W p (r :: L)) : HR W p L := ⟨fun q hq => h.vp q (by simp [hq]), fun q hq => h.ld q (by simp [hq]), (List.pairwise_cons.1 h.st).2⟩
theorem byW1_self (hp : 1 ≤ p) (hp2 : p ≤ 256) {r : By} (hv : Vp W p r) (h1 : r (fstW W r) = 1) : byW1 W p r r = z0 := by
  rw [byW1_add hp hp2 hv]
  refine (Vp.add hp hp2).ext (Vp.z hp) fun x hx => (cg_add' hp hp2 hx).trans (cg_of_eq ?_)
  rw [one_bz h1, bz_z0]; omega
theorem byW1_at (hp : 1 ≤ p) (hp2 : p ≤ 256) {v r : By} {y : Nat} (hv : Vp W p v) (h : r y = 0) : byW1 W p v r y = v y := by
  rw [byW1_add hp hp2 hv]
  by_cases hy : y < W
  · apply bz_inj
    show bz _ y = bz v y
    rw [bz_add hp hp2 hy, bz_eq0.2 h, Int.mul_zero, Int.add_zero]
    have := hv.1 y
    exact Int.emod_eq_of_lt (by unfold bz; omega) this
  · rw [(Vp.add hp hp2).2 y (by omega), hv.2 y (by omega)]
theorem byW1_lead (hp : 1 ≤ p) (hp2 : p ≤ 256) {v r : By} (hv : Vp W p v) (hr : fstW W r < W ∧ r (fstW W r) = 1) : byW1 W p v r (fstW W r) = 0 := by
  rw [byW1_add hp hp2 hv]
  apply bz_eq0.1
  rw [bz_add hp hp2 hr.1, one_bz hr.2, Int.mul_one, Int.add_right_neg]
  exact Int.zero_emod p
theorem byW_at (hp : 1 ≤ p) (hp2 : p ≤ 256) {y : Nat} : ∀ {L : List By} {v : By}, Vp W p v → (∀ r ∈ L, r y = 0) → byW W p v L y = v y
  | [], _, _, _ => rfl
  | r :: L, v, hv, h => by
    show byW W p (byW1 W p v r) L y = v y
    rw [byW_at hp hp2 (byW1_vp hp hp2 hv) fun q hq => h q (by simp [hq]), byW1_at hp hp2 hv (h r (by simp))]
theorem HR.left (hp : 1 ≤ p) (hp2 : p ≤ 256) : ∀ {L : List By} {v : By}, HR W p L → Vp W p v → ∀ r ∈ L, byW W p v L (fstW W r) = 0
  | [], _, _, _, r, hr => by simp at hr
  | q :: L, v, h, hv, r, hr => by
    show byW W p (byW1 W p v q) L (fstW W r) = 0
    rcases List.mem_cons.1 hr with rfl | hr
    · rw [byW_at hp hp2 (byW1_vp hp hp2 hv) (List.pairwise_cons.1 h.st).1]
      exact byW1_lead hp hp2 hv (h.ld r (by simp))
    · exact h.tl.left hp hp2 (byW1_vp hp hp2 hv) r hr
theorem HR.kill (hp : 1 ≤ p) (hp2 : p ≤ 256) : ∀ {L : List By}, HR W p L → ∀ w ∈ L, byW W p w L = z0
  | [], _, w, hw => by simp at hw
  | q :: L, h, w, hw => by
    show byW W p (byW1 W p w q) L = z0
    rcases List.mem_cons.1 hw with rfl | hw
    · rw [byW1_self hp hp2 (h.vp w (by simp)) (h.ld w (by simp)).2]
      exact byW_fix fun r _ => rfl
    · have e : byW1 W p w q = w := by unfold byW1; rw [if_pos ((List.pairwise_cons.1 h.st).1 w hw)]
      rw [e]; exact h.tl.kill hp hp2 w hw
theorem SpE.one (hp : 1 ≤ p) (hp2 : p ≤ 256) {A B : List By} {u w : By} {k l : Int} (hAB : SpE W p A B) (hA : ∀ a ∈ A, Vp W p a) (hB : ∀ a ∈ B, Vp W p a) (hu : Vp W p u) (hw : Vp W p w) {s s' : By} (hs : Sp' W p A s) (hs' : Sp' W p A s') (h1 : w = addW W p s u k) (h2 : u = addW W p s' w l) :
    SpE W p (A ++ [w]) (B ++ [u]) := by
  have subA : ∀ {C : List By} {v : By}, Sp' W p A v → Sp' W p (A ++ C) v := fun h => h.sub hp hp2 fun r hr => .mem hp hp2 (List.mem_append_left _ hr) (hA r hr)
  have subB : ∀ {C : List By} {v : By}, Sp' W p B v → Sp' W p (B ++ C) v := fun h => h.sub hp hp2 fun r hr => .mem hp hp2 (List.mem_append_left _ hr) (hB r hr)
  refine SpE.of hp hp2 (fun r hr => ?_) (fun r hr => ?_)
  · rcases List.mem_append.1 hr with h | h
    · exact subB ((hAB r).1 (.mem hp hp2 h (hA r h)))
    · rw [List.mem_singleton.1 h, h1]
      exact (subB ((hAB s).1 hs)).add hp hp2 (.mem hp hp2 (by simp) hu)
  · rcases List.mem_append.1 hr with h | h
    · exact subA ((hAB r).2 (.mem hp hp2 h (hB r h)))
    · rw [List.mem_singleton.1 h, h2]
      exact (subA hs').add hp hp2 (.mem hp hp2 (by simp) hw)
theorem Sp'.congr {A B : List By} (h : ∀ r, r ∈ A ↔ r ∈ B) : SpE W p A B := by
  have one : ∀ {A B : List By}, (∀ r, r ∈ A → r ∈ B) → ∀ v, Sp' W p A v → Sp' W p B v := by
    intro A B h v hv
    induction hv with
    | z => exact .z
    | a h1 h2 ih => exact .a ih (h _ h2)
  exact fun v => ⟨one (fun r => (h r).1) v, one (fun r => (h r).2) v⟩

/-! ### what is left over are the solutions -/
theorem HR.app (hp : 1 ≤ p) (hp2 : p ≤ 256) {V Z : List By} (h : HR W p V) (hz : ∀ z ∈ Z, Vp W p z ∧ ∀ r ∈ V, z (fstW W r) = 0) {u : By} (hu : Sp' W p (V ++ Z) u) : Sp' W p Z (byW W p u V) := by
  have hv : ∀ w ∈ V ++ Z, Vp W p w := by
    intro w hw
    rcases List.mem_append.1 hw with h' | h'
    · exact h.vp w h'
    · exact (hz w h').1
  induction hu with
  | z => rw [byW_fix fun r _ => rfl]; exact .z
  | a h1 h2 ih =>
    rename_i u w k
    rw [byW_lin hp hp2 (fun r hr => (h.ld r hr).1) (h1.vp hp hp2) (hv _ h2)]
    rcases List.mem_append.1 h2 with h' | h'
    · rw [h.kill hp hp2 _ h', add_z hp hp2 (byW_vp hp hp2 (h1.vp hp hp2))]; exact ih
    · rw [byW_fix fun r hr => (hz _ h').2 r hr]; exact .a ih h'
end
end Hf
namespace Hf
open Go Classical
section
variable {p : Int} {n d : Nat} {g f : By}
end
theorem nodup_sub : ∀ {A B : List Nat}, A.Nodup → (∀ x ∈ A, x ∈ B) → A.length ≤ B.length ∧ (A.length = B.length → ∀ x ∈ B, x ∈ A)
  | [], B, _, _ => ⟨Nat.zero_le _, fun h x hx => by
    have : B = [] := List.length_eq_zero_iff.1 h.symm
    subst this; cases hx⟩
  | a :: A, B, hn, hs => by
    obtain ⟨h1, h2⟩ := List.nodup_cons.1 hn
    have ha : a ∈ B := hs a (by simp)
    have hle := List.length_erase_of_mem ha
    have hpos : 0 < B.length := List.length_pos_of_mem ha
    obtain ⟨q1, q2⟩ := nodup_sub (A := A) (B := B.erase a) h2 fun x hx => (List.mem_erase_of_ne (by rintro rfl; exact h1 hx)).2 (hs x (by simp [hx]))
    refine ⟨by simp only [List.length_cons]; omega, fun h x hx => ?_⟩
    by_cases e : x = a
    · subst e; simp
    · exact List.mem_cons_of_mem _ (q2 (by simp only [List.length_cons] at h; omega) x ((List.mem_erase_of_ne e).2 hx))
section
variable {p : Int}
/-- a space of the same size that lies in another one -/
theorem RR.same (hp1 : 1 ≤ p) (hp2 : p ≤ 256) {A B : List By} (hA : RR 8 p A) (hB : RR 8 p B) (h : ∀ u ∈ A, Sp' 8 p B u) : A.length ≤ B.length ∧ (A.length = B.length → SpE 8 p A B) := by
  have nA : (A.map (fstW 8)).Nodup := by
    rw [List.nodup_iff_pairwise_ne, List.pairwise_map]
    exact hA.sorted.imp fun h => Nat.ne_of_lt h
  have sub : ∀ x ∈ A.map (fstW 8), x ∈ B.map (fstW 8) := by
    intro x hx
    obtain ⟨u, hu, rfl⟩ := List.mem_map.1 hx
    obtain ⟨b, hb, e⟩ := hB.lead hp1 hp2 (h u hu) (hA.nz hu)
    exact List.mem_map.2 ⟨b, hb, e⟩
  obtain ⟨q1, q2⟩ := nodup_sub nA sub
  simp only [List.length_map] at q1 q2
  refine ⟨q1, fun e => SpE.of hp1 hp2 h fun b hb => ?_⟩
  have hbv := hB.vp b hb
  refine (hA.in_iff hp1 hp2 hbv).2 ?_
  apply Classical.byContradiction
  intro hn
  obtain ⟨s, m1, m2, m3⟩ := byW_sp hp1 hp2 (L := A) (M := A) (v := b) (fun _ h => h) hbv
  have hr : Sp' 8 p B (byW 8 p b A) := by
    rw [m3]
    exact (Sp'.mem hp1 hp2 hb hbv).add hp1 hp2 (m1.sub hp1 hp2 h)
  obtain ⟨c, hc, e2⟩ := hB.lead hp1 hp2 hr hn
  have hcA := q2 e _ (List.mem_map.2 ⟨c, hc, rfl⟩)
  obtain ⟨a, ha, e3⟩ := List.mem_map.1 hcA
  have h0 := hA.left hp1 hp2 hbv a ha
  have hl : fstW 8 (byW 8 p b A) < 8 := by rw [← e2, ← e3]; exact hA.fs a ha
  have := fstW_ne (W := 8) hl
  rw [e3, e2] at h0
  exact this h0
end
end Hf
namespace Hf
open Go Classical
section
variable {W : Nat} {p : Int}
theorem Sp'.at0 (hp : 1 ≤ p) (hp2 : p ≤ 256) {L : List By} {y : Nat} (h : ∀ r ∈ L, r y = 0) {v : By} (hv : Sp' W p L v) : v y = 0 := by
  induction hv with
  | z => rfl
  | a q1 q2 ih =>
    rename_i u w k
    by_cases hy : y < W
    · refine bz_eq0.1 ?_
      rw [bz_add hp hp2 hy, bz_eq0.2 ih, bz_eq0.2 (h _ q2)]; simp
    · exact (Vp.add hp hp2).2 y (by omega)
theorem add_add (hp : 1 ≤ p) (hp2 : p ≤ 256) {u e : By} {a b : Int} : addW W p (addW W p u e a) e b = addW W p u e (a + b) := by
  refine (Vp.add hp hp2).ext (Vp.add hp hp2) fun x hx => ?_
  refine (cg_add' hp hp2 hx).trans ?_
  refine (cg_add (cg_add' hp hp2 hx) cg.rfl').trans ?_
  refine cg.trans ?_ (cg_add' hp hp2 hx).symm
  exact cg_of_eq (by grind)
theorem sp_cons (hp : 1 ≤ p) (hp2 : p ≤ 256) {e : By} {E : List By} {v : By} (h : Sp' W p (e :: E) v) : ∃ u k, Sp' W p E u ∧ v = addW W p u e k := by
  induction h with
  | z => exact ⟨z0, 0, .z, (add_0 hp hp2 (Vp.z hp)).symm⟩
  | a q1 q2 ih =>
    rename_i u w k
    obtain ⟨u', k', hu', rfl⟩ := ih
    rcases List.mem_cons.1 q2 with rfl | q2
    · exact ⟨u', k' + k, hu', add_add hp hp2⟩
    · exact ⟨addW W p u' w k, k', .a hu' q2, add_comm' hp hp2⟩
theorem pr_0 (hp : Pr p) {a : UInt8} (ha : a ≠ 0) (ha2 : (a.toNat : Int) < p) {k : Int} (h : cg p (k * (a.toNat : Int)) 0) : cg p k 0 := by
  obtain ⟨-, h1⟩ := inv_ok hp ha ha2
  have hp2 := hp.1
  have e : cg p (((invN p a : Nat) : Int) * (a.toNat : Int)) 1 := by
    unfold cg; rw [h1, Int.emod_eq_of_lt (by omega) (by omega)]
  have q : cg p (k * (((invN p a : Nat) : Int) * (a.toNat : Int))) (k * 1) := cg_mul cg.rfl' e
  have q2 : cg p (((invN p a : Nat) : Int) * (k * (a.toNat : Int))) (((invN p a : Nat) : Int) * 0) := cg_mul cg.rfl' h
  refine (cg_of_eq (by grind)).trans (q.symm.trans ((cg_of_eq (by grind)).trans (q2.trans (cg_of_eq (by grind)))))
/-- rows in steps -/
structure Ech (W : Nat) (p : Int) (E : List By) : Prop where
  vp : ∀ e ∈ E, Vp W p e
  ld : ∀ e ∈ E, fstW W e < W
  st : E.Pairwise fun a b => fstW W a < fstW W b
theorem Ech.lead (hp : Pr p) : ∀ {E : List By}, Ech W p E → ∀ {v : By}, Sp' W p E v → v ≠ z0 → ∃ e ∈ E, fstW W e = fstW W v
  | [], _, v, hv, hn => by
    cases hv with
    | z => exact absurd rfl hn
    | a _ h => cases h
  | e :: E, h, v, hv, hn => by
    have hp1 := hp.1
    have hp2 := hp.2.1
    obtain ⟨u, k, hu, rfl⟩ := sp_cons (by omega) (by omega) hv
    have hE : Ech W p E := ⟨fun x hx => h.vp x (List.mem_cons_of_mem _ hx), fun x hx => h.ld x (List.mem_cons_of_mem _ hx), (List.pairwise_cons.1 h.st).2⟩
    have hgt := (List.pairwise_cons.1 h.st).1
    have hu0 : ∀ y, y ≤ fstW W e → u y = 0 := fun y hy => Sp'.at0 (by omega) (by omega) (fun r hr => fstW_lt (W := W) (by have := hgt r hr; omega)) hu
    have hl := h.ld e (by simp)
    have hev := h.vp e (by simp)
    by_cases q : cg p k 0
    · have e1 : addW W p u e k = u := (Vp.add (by omega) (by omega)).ext (hu.vp (by omega) (by omega)) fun x hx =>
        (cg_add' (by omega) (by omega) hx).trans ((cg_add cg.rfl' (cg_mul q cg.rfl')).trans (cg_of_eq (by grind)))
      rw [e1] at hn ⊢
      obtain ⟨b, hb, hb2⟩ := hE.lead hp hu hn
      exact ⟨b, List.mem_cons_of_mem _ hb, hb2⟩
    · refine ⟨e, by simp, (fstW_eq hl ?_ fun y hy => ?_).symm⟩
      · intro h0
        refine q (pr_0 hp (fstW_ne hl) (hev.1 _) ?_)
        have := cg_add' (W := W) (v := u) (w := e) (k := k) (by omega : 1 ≤ p) (by omega) hl
        rw [bz_eq0.2 h0, bz_eq0.2 (hu0 _ (Nat.le_refl _)), Int.zero_add] at this
        exact this.symm
      · refine bz_eq0.1 ?_
        rw [bz_add (by omega) (by omega) (by omega), bz_eq0.2 (hu0 y (by omega)), bz_eq0.2 (fstW_lt hy)]; simp
theorem ech_le (hp : Pr p) {A B : List By} (hA : A.Pairwise fun a b => fstW W a < fstW W b) (hB : B.Pairwise fun a b => fstW W a < fstW W b) (h : ∀ a ∈ A, ∃ b ∈ B, fstW W b = fstW W a) : A.length ≤ B.length := by
  have nd : ∀ {L : List By}, L.Pairwise (fun a b => fstW W a < fstW W b) → (L.map (fstW W)).Nodup := fun h => by
    rw [List.Nodup, List.pairwise_map]
    exact h.imp fun h => by omega
  have hs : (A.map (fstW W)).length ≤ (B.map (fstW W)).length := (nodup_sub (nd hA) fun x hx => by
    obtain ⟨a, ha, rfl⟩ := List.mem_map.1 hx
    obtain ⟨b, hb, e⟩ := h a ha
    rw [← e]; exact List.mem_map_of_mem hb).1
  simpa using hs
/-- rows in steps are as many as the reduced rows of their space -/
theorem Ech.len (hp : Pr p) {E B : List By} (hE : Ech W p E) (hB : RR W p B) (h : SpE W p E B) : E.length = B.length := by
  have hp1 := hp.1
  have hp2 := hp.2.1
  have hBs : B.Pairwise fun a b => fstW W a < fstW W b := hB.st.imp fun h => h.1
  have nz : ∀ {v : By}, fstW W v < W → v ≠ z0 := fun hv e => fstW_ne hv (by rw [e]; rfl)
  refine Nat.le_antisymm (ech_le hp hE.st hBs fun a ha => ?_) (ech_le hp hBs hE.st fun b hb => ?_)
  · exact hB.lead (by omega) (by omega) ((h a).1 (.mem (by omega) (by omega) ha (hE.vp a ha))) (nz (hE.ld a ha))
  · exact hE.lead hp ((h b).2 (.mem (by omega) (by omega) hb (hB.vp b hb))) (nz (hB.ld b hb).1)
end
end Hf
