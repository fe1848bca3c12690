/- Contracts of the functions that the law reaches. -/
import Derived.Test.YtikaiaiinfoknaaGreatC1
set_option linter.unusedVariables false
set_option linter.unusedSimpArgs false
namespace Hf
open Go Classical
variable {P : Program} {ρ : Nat → FuncId}
theorem byt_mod_inj {p a b : Int} (hp : 1 ≤ p) (hp2 : p ≤ 256) (h : byt (a % p) = byt (b % p)) : a % p = b % p := by
  have h1 := byt_toNat (a % p)
  have h2 := byt_toNat (b % p)
  rw [h] at h1
  have := Int.emod_nonneg a (show p ≠ 0 by omega)
  have := Int.emod_lt_of_pos a (show 0 < p by omega)
  have := Int.emod_nonneg b (show p ≠ 0 by omega)
  have := Int.emod_lt_of_pos b (show 0 < p by omega)
  omega

theorem s_l02Sums_ok (B : Bs P ρ) (E : E_s_l02Sums P ρ) {n : Nat} {p : Int} {f : By} {i j k l : Nat} (hp : 1 ≤ p) (hp2 : p ≤ 256) (hn : n ≤ 8) (hi : i < 8) (hj : j < 8) (hk : k < 8) (hl : l < 8) :
    CallOK P ρ 115 [.ag [p, (n : Int)] 522 f, .i .i64 (i : Int), .i .i64 (j : Int), .i .i64 (k : Int), .i .i64 (l : Int)] [] (.tup [.u (byt (coL n f i j k l % p)), .u (byt (coR n f i j k l % p))]) [] := by
  refine call_of_vc B.fn B.mo E.1 rfl rfl ?_
  refine ⟨0, rfl, ?_⟩
  refine .inl ⟨(fun a1 a2 a3 a4 b0 i0 => St.mk [(1, a1), (2, a2), (3, a3), (4, a4), (5, .one (.pt 0 0)), (12, .one (.i .i64 (coL i0 f i j k l))), (13, .one (.i .i64 (coR i0 f i j k l))), (14, .one (.i .i64 ((i0 : Nat) : Int)))] [b0]) _ _ _ _ _ , fun i0 => True, n, trivial, ⟨⟨rfl, rfl, rfl, rfl, rfl, rfl, rfl, rfl, trivial⟩, ⟨rfl, trivial⟩, rfl⟩, fun i0 hi0 _ => ?_⟩
  have q1 := bz2 f f (10 + i * 64 + i0 * 8 + l) (10 + i0 * 64 + j * 8 + k)
  have q2 := bz2 f f (10 + i * 64 + j * 8 + i0) (10 + i0 * 64 + k * 8 + l)
  have q3 := coL_bd (m := i0) (f := f) (i := i) (j := j) (k := k) (l := l)
  have q4 := coR_bd (m := i0) (f := f) (i := i) (j := j) (k := k) (l := l)
  refine ⟨fun h18 => ?_, fun h18 => ?_⟩
  · replace h18 := of_decide_eq_true h18
    refine ⟨i, 10 + i * 64, rfl, by omega, by omega, ?_⟩
    refine ⟨i0, 10 + i * 64 + i0 * 8, rfl, by omega, by omega, ?_⟩
    refine ⟨l, 10 + i * 64 + i0 * 8 + l, rfl, by omega, by omega, ?_⟩
    refine ⟨⟨by first | omega | (simp <;> omega), by first | omega | (simp <;> omega)⟩, ?_⟩
    refine ⟨i0, 10 + i0 * 64, rfl, by omega, by omega, ?_⟩
    refine ⟨j, 10 + i0 * 64 + j * 8, rfl, by omega, by omega, ?_⟩
    refine ⟨k, 10 + i0 * 64 + j * 8 + k, rfl, by omega, by omega, ?_⟩
    refine ⟨⟨by first | omega | (simp <;> omega), by first | omega | (simp <;> omega)⟩, ?_⟩
    refine ⟨bz f (10 + i * 64 + i0 * 8 + l) * bz f (10 + i0 * 64 + j * 8 + k), w64_id (bz f (10 + i * 64 + i0 * 8 + l) * bz f (10 + i0 * 64 + j * 8 + k)) (by omega) (by omega), ?_⟩
    refine ⟨coL i0 f i j k l + bz f (10 + i * 64 + i0 * 8 + l) * bz f (10 + i0 * 64 + j * 8 + k), w64_id (coL i0 f i j k l + bz f (10 + i * 64 + i0 * 8 + l) * bz f (10 + i0 * 64 + j * 8 + k)) (by omega) (by omega), ?_⟩
    refine ⟨i, 10 + i * 64, rfl, by omega, by omega, ?_⟩
    refine ⟨j, 10 + i * 64 + j * 8, rfl, by omega, by omega, ?_⟩
    refine ⟨i0, 10 + i * 64 + j * 8 + i0, rfl, by omega, by omega, ?_⟩
    refine ⟨⟨by first | omega | (simp <;> omega), by first | omega | (simp <;> omega)⟩, ?_⟩
    refine ⟨i0, 10 + i0 * 64, rfl, by omega, by omega, ?_⟩
    refine ⟨k, 10 + i0 * 64 + k * 8, rfl, by omega, by omega, ?_⟩
    refine ⟨l, 10 + i0 * 64 + k * 8 + l, rfl, by omega, by omega, ?_⟩
    refine ⟨⟨by first | omega | (simp <;> omega), by first | omega | (simp <;> omega)⟩, ?_⟩
    refine ⟨bz f (10 + i * 64 + j * 8 + i0) * bz f (10 + i0 * 64 + k * 8 + l), w64_id (bz f (10 + i * 64 + j * 8 + i0) * bz f (10 + i0 * 64 + k * 8 + l)) (by omega) (by omega), ?_⟩
    refine ⟨coR i0 f i j k l + bz f (10 + i * 64 + j * 8 + i0) * bz f (10 + i0 * 64 + k * 8 + l), w64_id (coR i0 f i j k l + bz f (10 + i * 64 + j * 8 + i0) * bz f (10 + i0 * 64 + k * 8 + l)) (by omega) (by omega), ?_⟩
    refine ⟨((i0 + 1 : Nat) : Int), w64_id _ (by omega) (by omega), ?_⟩
    exact ⟨by omega, trivial, ⟨rfl, rfl, rfl, rfl, rfl, rfl, rfl, rfl, trivial⟩, ⟨rfl, trivial⟩, rfl⟩
  · replace h18 := of_decide_eq_false h18
    have e0 : n = i0 := by omega
    subst e0
    refine ⟨1, [], _, _, _, _, [_], rfl, s_l01Mod_ok B E.2 hp (by omega), rfl, trivial, rfl, rfl, rfl, ?_⟩
    refine .inl ⟨1, [], _, _, _, _, [_], rfl, s_l01Mod_ok B E.2 hp (by omega), rfl, trivial, rfl, rfl, ?_⟩
    exact ⟨rfl, [], rfl, rfl, trivial, rfl, rfl⟩

theorem s_l02Fault_t_ok (B : Bs P ρ) (E : E_s_l02Fault P ρ) {n : Nat} {p : Int} {f : By} (hp : 1 ≤ p) (hp2 : p ≤ 256) (hn : n ≤ 8) (hA : ∀ t : Nat, t < n * n * n * n → CoaT p n f t) :
    CallOK P ρ 99 [.ag [p, (n : Int)] 522 f] [] (.tup [.sn, .b false]) [] := by
  refine call_of_vc B.fn B.mo E.1 rfl rfl ?_
  have hpw := pw hn
  refine ⟨0, rfl, ?_⟩
  refine .inl ⟨(fun a4 b0 i0 => St.mk [(1, .one (.pt 0 0)), (4, a4), (5, .one (.i .i64 ((i0 : Nat) : Int)))] [b0]) _ _ , fun i0 => True, n * n * n * n, trivial, ⟨⟨rfl, rfl, rfl, trivial⟩, ⟨rfl, trivial⟩, rfl⟩, fun i0 hi0 _ => ?_⟩
  refine ⟨((n * n : Nat) : Int), ml (by omega), ?_⟩
  refine ⟨((n * n * n : Nat) : Int), ml (by omega), ?_⟩
  refine ⟨((n * n * n * n : Nat) : Int), ml (by omega), ?_⟩
  refine ⟨fun h22 => ?_, fun h22 => ?_⟩
  · replace h22 := of_decide_eq_true h22
    have hlt : i0 < n * n * n * n := by omega
    have hd := dig hlt
    refine ⟨((n * n : Nat) : Int), ml (by omega), ?_⟩
    refine ⟨((n * n * n : Nat) : Int), ml (by omega), ?_⟩
    refine ⟨by have : n * n * n ≠ 0 := Nat.ne_of_gt (Nat.mul_pos (Nat.mul_pos hd.1 hd.1) hd.1); omega, ((i0 / (n * n * n) : Nat) : Int), qd (by omega), ?_⟩
    refine ⟨((n * n : Nat) : Int), ml (by omega), ?_⟩
    refine ⟨by have : n * n ≠ 0 := Nat.ne_of_gt (Nat.mul_pos hd.1 hd.1); omega, ((i0 / (n * n) : Nat) : Int), qd (by omega), ?_⟩
    refine ⟨by omega, ((i0 / (n * n) % n : Nat) : Int), rm, ?_⟩
    refine ⟨by omega, ((i0 / n : Nat) : Int), qd (by omega), ?_⟩
    refine ⟨by omega, ((i0 / n % n : Nat) : Int), rm, ?_⟩
    refine ⟨by omega, ((i0 % n : Nat) : Int), rm, ?_⟩
    refine .inl ⟨1, [], _, _, _, _, [_], rfl, s_l02Sums_ok B E.2 hp hp2 hn (i := i0 / (n * n * n)) (j := i0 / (n * n) % n) (k := i0 / n % n) (l := i0 % n) (by omega) (by omega) (by omega) (by omega), rfl, trivial, rfl, rfl, ?_⟩
    refine ⟨fun h58 => ?_, fun h58 => ?_⟩
    · replace h58 := bne_t h58
      exact (h58 (congrArg byt (hA i0 hlt))).elim
    · replace h58 := bne_f h58
      refine ⟨((i0 + 1 : Nat) : Int), w64_id _ (by omega) (by omega), ?_⟩
      exact ⟨by omega, trivial, ⟨rfl, rfl, rfl, trivial⟩, ⟨rfl, trivial⟩, rfl⟩
  · replace h22 := of_decide_eq_false h22
    have e0 : n * n * n * n = i0 := by omega
    exact ⟨rfl, [], rfl, rfl, trivial, rfl, rfl⟩

theorem s_l02Fault_f_ok (B : Bs P ρ) (E : E_s_l02Fault P ρ) {n : Nat} {p : Int} {f : By} {a : Nat} (hp : 1 ≤ p) (hp2 : p ≤ 256) (hn : n ≤ 8) (ha : a < n * n * n * n) (hA : ¬ CoaT p n f a) (hL : ∀ t, t < a → CoaT p n f t) :
    CallOK P ρ 99 [.ag [p, (n : Int)] 522 f] [] (.tup [.sl 0 0 4 4, .b true]) [⟨false, .rw [.i .i64 ((a / (n * n * n) : Nat) : Int), .i .i64 ((a / (n * n) % n : Nat) : Int), .i .i64 ((a / n % n : Nat) : Int), .i .i64 ((a % n : Nat) : Int)]⟩] := by
  refine call_of_vc B.fn B.mo E.1 rfl rfl ?_
  have hpw := pw hn
  refine ⟨0, rfl, ?_⟩
  refine .inl ⟨(fun a4 b0 i0 => St.mk [(1, .one (.pt 0 0)), (4, a4), (5, .one (.i .i64 ((i0 : Nat) : Int)))] [b0]) _ _ , fun i0 => ∀ t, t < i0 → CoaT p n f t, n * n * n * n, fun _ _ => by omega, ⟨⟨rfl, rfl, rfl, trivial⟩, ⟨rfl, trivial⟩, rfl⟩, fun i0 hi0 hF0 => ?_⟩
  refine ⟨((n * n : Nat) : Int), ml (by omega), ?_⟩
  refine ⟨((n * n * n : Nat) : Int), ml (by omega), ?_⟩
  refine ⟨((n * n * n * n : Nat) : Int), ml (by omega), ?_⟩
  refine ⟨fun h22 => ?_, fun h22 => ?_⟩
  · replace h22 := of_decide_eq_true h22
    have hlt : i0 < n * n * n * n := by omega
    have hd := dig hlt
    refine ⟨((n * n : Nat) : Int), ml (by omega), ?_⟩
    refine ⟨((n * n * n : Nat) : Int), ml (by omega), ?_⟩
    refine ⟨by have : n * n * n ≠ 0 := Nat.ne_of_gt (Nat.mul_pos (Nat.mul_pos hd.1 hd.1) hd.1); omega, ((i0 / (n * n * n) : Nat) : Int), qd (by omega), ?_⟩
    refine ⟨((n * n : Nat) : Int), ml (by omega), ?_⟩
    refine ⟨by have : n * n ≠ 0 := Nat.ne_of_gt (Nat.mul_pos hd.1 hd.1); omega, ((i0 / (n * n) : Nat) : Int), qd (by omega), ?_⟩
    refine ⟨by omega, ((i0 / (n * n) % n : Nat) : Int), rm, ?_⟩
    refine ⟨by omega, ((i0 / n : Nat) : Int), qd (by omega), ?_⟩
    refine ⟨by omega, ((i0 / n % n : Nat) : Int), rm, ?_⟩
    refine ⟨by omega, ((i0 % n : Nat) : Int), rm, ?_⟩
    refine .inl ⟨1, [], _, _, _, _, [_], rfl, s_l02Sums_ok B E.2 hp hp2 hn (i := i0 / (n * n * n)) (j := i0 / (n * n) % n) (k := i0 / n % n) (l := i0 % n) (by omega) (by omega) (by omega) (by omega), rfl, trivial, rfl, rfl, ?_⟩
    refine ⟨fun h58 => ?_, fun h58 => ?_⟩
    · replace h58 := bne_t h58
      have q : ¬ CoaT p n f i0 := fun q => h58 (congrArg byt q)
      have e : i0 = a := by
        rcases Nat.lt_trichotomy i0 a with e | e | e
        · exact (q (hL i0 e)).elim
        · exact e
        · exact (hA (hF0 a e)).elim
      refine ⟨1, rfl, ?_⟩
      refine ⟨rfl, [1], rfl, rfl, ⟨?_, trivial⟩, rfl, rfl⟩
      show some (Blk.mk false (.rw [.i .i64 ((i0 / (n * n * n) : Nat) : Int), .i .i64 ((i0 / (n * n) % n : Nat) : Int), .i .i64 ((i0 / n % n : Nat) : Int), .i .i64 ((i0 % n : Nat) : Int)])) = some (Blk.mk false (.rw [.i .i64 ((a / (n * n * n) : Nat) : Int), .i .i64 ((a / (n * n) % n : Nat) : Int), .i .i64 ((a / n % n : Nat) : Int), .i .i64 ((a % n : Nat) : Int)]))
      rw [e]
    · replace h58 := bne_f h58
      have q : CoaT p n f i0 := byt_mod_inj hp hp2 h58
      refine ⟨((i0 + 1 : Nat) : Int), w64_id _ (by omega) (by omega), ?_⟩
      refine ⟨by omega, ?_, ⟨rfl, rfl, rfl, trivial⟩, ⟨rfl, trivial⟩, rfl⟩
      intro t ht
      by_cases e : t = i0
      · rw [e]; exact q
      · exact hF0 t (by omega)
  · replace h22 := of_decide_eq_false h22
    have e0 : n * n * n * n = i0 := by omega
    exact (hA (hF0 a (by omega))).elim

theorem s_l02Counits_ok (B : Bs P ρ) (E : E_s_l02Counits P ρ) {n : Nat} {p : Int} {f : By} (hp : 1 ≤ p) (hp2 : p ≤ 256) (hn : n ≤ 8) :
    CallOK P ρ 100 [.ag [p, (n : Int)] 522 f] [] (.one (.b (decide (∀ i, i < n → Cou p n f i)))) [] := by
  refine call_of_vc B.fn B.mo E.1 rfl rfl ?_
  refine ⟨0, rfl, ?_⟩
  refine .inl ⟨(fun b0 i0 => St.mk [(1, .one (.pt 0 0)), (3, .one (.i .i64 ((i0 : Nat) : Int)))] [b0]) _ , fun i0 => ∀ i, i < i0 → Cou p n f i, n, fun _ _ => by omega, ⟨⟨rfl, rfl, trivial⟩, ⟨rfl, trivial⟩, rfl⟩, fun i0 hi0 hF0 => ?_⟩
  refine ⟨fun h12 => ?_, fun h12 => ?_⟩
  · replace h12 := of_decide_eq_true h12
    refine ⟨1, rfl, ?_⟩
    refine ⟨2, rfl, ?_⟩
    refine ⟨⟨rfl, by first | omega | (simp <;> omega), by first | omega | (simp <;> omega)⟩, ?_⟩   -- sta ['.t', 4] ['.t', 15] 8
    refine ⟨⟨rfl, by first | omega | (simp <;> omega), by first | omega | (simp <;> omega)⟩, ?_⟩   -- sta ['.t', 5] ['.t', 16] 8
    refine .inl ⟨(fun a3 b0 i1 => St.mk [(1, .one (.pt 0 0)), (3, a3), (4, .one (.pt 1 0)), (5, .one (.pt 2 0)), (6, .one (.i .i64 ((i1 : Nat) : Int)))] [b0, Blk.mk false (.by [] 8 (vec 8 p fun x => cuL i1 f i0 x)), Blk.mk false (.by [] 8 (vec i1 p (cuR n f i0)))]) _ _ , fun i1 => True, n, trivial, ⟨⟨rfl, rfl, rfl, rfl, rfl, trivial⟩, ⟨rfl, ?_, ?_, trivial⟩, rfl⟩, fun i1 hi1 _ => ?_⟩
    · refine blk_by ?_
      rw [z_sta]
      exact vec_0.symm
    · refine blk_by ?_
      rw [z_sta]
      rfl
    have q0 := bz_nn f (2 + i1)
    have q1 := bz_le f (2 + i1)
    refine ⟨fun h20 => ?_, fun h20 => ?_⟩
    · replace h20 := of_decide_eq_true h20
      refine ⟨⟨by first | omega | (simp <;> omega), by first | omega | (simp <;> omega)⟩, ?_⟩
      refine ⟨i0, 10 + i0 * 64, rfl, by omega, by omega, ?_⟩
      refine ⟨i1, 10 + i0 * 64 + i1 * 8, rfl, by omega, by omega, ?_⟩
      refine ⟨⟨by first | omega | (simp <;> omega), by first | omega | (simp <;> omega)⟩, ?_⟩
      refine ⟨i1, 2 + i1, rfl, by omega, by omega, ?_⟩
      refine ⟨⟨by first | omega | (simp <;> omega), by first | omega | (simp <;> omega)⟩, ?_⟩
      refine .inl ⟨3, [], _, _, _, _, [_, _, _], rfl, s_l01Add_ok B E.2.1 (k := bz f (2 + i1)) hp (by omega) (by omega) (by omega), rfl, trivial, rfl, rfl, ?_⟩
      refine ⟨⟨rfl, by first | omega | (simp <;> omega), by first | omega | (simp <;> omega)⟩, ?_⟩   -- sta ['.t', 4] ['.t', 37] 8
      refine .inl ⟨(fun a3 a6 b0 b1 b2 i2 => St.mk [(1, .one (.pt 0 0)), (3, a3), (4, .one (.pt 1 0)), (5, .one (.pt 2 0)), (6, a6), (7, .one (.i .i64 (cuR i2 f i0 i1))), (8, .one (.i .i64 ((i2 : Nat) : Int)))] [b0, b1, b2]) _ _ _ _ _ , fun i2 => True, n, trivial, ⟨⟨rfl, rfl, rfl, rfl, rfl, rfl, rfl, trivial⟩, ⟨rfl, rfl, rfl, trivial⟩, rfl⟩, fun i2 hi2 _ => ?_⟩
      have q2 := bz2 f f (2 + i2) (10 + i0 * 64 + i1 * 8 + i2)
      have q3 := sm_bd (n := i2) (x := fun k => bz f (2 + k) * bz f (10 + i0 * 64 + i1 * 8 + k)) (A := 65025) fun k _ => bz2 f f _ _
      have q4 : sm i2 (fun k => bz f (2 + k) * bz f (10 + i0 * 64 + i1 * 8 + k)) = cuR i2 f i0 i1 := rfl
      refine ⟨fun h41 => ?_, fun h41 => ?_⟩
      · replace h41 := of_decide_eq_true h41
        refine ⟨i2, 2 + i2, rfl, by omega, by omega, ?_⟩
        refine ⟨⟨by first | omega | (simp <;> omega), by first | omega | (simp <;> omega)⟩, ?_⟩
        refine ⟨i0, 10 + i0 * 64, rfl, by omega, by omega, ?_⟩
        refine ⟨i1, 10 + i0 * 64 + i1 * 8, rfl, by omega, by omega, ?_⟩
        refine ⟨i2, 10 + i0 * 64 + i1 * 8 + i2, rfl, by omega, by omega, ?_⟩
        refine ⟨⟨by first | omega | (simp <;> omega), by first | omega | (simp <;> omega)⟩, ?_⟩
        refine ⟨bz f (2 + i2) * bz f (10 + i0 * 64 + i1 * 8 + i2), w64_id (bz f (2 + i2) * bz f (10 + i0 * 64 + i1 * 8 + i2)) (by omega) (by omega), ?_⟩
        refine ⟨cuR i2 f i0 i1 + bz f (2 + i2) * bz f (10 + i0 * 64 + i1 * 8 + i2), w64_id (cuR i2 f i0 i1 + bz f (2 + i2) * bz f (10 + i0 * 64 + i1 * 8 + i2)) (by omega) (by omega), ?_⟩
        refine ⟨((i2 + 1 : Nat) : Int), w64_id _ (by omega) (by omega), ?_⟩
        exact ⟨by omega, trivial, ⟨rfl, rfl, rfl, rfl, rfl, rfl, rfl, trivial⟩, ⟨rfl, rfl, rfl, trivial⟩, rfl⟩
      · replace h41 := of_decide_eq_false h41
        have e2 : n = i2 := by omega
        subst e2
        refine .inl ⟨3, [], _, _, _, _, [_, _, _], rfl, s_l01Mod_ok B E.2.2.1 hp (by omega), rfl, trivial, rfl, rfl, ?_⟩
        refine ⟨i1, i1, rfl, by omega, by omega, ?_⟩
        refine ⟨⟨by first | omega | (simp <;> omega), by first | omega | (simp <;> omega)⟩, ?_⟩   -- st8 ['.t', 66] ['.t', 65]
        refine ⟨((i1 + 1 : Nat) : Int), w64_id _ (by omega) (by omega), ?_⟩
        refine ⟨by omega, trivial, ⟨rfl, rfl, rfl, rfl, rfl, trivial⟩, ⟨rfl, ?_, ?_, trivial⟩, rfl⟩
        · refine blk_by ?_
          rw [spl_plsN, pl_vec0 hp hp2]
          exact vec_congr fun y _ => cg_of_eq rfl
        · exact blk_by (upd_vec rfl).symm
    · replace h20 := of_decide_eq_false h20
      have e1 : n = i1 := by omega
      subst e1
      refine ⟨⟨by first | omega | (simp <;> omega), by first | omega | (simp <;> omega)⟩, ?_⟩
      refine ⟨3, [], _, _, _, _, [_, _, _], rfl, s_l01Basis_ok B E.2.2.2 (i := i0) (by omega), rfl, trivial, rfl, rfl, rfl, ?_⟩
      refine ⟨fun h71 => ?_, fun h71 => ?_⟩
      · skip
        have z61 := neB_t h71
        rw [sh_zero] at z61
        refine brB_t ?_
        refine brB_t ?_
        refine brB_t ?_
        refine brB_t ?_
        refine brB_t ?_
        refine ⟨rfl, [], ?_, rfl, trivial, rfl, rfl⟩
        exact one_b (dec_f fun q => z61 fun x _ => congrFun (q i0 (by omega)).1 x)
      · skip
        have z61 := neB_f h71
        rw [sh_zero] at z61
        refine ⟨⟨by first | omega | (simp <;> omega), by first | omega | (simp <;> omega)⟩, ?_⟩
        refine brB_f ?_
        refine brB_f ?_
        refine ⟨3, [], _, _, _, _, [_, _, _], rfl, s_l01Basis_ok B E.2.2.2 (i := i0) (by omega), rfl, trivial, rfl, rfl, rfl, ?_⟩
        refine brB_f ?_
        refine brB_f ?_
        refine ⟨fun h76 => ?_, fun h76 => ?_⟩
        · skip
          have z66 := neB_t h76
          rw [sh_zero] at z66
          refine ⟨rfl, [], ?_, rfl, trivial, rfl, rfl⟩
          exact one_b (dec_f fun q => z66 fun x _ => congrFun (q i0 (by omega)).2 x)
        · skip
          have z66 := neB_f h76
          rw [sh_zero] at z66
          refine ⟨((i0 + 1 : Nat) : Int), w64_id _ (by omega) (by omega), ?_⟩
          refine ⟨by omega, ?_, ⟨rfl, rfl, trivial⟩, ⟨rfl, trivial⟩, rfl⟩
          intro k hk
          by_cases e : k = i0
          · subst e
            refine ⟨vec_ext (bas_out (by omega)) z61, ?_⟩
            funext x
            by_cases hx : x < 8
            · exact z66 x hx
            · rw [vec_out (by omega), bas_out (by omega) x (by omega)]
          · exact hF0 k (by omega)
  · replace h12 := of_decide_eq_false h12
    have e0 : n = i0 := by omega
    subst e0
    refine ⟨rfl, [], ?_, rfl, trivial, rfl, rfl⟩
    exact one_b (dec_t hF0)

theorem s_l02Is_s_ok (B : Bs P ρ) (E : E_s_l02Is P ρ) {n : Int} {p : Int} {f : By} (hS : ¬ CShp p n f) :
    CallOK P ρ 77 [.ag [p, n] 522 f] [] (.one (.b false)) [] := by
  refine call_of_vc B.fn B.mo E.1 rfl rfl ?_
  refine ⟨0, rfl, ?_⟩
  refine .inl ⟨1, [], _, _, _, _, [_], rfl, s_l02Shape_ok B E.2.1 , rfl, trivial, rfl, rfl, ?_⟩
  refine ⟨fun h7 => ?_, fun h7 => ?_⟩
  · skip
    exact ⟨rfl, [], rfl, rfl, trivial, rfl, rfl⟩
  · skip
    exact (hS (dec_elim_t (not_f h7))).elim

theorem s_l02Is_t_ok (B : Bs P ρ) (E : E_s_l02Is P ρ) {n : Nat} {p : Int} {f : By} (hS : CShp p n f) (hA : ∀ t : Nat, t < n * n * n * n → CoaT p n f t) :
    CallOK P ρ 77 [.ag [p, (n : Int)] 522 f] [] (.one (.b (decide (∀ i, i < n → Cou p n f i)))) [] := by
  refine call_of_vc B.fn B.mo E.1 rfl rfl ?_
  have hb := AShp.p1 hS
  refine ⟨0, rfl, ?_⟩
  refine .inl ⟨1, [], _, _, _, _, [_], rfl, s_l02Shape_ok B E.2.1 , rfl, trivial, rfl, rfl, ?_⟩
  refine ⟨fun h7 => ?_, fun h7 => ?_⟩
  · skip
    exact (dec_elim_t' (not_t h7) hS).elim
  · skip
    refine .inl ⟨1, [], _, _, _, _, [_], rfl, s_l02Fault_t_ok B E.2.2.1 (by omega) (by omega) (by omega) hA, rfl, trivial, rfl, rfl, ?_⟩
    refine ⟨fun h15 => ?_, fun h15 => ?_⟩
    · skip
      refine brB_t ?_
      refine .inl ⟨1, [], _, _, _, _, [_], rfl, s_l02Counits_ok B E.2.2.2 (by omega) (by omega) (by omega), rfl, trivial, rfl, rfl, ?_⟩
      refine brB_t ?_
      exact ⟨rfl, [], rfl, rfl, trivial, rfl, rfl⟩
    · skip
      exact absurd h15 (by decide)

theorem s_l02Is_f_ok (B : Bs P ρ) (E : E_s_l02Is P ρ) {n : Nat} {p : Int} {f : By} {a : Nat} (hS : CShp p n f) (ha : a < n * n * n * n) (hA : ¬ CoaT p n f a) (hL : ∀ t, t < a → CoaT p n f t) :
    CallOK P ρ 77 [.ag [p, (n : Int)] 522 f] [] (.one (.b false)) [] := by
  refine call_of_vc B.fn B.mo E.1 rfl rfl ?_
  have hb := AShp.p1 hS
  refine ⟨0, rfl, ?_⟩
  refine .inl ⟨1, [], _, _, _, _, [_], rfl, s_l02Shape_ok B E.2.1 , rfl, trivial, rfl, rfl, ?_⟩
  refine ⟨fun h7 => ?_, fun h7 => ?_⟩
  · skip
    exact (dec_elim_t' (not_t h7) hS).elim
  · skip
    refine .inl ⟨1, [], _, _, _, _, [_, _], rfl, s_l02Fault_f_ok B E.2.2.1 (by omega) (by omega) (by omega) ha hA hL, rfl, trivial, rfl, rfl, ?_⟩
    refine ⟨fun h15 => ?_, fun h15 => ?_⟩
    · skip
      exact absurd h15 (by decide)
    · skip
      refine brB_f ?_
      refine brB_f ?_
      exact ⟨rfl, [], rfl, rfl, trivial, rfl, rfl⟩

theorem s_l02Is_ok (B : Bs P ρ) (E : E_s_l02Is P ρ) {n : Int} {p : Int} {f : By} :
    CallOK P ρ 77 [.ag [p, n] 522 f] [] (.one (.b (decide (Cog p n f)))) [] := by
  by_cases hS : CShp p n f
  · obtain ⟨m, rfl⟩ : ∃ m : Nat, n = (m : Int) := ⟨n.toNat, by have := hS.1.2.1; omega⟩
    by_cases hA : ∀ t : Nat, t < m * m * m * m → CoaT p m f t
    · have e : decide (Cog p m f) = decide (∀ i, i < m → Cou p m f i) :=
        decide_eq_decide.2 ⟨fun q i hi => q.2.1 i (by omega), fun q => ⟨hS, fun i hi => q i (by omega), hA⟩⟩
      rw [e]; exact s_l02Is_t_ok B E hS hA
    · rw [decide_eq_false fun q : Cog p m f => hA q.2.2]
      obtain ⟨a, ⟨h1, h2⟩, h3⟩ := least (q := fun t => t < m * m * m * m ∧ ¬ CoaT p m f t) (by
        simp only [Classical.not_forall] at hA
        obtain ⟨t, ht, h⟩ := hA
        exact ⟨t, ht, h⟩)
      exact s_l02Is_f_ok B E hS h1 h2 fun t ht => Classical.byContradiction fun q => h3 t ht ⟨by omega, q⟩
  · rw [decide_eq_false fun q : Cog p n f => hS q.1]
    exact s_l02Is_s_ok B E hS
end Hf
namespace Hf
open Go Classical
variable {P : Program} {ρ : Nat → FuncId}
theorem bz_own {f g : By} {y : Nat} (h : y < 8) : bz (sh (spl f 0 8 g) 0) y = bz g y := by
  rw [sh_zero]; simp only [bz, spl]; rw [if_pos (by omega)]; rfl
theorem ctu_bd {n : Nat} {f v : By} : 0 ≤ ctu n f v ∧ ctu n f v ≤ n * 65025 := sm_bd fun k _ => bz2 f v _ _

theorem s_l01Zero_ok (B : Bs P ρ) (E : E_s_l01Zero P ρ) {v : By} :
    CallOK P ρ 101 [.ag [] 8 v] [] (.one (.b (eqB 8 v fun _ => 0))) [] := by
  refine call_of_vc B.fn B.mo E rfl rfl ?_
  refine ⟨0, rfl, ?_⟩
  refine ⟨⟨by first | omega | (simp <;> omega), by first | omega | (simp <;> omega)⟩, ?_⟩
  exact ⟨rfl, [], rfl, rfl, trivial, rfl, rfl⟩

theorem s_l03Coproduct_ok (B : Bs P ρ) (E : E_s_l03Coproduct P ρ) {n : Nat} {p : Int} {f v : By} (hp : 1 ≤ p) (hp2 : p ≤ 256) (hn : n ≤ 8) :
    CallOK P ρ 54 [.ag [p, (n : Int)] 1106 f, .ag [] 8 v] [] (.one (.ag [] 64 (vec 64 p (cop n f 530 v)))) [] := by
  refine call_of_vc B.fn B.mo E.1 rfl rfl ?_
  refine ⟨0, rfl, ?_⟩
  refine ⟨1, rfl, ?_⟩
  refine ⟨2, rfl, ?_⟩
  refine ⟨3, rfl, ?_⟩
  refine ⟨⟨rfl, by first | omega | (simp <;> omega), by first | omega | (simp <;> omega)⟩, ?_⟩   -- sta ['.t', 5] ['.t', 8] 64
  refine .inl ⟨(fun b0 b1 b2 i0 => St.mk [(2, .one (.pt 0 0)), (3, .one (.pt 1 0)), (4, .one (.pt 2 0)), (5, .one (.pt 3 0)), (6, .one (.i .i64 ((i0 : Nat) : Int)))] [b0, b1, b2, Blk.mk false (.by [] 64 (vec 64 p fun y => if y / 8 < n then sm i0 fun i => bz v i * bz f (530 + i * 64 + y) else 0))]) _ _ _ , fun i0 => True, n, trivial, ⟨⟨rfl, rfl, rfl, rfl, rfl, trivial⟩, ⟨rfl, rfl, rfl, ?_, trivial⟩, rfl⟩, fun i0 hi0 _ => ?_⟩
  · refine blk_by ?_
    rw [z_sta]
    exact vec_zero fun k hk => by simp [sm]
  have q0 := bz_nn v i0
  have q1 := bz_le v i0
  refine ⟨fun h12 => ?_, fun h12 => ?_⟩
  · replace h12 := of_decide_eq_true h12
    refine .inl ⟨(fun a6 b0 b1 b2 i1 => St.mk [(2, .one (.pt 0 0)), (3, .one (.pt 1 0)), (4, .one (.pt 2 0)), (5, .one (.pt 3 0)), (6, a6), (7, .one (.i .i64 ((i1 : Nat) : Int)))] [b0, b1, b2, Blk.mk false (.by [] 64 (vec 64 p fun y => (if y / 8 < n then sm i0 fun i => bz v i * bz f (530 + i * 64 + y) else 0) + if y / 8 < i1 then bz v i0 * bz f (530 + i0 * 64 + y) else 0))]) _ _ _ _ , fun i1 => True, n, trivial, ⟨⟨rfl, rfl, rfl, rfl, rfl, rfl, trivial⟩, ⟨rfl, rfl, rfl, ?_, trivial⟩, rfl⟩, fun i1 hi1 _ => ?_⟩
    · refine blk_by (vec_congr fun y _ => cg_of_eq ?_)
      simp
    refine ⟨fun h19 => ?_, fun h19 => ?_⟩
    · replace h19 := of_decide_eq_true h19
      refine brB_t ?_
      refine ⟨i0, i0, rfl, by omega, by omega, ?_⟩
      refine brB_t ?_
      refine ⟨⟨by first | omega | (simp <;> omega), by first | omega | (simp <;> omega)⟩, ?_⟩
      refine brB_t ?_
      refine brB_t ?_
      refine ⟨fun h24 => ?_, fun h24 => ?_⟩
      · replace h24 := bne_t h24
        refine ⟨i1, i1 * 8, rfl, by omega, by omega, ?_⟩
        refine ⟨⟨by first | omega | (simp <;> omega), by first | omega | (simp <;> omega)⟩, ?_⟩
        refine ⟨i0, 530 + i0 * 64, rfl, by omega, by omega, ?_⟩
        refine ⟨i1, 530 + i0 * 64 + i1 * 8, rfl, by omega, by omega, ?_⟩
        refine ⟨⟨by first | omega | (simp <;> omega), by first | omega | (simp <;> omega)⟩, ?_⟩
        refine ⟨i0, i0, rfl, by omega, by omega, ?_⟩
        refine ⟨⟨by first | omega | (simp <;> omega), by first | omega | (simp <;> omega)⟩, ?_⟩
        refine ⟨4, [], _, _, _, _, [_, _, _, _], rfl, s_l01Add_ok B E.2 (k := bz v i0) hp (by omega) (by omega) (by omega), rfl, trivial, rfl, rfl, rfl, ?_⟩
        refine ⟨i1, i1 * 8, rfl, by omega, by omega, ?_⟩
        refine ⟨⟨rfl, by first | omega | (simp <;> omega), by first | omega | (simp <;> omega)⟩, ?_⟩   -- sta ['.t', 44] ['.t', 43] 8
        refine ⟨((i1 + 1 : Nat) : Int), w64_id _ (by omega) (by omega), ?_⟩
        refine ⟨by omega, trivial, ⟨rfl, rfl, rfl, rfl, rfl, rfl, trivial⟩, ⟨rfl, rfl, rfl, ?_, trivial⟩, rfl⟩
        refine blk_by ?_
        rw [spl_plsN, pl_vec hp hp2 (by omega)]
        refine vec_congr fun y hy => cg_of_eq ?_
        rw [Int.add_assoc]
        congr 1
        by_cases e1 : i1 * 8 ≤ y ∧ y < i1 * 8 + 8
        · rw [if_pos (by omega), if_neg (by omega), if_pos e1, bz_sh, Int.zero_add, show 530 + i0 * 64 + i1 * 8 + (y - i1 * 8) = 530 + i0 * 64 + y by omega]
        · rw [if_neg e1, Int.add_zero]
          by_cases e2 : y / 8 < i1
          · rw [if_pos (by omega), if_pos e2]
          · rw [if_neg (by omega), if_neg e2]
      · replace h24 := bne_f h24
        refine ⟨((i0 + 1 : Nat) : Int), w64_id _ (by omega) (by omega), ?_⟩
        refine ⟨by omega, trivial, ⟨rfl, rfl, rfl, rfl, rfl, trivial⟩, ⟨rfl, rfl, rfl, ?_, trivial⟩, rfl⟩
        refine blk_by (vec_congr fun y hy => cg_of_eq ?_)
        simp only [z0_of h24, Int.zero_mul, sm, Int.add_zero, ite_self]
    · replace h19 := of_decide_eq_false h19
      have e1 : n = i1 := by omega
      subst e1
      refine brB_f ?_
      refine brB_f ?_
      refine brB_f ?_
      refine brB_f ?_
      refine brB_f ?_
      refine ⟨((i0 + 1 : Nat) : Int), w64_id _ (by omega) (by omega), ?_⟩
      refine ⟨by omega, trivial, ⟨rfl, rfl, rfl, rfl, rfl, trivial⟩, ⟨rfl, rfl, rfl, ?_, trivial⟩, rfl⟩
      refine blk_by (vec_congr fun y hy => cg_of_eq ?_)
      by_cases e1 : y / 8 < n
      · rw [if_pos e1, if_pos e1, if_pos e1]; rfl
      · rw [if_neg e1, if_neg e1, if_neg e1]; rfl
  · replace h12 := of_decide_eq_false h12
    have e0 : n = i0 := by omega
    subst e0
    refine ⟨⟨by first | omega | (simp <;> omega), by first | omega | (simp <;> omega)⟩, ?_⟩
    refine ⟨⟨rfl, by first | omega | (simp <;> omega), by first | omega | (simp <;> omega)⟩, ?_⟩   -- sta ['.t', 4] ['.t', 45] 64
    refine ⟨rfl, ⟨by first | omega | (simp <;> omega), by first | omega | (simp <;> omega)⟩, [], ?_, rfl, trivial, rfl, rfl⟩
    exact one_ag (out_vec.trans rfl)

theorem s_l03Counit_ok (B : Bs P ρ) (E : E_s_l03Counit P ρ) {n : Nat} {p : Int} {f v : By} (hp : 1 ≤ p) (hp2 : p ≤ 256) (hn : n ≤ 8) :
    CallOK P ρ 79 [.ag [p, (n : Int)] 1106 f, .ag [] 8 v] [] (.one (.i .i64 (ctu n f v % p))) [] := by
  refine call_of_vc B.fn B.mo E rfl rfl ?_
  refine ⟨0, rfl, ?_⟩
  refine ⟨1, rfl, ?_⟩
  refine .inl ⟨(fun b0 b1 i0 => St.mk [(2, .one (.pt 0 0)), (3, .one (.pt 1 0)), (5, .one (.i .i64 (ctu i0 f v))), (6, .one (.i .i64 ((i0 : Nat) : Int)))] [b0, b1]) _ _ , fun i0 => True, n, trivial, ⟨⟨rfl, rfl, rfl, rfl, trivial⟩, ⟨rfl, rfl, trivial⟩, rfl⟩, fun i0 hi0 _ => ?_⟩
  have q1 := bz2 v f i0 (522 + i0)
  have q2 := ctu_bd (n := i0) (f := f) (v := v)
  refine ⟨fun h10 => ?_, fun h10 => ?_⟩
  · replace h10 := of_decide_eq_true h10
    refine ⟨i0, i0, rfl, by omega, by omega, ?_⟩
    refine ⟨⟨by first | omega | (simp <;> omega), by first | omega | (simp <;> omega)⟩, ?_⟩
    refine ⟨i0, 522 + i0, rfl, by omega, by omega, ?_⟩
    refine ⟨⟨by first | omega | (simp <;> omega), by first | omega | (simp <;> omega)⟩, ?_⟩
    refine ⟨bz v i0 * bz f (522 + i0), w64_id (bz v i0 * bz f (522 + i0)) (by omega) (by omega), ?_⟩
    refine ⟨ctu (i0 + 1) f v, ?_, ?_⟩
    · show w64 (ctu i0 f v + bz v i0 * bz f (522 + i0)) = ctu i0 f v + bz f (522 + i0) * bz v i0
      rw [Int.mul_comm (bz f (522 + i0))]
      exact w64_id _ (by omega) (by omega)
    refine ⟨((i0 + 1 : Nat) : Int), w64_id _ (by omega) (by omega), ?_⟩
    exact ⟨by omega, trivial, ⟨rfl, rfl, rfl, rfl, trivial⟩, ⟨rfl, rfl, trivial⟩, rfl⟩
  · replace h10 := of_decide_eq_false h10
    have e0 : n = i0 := by omega
    subst e0
    refine ⟨by omega, ctu n f v % p, Int.tmod_eq_emod_of_nonneg ctu_bd.1, ?_⟩
    exact ⟨rfl, [], rfl, rfl, trivial, rfl, rfl⟩

/-- one share of a product of tables -/
def tr (n : Nat) (f fa fb : By) (a b z : Nat) : Int := mu f a b (z / 8) * prd n f 10 (sh fa (a * 8)) (sh fb (b * 8)) (z % 8)
def trs (n : Nat) (f fa fb : By) (z : Nat) : Int := sm n fun a => sm n fun b => tr n f fa fb a b z
theorem trs_eq {n : Nat} {f fa fb : By} {oa ob z : Nat} : trs n f (sh fa oa) (sh fb ob) z = tns n f fa fb oa ob z := by
  simp only [trs, tr, tns, sh_sh]
theorem row0 {p k : Int} {X : Nat → Int} (hp : 1 ≤ p) (hp2 : p ≤ 256) (h : ∀ x, x < 8 → vec 8 p X x = 0) {y : Nat} (hy : y < 8) : cg p (k * X y) 0 := by
  have h1 := cg_vec (N := 8) (x := X) hp hp2 hy
  have h2 : bz (vec 8 p X) y = 0 := z0_of (h y hy)
  rw [h2] at h1
  exact (cg_mul rfl h1.symm).trans (cg_of_eq (Int.mul_zero k))

theorem s_l03Pairs_ok (B : Bs P ρ) (E : E_s_l03Pairs P ρ) {n : Nat} {p : Int} {f fa fb : By} (h : HShp p n f) (hp : 1 ≤ p) (hp2 : p ≤ 256) (hn : n ≤ 8) :
    CallOK P ρ 78 [.ag [p, (n : Int)] 1106 f, .ag [] 64 fa, .ag [] 64 fb] [] (.one (.ag [] 64 (vec 64 p (trs n f fa fb)))) [] := by
  refine call_of_vc B.fn B.mo E.1 rfl rfl ?_
  refine ⟨0, rfl, ?_⟩
  refine ⟨1, rfl, ?_⟩
  refine ⟨2, rfl, ?_⟩
  refine ⟨3, rfl, ?_⟩
  refine ⟨4, rfl, ?_⟩
  refine ⟨⟨rfl, by first | omega | (simp <;> omega), by first | omega | (simp <;> omega)⟩, ?_⟩   -- sta ['.t', 9] ['.t', 19] 64
  refine .inl ⟨(fun a7 a8 b0 b1 b2 b3 i0 => St.mk [(3, .one (.pt 0 0)), (4, .one (.pt 1 0)), (5, .one (.pt 2 0)), (6, .one (.pt 3 0)), (7, a7), (8, a8), (9, .one (.pt 4 0)), (10, .one (.i .i64 ((i0 : Nat) : Int)))] [b0, b1, b2, b3, Blk.mk false (.by [] 64 (vec 64 p fun z => sm i0 fun a => sm n fun b => tr n f fa fb a b z))]) _ _ _ _ _ _ , fun i0 => True, n, trivial, ⟨⟨rfl, rfl, rfl, rfl, rfl, rfl, rfl, rfl, trivial⟩, ⟨rfl, rfl, rfl, rfl, ?_, trivial⟩, rfl⟩, fun i0 hi0 _ => ?_⟩
  · refine blk_by ?_
    rw [z_sta]
    exact vec_zero fun k hk => rfl
  refine ⟨fun h22 => ?_, fun h22 => ?_⟩
  · replace h22 := of_decide_eq_true h22
    refine .inl ⟨(fun a7 a8 a10 b0 b1 b2 b3 i1 => St.mk [(3, .one (.pt 0 0)), (4, .one (.pt 1 0)), (5, .one (.pt 2 0)), (6, .one (.pt 3 0)), (7, a7), (8, a8), (9, .one (.pt 4 0)), (10, a10), (11, .one (.i .i64 ((i1 : Nat) : Int)))] [b0, b1, b2, b3, Blk.mk false (.by [] 64 (vec 64 p fun z => sm i0 (fun a => sm n fun b => tr n f fa fb a b z) + sm i1 fun b => tr n f fa fb i0 b z))]) _ _ _ _ _ _ _ , fun i1 => True, n, trivial, ⟨⟨rfl, rfl, rfl, rfl, rfl, rfl, rfl, rfl, rfl, trivial⟩, ⟨rfl, rfl, rfl, rfl, ?_, trivial⟩, rfl⟩, fun i1 hi1 _ => ?_⟩
    · refine blk_by (vec_congr fun y _ => cg_of_eq ?_)
      simp only [sm, Int.add_zero]
    refine ⟨fun h27 => ?_, fun h27 => ?_⟩
    · replace h27 := of_decide_eq_true h27
      refine ⟨5, [], _, _, _, _, [_, _, _, _, _], rfl, s_l03Algebra_ok B E.2.1 , rfl, trivial, rfl, rfl, rfl, ?_⟩
      refine ⟨i0, i0 * 8, rfl, by omega, by omega, ?_⟩
      refine ⟨⟨by first | omega | (simp <;> omega), by first | omega | (simp <;> omega)⟩, ?_⟩
      refine ⟨i1, i1 * 8, rfl, by omega, by omega, ?_⟩
      refine ⟨⟨by first | omega | (simp <;> omega), by first | omega | (simp <;> omega)⟩, ?_⟩
      refine ⟨5, [], _, _, _, _, [_, _, _, _, _], rfl, s_l01Times_ok B E.2.2.1 hp hp2 hn, rfl, trivial, rfl, rfl, rfl, ?_⟩
      refine ⟨5, rfl, ?_⟩
      refine ⟨⟨rfl, by first | omega | (simp <;> omega), by first | omega | (simp <;> omega)⟩, ?_⟩   -- sta ['.t', 12] ['.t', 38] 8
      refine ⟨⟨by first | omega | (simp <;> omega), by first | omega | (simp <;> omega)⟩, ?_⟩
      refine .inl ⟨6, [], _, _, _, _, [_, _, _, _, _, _], rfl, s_l01Zero_ok B E.2.2.2.1 , rfl, trivial, rfl, rfl, ?_⟩
      refine ⟨fun h40 => ?_, fun h40 => ?_⟩
      · skip
        have z40 := eqB_iff.1 h40
        refine ⟨((i1 + 1 : Nat) : Int), w64_id _ (by omega) (by omega), ?_⟩
        refine ⟨by omega, trivial, ⟨rfl, rfl, rfl, rfl, rfl, rfl, rfl, rfl, rfl, trivial⟩, ⟨rfl, rfl, rfl, rfl, ?_, trivial⟩, rfl⟩
        refine blk_by (vec_congr fun z hz => cg_add rfl ?_)
        refine cg.symm ((cg_of_eq (Int.add_zero _).symm).trans (cg_add rfl (row0 hp hp2 (fun x hx => ?_) (Nat.mod_lt _ (by omega))).symm))
        have := z40 x hx
        rw [sh_zero, z_spl _ _ (fun _ h => vec_out h)] at this
        exact this
      · skip
        refine .inl ⟨(fun a7 a8 a10 a11 b0 b1 b2 b3 i2 => St.mk [(3, .one (.pt 0 0)), (4, .one (.pt 1 0)), (5, .one (.pt 2 0)), (6, .one (.pt 3 0)), (7, a7), (8, a8), (9, .one (.pt 4 0)), (10, a10), (11, a11), (12, .one (.pt 5 0)), (13, .one (.i .i64 ((i2 : Nat) : Int)))] [b0, b1, b2, b3, Blk.mk false (.by [] 64 (vec 64 p fun z => (sm i0 (fun a => sm n fun b => tr n f fa fb a b z) + sm i1 fun b => tr n f fa fb i0 b z) + if z / 8 < i2 then tr n f fa fb i0 i1 z else 0)), Blk.mk false (.by [] 8 (vec 8 p (prd n f 10 (sh fa (i0 * 8)) (sh fb (i1 * 8)))))]) _ _ _ _ _ _ _ _ , fun i2 => True, n, trivial, ⟨⟨rfl, rfl, rfl, rfl, rfl, rfl, rfl, rfl, rfl, rfl, rfl, trivial⟩, ⟨rfl, rfl, rfl, rfl, ?_, ?_, trivial⟩, rfl⟩, fun i2 hi2 _ => ?_⟩
        · refine blk_by (vec_congr fun y _ => cg_of_eq ?_)
          simp
        · exact blk_by (z_spl _ _ fun _ h => vec_out h).symm
        have q0 := bz_nn f (10 + i0 * 64 + i1 * 8 + i2)
        have q1 := bz_le f (10 + i0 * 64 + i1 * 8 + i2)
        refine ⟨fun h43 => ?_, fun h43 => ?_⟩
        · replace h43 := of_decide_eq_true h43
          refine ⟨i0, 10 + i0 * 64, rfl, by omega, by omega, ?_⟩
          refine ⟨i1, 10 + i0 * 64 + i1 * 8, rfl, by omega, by omega, ?_⟩
          refine ⟨i2, 10 + i0 * 64 + i1 * 8 + i2, rfl, by omega, by omega, ?_⟩
          refine ⟨⟨by first | omega | (simp <;> omega), by first | omega | (simp <;> omega)⟩, ?_⟩
          refine ⟨fun h55 => ?_, fun h55 => ?_⟩
          · replace h55 := bne_t h55
            refine ⟨i2, i2 * 8, rfl, by omega, by omega, ?_⟩
            refine ⟨⟨by first | omega | (simp <;> omega), by first | omega | (simp <;> omega)⟩, ?_⟩
            refine ⟨⟨by first | omega | (simp <;> omega), by first | omega | (simp <;> omega)⟩, ?_⟩
            refine ⟨6, [], _, _, _, _, [_, _, _, _, _, _], rfl, s_l01Add_ok B E.2.2.2.2 (k := bz f (10 + i0 * 64 + i1 * 8 + i2)) hp (by omega) (by omega) (by omega), rfl, trivial, rfl, rfl, rfl, ?_⟩
            refine ⟨i2, i2 * 8, rfl, by omega, by omega, ?_⟩
            refine ⟨⟨rfl, by first | omega | (simp <;> omega), by first | omega | (simp <;> omega)⟩, ?_⟩   -- sta ['.t', 65] ['.t', 64] 8
            refine ⟨((i2 + 1 : Nat) : Int), w64_id _ (by omega) (by omega), ?_⟩
            refine ⟨by omega, trivial, ⟨rfl, rfl, rfl, rfl, rfl, rfl, rfl, rfl, rfl, rfl, rfl, trivial⟩, ⟨rfl, rfl, rfl, rfl, ?_, rfl, trivial⟩, rfl⟩
            refine blk_by ?_
            rw [spl_plsN, pl_vec hp hp2 (by omega)]
            refine vec_congr fun z hz => cg.trans (cg_add rfl ?_) (cg_of_eq (Int.add_assoc _ _ _).symm)
            by_cases e1 : i2 * 8 ≤ z ∧ z < i2 * 8 + 8
            · rw [if_pos (by omega), if_neg (by omega), if_pos e1, Int.zero_add, sh_zero, show z - i2 * 8 = z % 8 by omega]
              have e2 : z / 8 = i2 := by omega
              unfold tr mu
              rw [e2]
              exact (cg_mul rfl (cg_vec hp hp2 (Nat.mod_lt _ (by omega)))).symm
            · rw [if_neg e1, Int.add_zero]
              by_cases e2 : z / 8 < i2
              · rw [if_pos (by omega), if_pos e2]; rfl
              · rw [if_neg (by omega), if_neg e2]; rfl
          · replace h55 := bne_f h55
            refine ⟨((i2 + 1 : Nat) : Int), w64_id _ (by omega) (by omega), ?_⟩
            refine ⟨by omega, trivial, ⟨rfl, rfl, rfl, rfl, rfl, rfl, rfl, rfl, rfl, rfl, rfl, trivial⟩, ⟨rfl, rfl, rfl, rfl, ?_, rfl, trivial⟩, rfl⟩
            refine blk_by (vec_congr fun z hz => cg_add rfl (cg_of_eq ?_))
            by_cases e1 : z / 8 = i2
            · rw [if_pos (by omega), if_neg (by omega)]
              unfold tr mu
              rw [e1, z0_of h55, Int.zero_mul]
            · by_cases e2 : z / 8 < i2
              · rw [if_pos (by omega), if_pos e2]
              · rw [if_neg (by omega), if_neg e2]
        · replace h43 := of_decide_eq_false h43
          have e2 : n = i2 := by omega
          subst e2
          refine ⟨((i1 + 1 : Nat) : Int), w64_id _ (by omega) (by omega), ?_⟩
          refine ⟨by omega, trivial, ⟨rfl, rfl, rfl, rfl, rfl, rfl, rfl, rfl, rfl, trivial⟩, ⟨rfl, rfl, rfl, rfl, ?_, trivial⟩, rfl⟩
          refine blk_by (vec_congr fun z hz => cg_of_eq ?_)
          have e0 : (if z / 8 < n then tr n f fa fb i0 i1 z else 0) = tr n f fa fb i0 i1 z := by
            by_cases e : z / 8 < n
            · rw [if_pos e]
            · rw [if_neg e]
              unfold tr mu
              rw [h.mul (by omega) (by omega) (by omega) (.inr (.inr (by omega))), Int.zero_mul]
          rw [e0, Int.add_assoc]
          rfl
    · replace h27 := of_decide_eq_false h27
      have e1 : n = i1 := by omega
      subst e1
      refine ⟨((i0 + 1 : Nat) : Int), w64_id _ (by omega) (by omega), ?_⟩
      exact ⟨by omega, trivial, ⟨rfl, rfl, rfl, rfl, rfl, rfl, rfl, rfl, trivial⟩, ⟨rfl, rfl, rfl, rfl, rfl, trivial⟩, rfl⟩
  · replace h22 := of_decide_eq_false h22
    have e0 : n = i0 := by omega
    subst e0
    refine ⟨⟨by first | omega | (simp <;> omega), by first | omega | (simp <;> omega)⟩, ?_⟩
    refine ⟨⟨rfl, by first | omega | (simp <;> omega), by first | omega | (simp <;> omega)⟩, ?_⟩   -- sta ['.t', 6] ['.t', 66] 64
    refine ⟨rfl, ⟨by first | omega | (simp <;> omega), by first | omega | (simp <;> omega)⟩, [], ?_, rfl, trivial, rfl, rfl⟩
    exact one_ag (out_vec.trans rfl)

def prT (n : Nat) (f s : By) (b : Bool) (j k : Nat) : Nat → Int := if b = true then prd n f 10 (bas j) (sh s (k * 8)) else prd n f 10 (sh s (j * 8)) (bas k)
def fldT (n : Nat) (f s : By) (b : Bool) (i y : Nat) : Int := sm n fun j => sm n fun k => bz f (530 + i * 64 + j * 8 + k) * prT n f s b j k y
def AxT (p : Int) (n : Nat) (f s : By) (b : Bool) (i : Nat) : Prop := vec 8 p (fldT n f s b i) = vec 8 p fun y => bz f (522 + i) * bz f (2 + y)
theorem AxT_eq {p : Int} {n : Nat} {f : By} {b : Bool} {i : Nat} : AxT p n f (sh f 1042) b i ↔ AxS p n f (!b) i := by
  have : fldT n f (sh f 1042) b i = fld n f (!b) i := by
    funext y
    simp only [fldT, fld, prT, prS, sh_sh]
    cases b <;> rfl
  unfold AxT AxS
  rw [this]

theorem s_l03Folded_ok (B : Bs P ρ) (E : E_s_l03Folded P ρ) {n i : Nat} {p : Int} {f s : By} {b : Bool} (hp : 1 ≤ p) (hp2 : p ≤ 256) (hn : n ≤ 8) (hi : i < 8) :
    CallOK P ρ 80 [.ag [p, (n : Int)] 1106 f, .i .i64 (i : Int), .ag [] 64 s, .b b] [] (.one (.ag [] 8 (vec 8 p (fldT n f s b i)))) [] := by
  refine call_of_vc B.fn B.mo E.1 rfl rfl ?_
  refine ⟨0, rfl, ?_⟩
  refine ⟨1, rfl, ?_⟩
  refine ⟨2, rfl, ?_⟩
  refine .inl ⟨3, [], _, _, _, _, [_, _, _], rfl, s_l03Algebra_ok B E.2.1 , rfl, trivial, rfl, rfl, ?_⟩
  refine ⟨3, rfl, ?_⟩
  refine ⟨4, rfl, ?_⟩
  refine ⟨⟨rfl, by first | omega | (simp <;> omega), by first | omega | (simp <;> omega)⟩, ?_⟩   -- sta ['.t', 9] ['.t', 15] 8
  refine .inl ⟨(fun a1 a3 b0 b1 b2 i0 => St.mk [(1, a1), (3, a3), (4, .one (.pt 0 0)), (6, .one (.pt 1 0)), (8, .one (.pt 2 0)), (9, .one (.pt 3 0)), (10, .one (.pt 4 0)), (11, .one (.i .i64 ((i0 : Nat) : Int)))] [b0, b1, b2, Blk.mk false (.by [] 8 (vec 8 p fun y => sm i0 fun j => sm n fun k => bz f (530 + i * 64 + j * 8 + k) * prT n f s b j k y)), Blk.mk false (.by [p, (n : Int)] 522 f)]) _ _ _ _ _ , fun i0 => True, n, trivial, ⟨⟨rfl, rfl, rfl, rfl, rfl, rfl, rfl, rfl, trivial⟩, ⟨rfl, rfl, rfl, ?_, rfl, trivial⟩, rfl⟩, fun i0 hi0 _ => ?_⟩
  · refine blk_by ?_
    rw [z_sta]
    exact vec_0.symm
  refine ⟨fun h21 => ?_, fun h21 => ?_⟩
  · replace h21 := of_decide_eq_true h21
    refine .inl ⟨(fun a1 a3 a11 b0 b1 b2 b4 i1 => St.mk [(1, a1), (3, a3), (4, .one (.pt 0 0)), (6, .one (.pt 1 0)), (8, .one (.pt 2 0)), (9, .one (.pt 3 0)), (10, .one (.pt 4 0)), (11, a11), (12, .one (.i .i64 ((i1 : Nat) : Int)))] [b0, b1, b2, Blk.mk false (.by [] 8 (vec 8 p fun y => sm i0 (fun j => sm n fun k => bz f (530 + i * 64 + j * 8 + k) * prT n f s b j k y) + sm i1 fun k => bz f (530 + i * 64 + i0 * 8 + k) * prT n f s b i0 k y)), b4]) _ _ _ _ _ _ _ , fun i1 => True, n, trivial, ⟨⟨rfl, rfl, rfl, rfl, rfl, rfl, rfl, rfl, rfl, trivial⟩, ⟨rfl, rfl, rfl, ?_, rfl, trivial⟩, rfl⟩, fun i1 hi1 _ => ?_⟩
    · refine blk_by (vec_congr fun y _ => cg_of_eq ?_)
      simp only [sm, Int.add_zero]
    have q0 := bz_nn f (530 + i * 64 + i0 * 8 + i1)
    have q1 := bz_le f (530 + i * 64 + i0 * 8 + i1)
    refine ⟨fun h27 => ?_, fun h27 => ?_⟩
    · replace h27 := of_decide_eq_true h27
      refine ⟨i, 530 + i * 64, rfl, by omega, by omega, ?_⟩
      refine ⟨i0, 530 + i * 64 + i0 * 8, rfl, by omega, by omega, ?_⟩
      refine ⟨i1, 530 + i * 64 + i0 * 8 + i1, rfl, by omega, by omega, ?_⟩
      refine ⟨⟨by first | omega | (simp <;> omega), by first | omega | (simp <;> omega)⟩, ?_⟩
      refine ⟨fun h40 => ?_, fun h40 => ?_⟩
      · replace h40 := bne_t h40
        refine ⟨i0, i0 * 8, rfl, by omega, by omega, ?_⟩
        refine ⟨⟨by first | omega | (simp <;> omega), by first | omega | (simp <;> omega)⟩, ?_⟩
        refine ⟨5, [], _, _, _, _, [_, _, _, _, _], rfl, s_l01Basis_ok B E.2.2.1 (i := i1) (by omega), rfl, trivial, rfl, rfl, rfl, ?_⟩
        refine ⟨5, [], _, _, _, _, [_, _, _, _, _], rfl, s_l01Times_ok B E.2.2.2.1 hp hp2 hn, rfl, trivial, rfl, rfl, rfl, ?_⟩
        refine ⟨5, rfl, ?_⟩
        refine ⟨⟨rfl, by first | omega | (simp <;> omega), by first | omega | (simp <;> omega)⟩, ?_⟩   -- sta ['.t', 14] ['.t', 47] 8
        refine ⟨fun h48 => ?_, fun h48 => ?_⟩
        · skip
          refine ⟨6, [], _, _, _, _, [_, _, _, _, _, _], rfl, s_l01Basis_ok B E.2.2.1 (i := i0) (by omega), rfl, trivial, rfl, rfl, rfl, ?_⟩
          refine ⟨i1, i1 * 8, rfl, by omega, by omega, ?_⟩
          refine ⟨⟨by first | omega | (simp <;> omega), by first | omega | (simp <;> omega)⟩, ?_⟩
          refine .inl ⟨6, [], _, _, _, _, [_, _, _, _, _, _], rfl, s_l01Times_ok B E.2.2.2.1 hp hp2 hn, rfl, trivial, rfl, rfl, ?_⟩
          refine ⟨⟨rfl, by first | omega | (simp <;> omega), by first | omega | (simp <;> omega)⟩, ?_⟩   -- sta ['.t', 14] ['.t', 55] 8
          refine ⟨⟨by first | omega | (simp <;> omega), by first | omega | (simp <;> omega)⟩, ?_⟩
          refine ⟨⟨by first | omega | (simp <;> omega), by first | omega | (simp <;> omega)⟩, ?_⟩
          refine .inl ⟨6, [], _, _, _, _, [_, _, _, _, _, _], rfl, s_l01Add_ok B E.2.2.2.2 (k := bz f (530 + i * 64 + i0 * 8 + i1)) hp (by omega) (by omega) (by omega), rfl, trivial, rfl, rfl, ?_⟩
          refine ⟨⟨rfl, by first | omega | (simp <;> omega), by first | omega | (simp <;> omega)⟩, ?_⟩   -- sta ['.t', 9] ['.t', 61] 8
          refine ⟨((i1 + 1 : Nat) : Int), w64_id _ (by omega) (by omega), ?_⟩
          refine ⟨by omega, trivial, ⟨rfl, rfl, rfl, rfl, rfl, rfl, rfl, rfl, rfl, trivial⟩, ⟨rfl, rfl, rfl, ?_, rfl, trivial⟩, rfl⟩
          refine blk_by ?_
          rw [spl_plsN, pl_vec0 hp hp2]
          refine vec_congr fun y hy => cg.symm ((cg_of_eq (Int.add_assoc _ _ _)).trans (cg_add rfl (cg_add rfl (cg_mul rfl ?_))))
          rw [bz_own hy, prT, if_pos h48]
          exact cg_vec hp hp2 hy
        · skip
          refine ⟨⟨by first | omega | (simp <;> omega), by first | omega | (simp <;> omega)⟩, ?_⟩
          refine ⟨⟨by first | omega | (simp <;> omega), by first | omega | (simp <;> omega)⟩, ?_⟩
          refine .inl ⟨6, [], _, _, _, _, [_, _, _, _, _, _], rfl, s_l01Add_ok B E.2.2.2.2 (k := bz f (530 + i * 64 + i0 * 8 + i1)) hp (by omega) (by omega) (by omega), rfl, trivial, rfl, rfl, ?_⟩
          refine ⟨⟨rfl, by first | omega | (simp <;> omega), by first | omega | (simp <;> omega)⟩, ?_⟩   -- sta ['.t', 9] ['.t', 61] 8
          refine ⟨((i1 + 1 : Nat) : Int), w64_id _ (by omega) (by omega), ?_⟩
          refine ⟨by omega, trivial, ⟨rfl, rfl, rfl, rfl, rfl, rfl, rfl, rfl, rfl, trivial⟩, ⟨rfl, rfl, rfl, ?_, rfl, trivial⟩, rfl⟩
          refine blk_by ?_
          rw [spl_plsN, pl_vec0 hp hp2]
          refine vec_congr fun y hy => cg.symm ((cg_of_eq (Int.add_assoc _ _ _)).trans (cg_add rfl (cg_add rfl (cg_mul rfl ?_))))
          rw [bz_own hy, prT, if_neg (by simp [h48])]
          exact cg_vec hp hp2 hy
      · replace h40 := bne_f h40
        refine ⟨((i1 + 1 : Nat) : Int), w64_id _ (by omega) (by omega), ?_⟩
        refine ⟨by omega, trivial, ⟨rfl, rfl, rfl, rfl, rfl, rfl, rfl, rfl, rfl, trivial⟩, ⟨rfl, rfl, rfl, ?_, rfl, trivial⟩, rfl⟩
        refine blk_by (vec_congr fun y _ => cg_add rfl (cg_of_eq ?_))
        simp only [sm]
        rw [show bz f (530 + i * 64 + i0 * 8 + i1) = 0 from h40, Int.zero_mul, Int.add_zero]
    · replace h27 := of_decide_eq_false h27
      have e1 : n = i1 := by omega
      subst e1
      refine ⟨((i0 + 1 : Nat) : Int), w64_id _ (by omega) (by omega), ?_⟩
      exact ⟨by omega, trivial, ⟨rfl, rfl, rfl, rfl, rfl, rfl, rfl, rfl, trivial⟩, ⟨rfl, rfl, rfl, rfl, rfl, trivial⟩, rfl⟩
  · replace h21 := of_decide_eq_false h21
    have e0 : n = i0 := by omega
    subst e0
    refine ⟨⟨by first | omega | (simp <;> omega), by first | omega | (simp <;> omega)⟩, ?_⟩
    refine ⟨⟨rfl, by first | omega | (simp <;> omega), by first | omega | (simp <;> omega)⟩, ?_⟩   -- sta ['.t', 8] ['.t', 62] 8
    refine ⟨rfl, ⟨by first | omega | (simp <;> omega), by first | omega | (simp <;> omega)⟩, [], ?_, rfl, trivial, rfl, rfl⟩
    exact one_ag (out_vec.trans rfl)

theorem s_l03Antipode_ok (B : Bs P ρ) (E : E_s_l03Antipode P ρ) {n : Nat} {p : Int} {f s : By} {b : Bool} (hp : 1 ≤ p) (hp2 : p ≤ 256) (hn : n ≤ 8) :
    CallOK P ρ 66 [.ag [p, (n : Int)] 1106 f, .ag [] 64 s, .b b] [] (.one (.b (decide (∀ i, i < n → AxT p n f s b i)))) [] := by
  refine call_of_vc B.fn B.mo E.1 rfl rfl ?_
  refine ⟨0, rfl, ?_⟩
  refine ⟨1, rfl, ?_⟩
  refine .inl ⟨(fun a2 b0 b1 i0 => St.mk [(2, a2), (3, .one (.pt 0 0)), (4, .one (.pt 1 0)), (7, .one (.i .i64 ((i0 : Nat) : Int)))] [b0, b1]) _ _ _ , fun i0 => ∀ i, i < i0 → AxT p n f s b i, n, fun _ _ => by omega, ⟨⟨rfl, rfl, rfl, rfl, trivial⟩, ⟨rfl, rfl, trivial⟩, rfl⟩, fun i0 hi0 hF0 => ?_⟩
  have q0 := bz_nn f (522 + i0)
  have q1 := bz_le f (522 + i0)
  refine ⟨fun h11 => ?_, fun h11 => ?_⟩
  · replace h11 := of_decide_eq_true h11
    refine ⟨⟨by first | omega | (simp <;> omega), by first | omega | (simp <;> omega)⟩, ?_⟩
    refine ⟨2, [], _, _, _, _, [_, _], rfl, s_l03Folded_ok B E.2.1 (i := i0) hp hp2 hn (by omega), rfl, trivial, rfl, rfl, rfl, ?_⟩
    refine ⟨⟨by first | omega | (simp <;> omega), by first | omega | (simp <;> omega)⟩, ?_⟩
    refine ⟨i0, 522 + i0, rfl, by omega, by omega, ?_⟩
    refine ⟨⟨by first | omega | (simp <;> omega), by first | omega | (simp <;> omega)⟩, ?_⟩
    refine .inl ⟨2, [], _, _, _, _, [_, _], rfl, s_l01Add_ok B E.2.2 (k := bz f (522 + i0)) hp (by omega) (by omega) (by omega), rfl, trivial, rfl, rfl, ?_⟩
    have e30 : (vec 8 p fun y => bz (fun _ => 0) y + bz f (522 + i0) * bz (sh f 2) y) = vec 8 p fun y => bz f (522 + i0) * bz f (2 + y) := vec_congr fun y _ => cg_of_eq (Int.zero_add _)
    refine ⟨fun h30 => ?_, fun h30 => ?_⟩
    · skip
      have z30 := neB_t h30
      rw [sh_zero s] at z30
      refine ⟨rfl, [], ?_, rfl, trivial, rfl, rfl⟩
      exact one_b (dec_f fun q => z30 fun x _ => congrFun ((q i0 (by omega)).trans e30.symm) x)
    · skip
      have z30 := neB_f h30
      rw [sh_zero s] at z30
      refine ⟨((i0 + 1 : Nat) : Int), w64_id _ (by omega) (by omega), ?_⟩
      refine ⟨by omega, ?_, ⟨rfl, rfl, rfl, rfl, trivial⟩, ⟨rfl, rfl, trivial⟩, rfl⟩
      intro k hk
      by_cases e : k = i0
      · subst e
        exact (vec_ext (fun x hx => vec_out hx) z30).trans e30
      · exact hF0 k (by omega)
  · replace h11 := of_decide_eq_false h11
    have e0 : n = i0 := by omega
    subst e0
    refine ⟨rfl, [], ?_, rfl, trivial, rfl, rfl⟩
    exact one_b (dec_t hF0)

end Hf
namespace Hf
open Go Classical
variable {P : Program} {ρ : Nat → FuncId}
/-- the first of the axioms 1 to 5 that does not hold -/
noncomputable def bia (p : Int) (n : Nat) (f : By) : Int :=
  if ¬ AxN p n f 0 then 1 else if ¬ AxN p n f 1 then 2 else if ¬ AxN p n f 2 then 3 else if ¬ AxN p n f 3 then 4 else if ¬ AxN p n f 4 then 5 else 0
theorem bia1 {p : Int} {n : Nat} {f : By} (h : ¬ AxN p n f 0) : 1 = bia p n f := by unfold bia; rw [if_pos h]
theorem bia2 {p : Int} {n : Nat} {f : By} (h0 : AxN p n f 0) (h : ¬ AxN p n f 1) : 2 = bia p n f := by unfold bia; rw [if_neg (not_not_intro h0), if_pos h]
theorem bia3 {p : Int} {n : Nat} {f : By} (h0 : AxN p n f 0) (h1 : AxN p n f 1) (h : ¬ AxN p n f 2) : 3 = bia p n f := by unfold bia; rw [if_neg (not_not_intro h0), if_neg (not_not_intro h1), if_pos h]
theorem bia4 {p : Int} {n : Nat} {f : By} (h0 : AxN p n f 0) (h1 : AxN p n f 1) (h2 : AxN p n f 2) (h : ¬ AxN p n f 3) : 4 = bia p n f := by unfold bia; rw [if_neg (not_not_intro h0), if_neg (not_not_intro h1), if_neg (not_not_intro h2), if_pos h]
theorem bia5 {p : Int} {n : Nat} {f : By} (h0 : AxN p n f 0) (h1 : AxN p n f 1) (h2 : AxN p n f 2) (h3 : AxN p n f 3) (h : ¬ AxN p n f 4) : 5 = bia p n f := by unfold bia; rw [if_neg (not_not_intro h0), if_neg (not_not_intro h1), if_neg (not_not_intro h2), if_neg (not_not_intro h3), if_pos h]
theorem bia0 {p : Int} {n : Nat} {f : By} (h0 : AxN p n f 0) (h1 : AxN p n f 1) (h2 : AxN p n f 2) (h3 : AxN p n f 3) (h : AxN p n f 4) : 0 = bia p n f := by unfold bia; rw [if_neg (not_not_intro h0), if_neg (not_not_intro h1), if_neg (not_not_intro h2), if_neg (not_not_intro h3), if_neg (not_not_intro h)]
theorem bia_0 {p : Int} {n : Nat} {f : By} : bia p n f = 0 ↔ ∀ i, i < 5 → AxN p n f i := by
  constructor
  · intro h
    have h0 : AxN p n f 0 := Classical.byContradiction fun q => by rw [← bia1 q] at h; cases h
    have h1 : AxN p n f 1 := Classical.byContradiction fun q => by rw [← bia2 h0 q] at h; cases h
    have h2 : AxN p n f 2 := Classical.byContradiction fun q => by rw [← bia3 h0 h1 q] at h; cases h
    have h3 : AxN p n f 3 := Classical.byContradiction fun q => by rw [← bia4 h0 h1 h2 q] at h; cases h
    have h4 : AxN p n f 4 := Classical.byContradiction fun q => by rw [← bia5 h0 h1 h2 h3 q] at h; cases h
    intro i hi
    have : i = 0 ∨ i = 1 ∨ i = 2 ∨ i = 3 ∨ i = 4 := by omega
    rcases this with rfl | rfl | rfl | rfl | rfl <;> assumption
  · intro h
    exact (bia0 (h 0 (by omega)) (h 1 (by omega)) (h 2 (by omega)) (h 3 (by omega)) (h 4 (by omega))).symm
/-- the fourth of them by rows -/
theorem Ax4_iff {p : Int} {n : Nat} {f : By} (h : HShp p n f) : Ax4 p n f ↔ ∀ j, j < n → ∀ x, x < 8 → vec 64 p (cop n f 530 (sh f 2)) (j * 8 + x) = vec 8 p (fun y => bz (fun _ => 0) y + bz f (2 + j) * bz (sh f 2) y) x := by
  have hb := h.b
  unfold Ax4
  have e1 : ∀ j x, j < 8 → x < 8 → vec 8 p (fun y => bz (fun _ => 0) y + bz f (2 + j) * bz (sh f 2) y) x = vec 64 p (fun y => bz f (2 + y / 8) * bz f (2 + y % 8)) (j * 8 + x) := by
    intro j x hj hx
    simp only [vec]
    rw [if_pos hx, if_pos (by omega), show (j * 8 + x) / 8 = j by omega, show (j * 8 + x) % 8 = x by omega]
    have : bz (fun _ => 0) x = 0 := rfl
    rw [this, Int.zero_add]; rfl
  constructor
  · intro q j hj x hx
    rw [q, e1 j x (by omega) hx]
  · intro q
    refine vec_ext (fun x hx => vec_out hx) fun x hx => ?_
    by_cases hj : x / 8 < n
    · have := q (x / 8) hj (x % 8) (by omega)
      rw [e1 (x / 8) (x % 8) (by omega) (by omega), show x / 8 * 8 + x % 8 = x by omega] at this
      exact this
    · simp only [vec]
      rw [if_pos hx, if_pos hx]
      congr 2
      rw [cop, if_neg hj, h.unit (by omega) (by omega), Int.zero_mul]

theorem s_l03Bialgebra_ok (B : Bs P ρ) (E : E_s_l03Bialgebra P ρ) {n : Nat} {p : Int} {f : By} (h : HShp p n f) :
    CallOK P ρ 65 [.ag [p, (n : Int)] 1106 f] [] (.one (.i .i64 (bia p n f))) [] := by
  refine call_of_vc B.fn B.mo E.1 rfl rfl ?_
  have hb := h.b
  refine ⟨0, rfl, ?_⟩
  refine ⟨1, [], _, _, _, _, [_], rfl, s_l03Algebra_ok B E.2.1 , rfl, trivial, rfl, rfl, rfl, ?_⟩
  refine ⟨1, rfl, ?_⟩
  refine .inl ⟨2, [], _, _, _, _, [_, _], rfl, s_l01Is_ok B E.2.2.1 , rfl, trivial, rfl, rfl, ?_⟩
  refine ⟨fun h15 => ?_, fun h15 => ?_⟩
  · skip
    have a0 : ¬ AxN p n f 0 := dec_elim_t' (not_t h15)
    refine ⟨rfl, [], ?_, rfl, trivial, rfl, rfl⟩
    exact one_i (bia1 a0)
  · skip
    have a0 : AxN p n f 0 := dec_elim_t (not_f h15)
    refine .inl ⟨2, [], _, _, _, _, [_, _], rfl, s_l03Coalgebra_ok B E.2.2.2.1 , rfl, trivial, rfl, rfl, ?_⟩
    refine .inl ⟨2, [], _, _, _, _, [_, _], rfl, s_l02Is_ok B E.2.2.2.2.1 , rfl, trivial, rfl, rfl, ?_⟩
    refine ⟨fun h19 => ?_, fun h19 => ?_⟩
    · skip
      have a1 : ¬ AxN p n f 1 := dec_elim_t' (not_t h19)
      refine ⟨rfl, [], ?_, rfl, trivial, rfl, rfl⟩
      exact one_i (bia2 a0 a1)
    · skip
      have a1 : AxN p n f 1 := dec_elim_t (not_f h19)
      refine .inl ⟨(fun a3 b0 b1 i0 => St.mk [(1, .one (.pt 0 0)), (3, a3), (5, .one (.i .i64 ((i0 : Nat) : Int)))] [b0, b1]) _ _ _ , fun i0 => ∀ i, i < i0 → ∀ j, j < n → Ax3 p n f i j, n, fun _ _ => by omega, ⟨⟨rfl, rfl, rfl, trivial⟩, ⟨rfl, rfl, trivial⟩, rfl⟩, fun i0 hi0 hF0 => ?_⟩
      refine ⟨fun h26 => ?_, fun h26 => ?_⟩
      · replace h26 := of_decide_eq_true h26
        refine .inl ⟨(fun a3 a5 b0 b1 i1 => St.mk [(1, .one (.pt 0 0)), (3, a3), (5, a5), (6, .one (.i .i64 ((i1 : Nat) : Int)))] [b0, b1]) _ _ _ _ , fun i1 => ∀ j, j < i1 → Ax3 p n f i0 j, n, fun _ _ => by omega, ⟨⟨rfl, rfl, rfl, rfl, trivial⟩, ⟨rfl, rfl, trivial⟩, rfl⟩, fun i1 hi1 hF1 => ?_⟩
        refine ⟨fun h31 => ?_, fun h31 => ?_⟩
        · replace h31 := of_decide_eq_true h31
          refine ⟨i0, 10 + i0 * 64, rfl, by omega, by omega, ?_⟩
          refine ⟨i1, 10 + i0 * 64 + i1 * 8, rfl, by omega, by omega, ?_⟩
          refine ⟨⟨by first | omega | (simp <;> omega), by first | omega | (simp <;> omega)⟩, ?_⟩
          refine ⟨2, [], _, _, _, _, [_, _], rfl, s_l03Coproduct_ok B E.2.2.2.2.2.1 (by omega) (by omega) (by omega), rfl, trivial, rfl, rfl, rfl, ?_⟩
          refine ⟨i0, 530 + i0 * 64, rfl, by omega, by omega, ?_⟩
          refine ⟨⟨by first | omega | (simp <;> omega), by first | omega | (simp <;> omega)⟩, ?_⟩
          refine ⟨i1, 530 + i1 * 64, rfl, by omega, by omega, ?_⟩
          refine ⟨⟨by first | omega | (simp <;> omega), by first | omega | (simp <;> omega)⟩, ?_⟩
          refine .inl ⟨2, [], _, _, _, _, [_, _], rfl, s_l03Pairs_ok B E.2.2.2.2.2.2.1 h (by omega) (by omega) (by omega), rfl, trivial, rfl, rfl, ?_⟩
          refine ⟨fun h52 => ?_, fun h52 => ?_⟩
          · skip
            have z52 := neB_t h52
            refine ⟨rfl, [], ?_, rfl, trivial, rfl, rfl⟩
            refine one_i (bia3 a0 a1 fun q => z52 fun x _ => ?_)
            have := congrFun (q i0 i1 (by omega) (by omega)) x
            rw [this]
            exact congrFun (congrArg (vec 64 p) (funext fun z => trs_eq.symm)) x
          · skip
            have z52 := neB_f h52
            refine ⟨((i1 + 1 : Nat) : Int), w64_id _ (by omega) (by omega), ?_⟩
            refine ⟨by omega, ?_, ⟨rfl, rfl, rfl, rfl, trivial⟩, ⟨rfl, rfl, trivial⟩, rfl⟩
            intro j hj
            by_cases e : j = i1
            · subst e
              refine (vec_ext (fun x hx => vec_out hx) z52).trans ?_
              exact congrArg (vec 64 p) (funext fun z => trs_eq)
            · exact hF1 j (by omega)
        · replace h31 := of_decide_eq_false h31
          have e1 : n = i1 := by omega
          subst e1
          refine ⟨((i0 + 1 : Nat) : Int), w64_id _ (by omega) (by omega), ?_⟩
          refine ⟨by omega, ?_, ⟨rfl, rfl, rfl, trivial⟩, ⟨rfl, rfl, trivial⟩, rfl⟩
          intro i hi j hj
          by_cases e : i = i0
          · subst e; exact hF1 j hj
          · exact hF0 i (by omega) j hj
      · replace h26 := of_decide_eq_false h26
        have e0 : n = i0 := by omega
        subst e0
        refine ⟨⟨by first | omega | (simp <;> omega), by first | omega | (simp <;> omega)⟩, ?_⟩
        refine .inl ⟨2, [], _, _, _, _, [_, _], rfl, s_l03Coproduct_ok B E.2.2.2.2.2.1 (by omega) (by omega) (by omega), rfl, trivial, rfl, rfl, ?_⟩
        refine ⟨2, rfl, ?_⟩
        refine ⟨⟨rfl, by first | omega | (simp <;> omega), by first | omega | (simp <;> omega)⟩, ?_⟩   -- sta ['.t', 7] ['.t', 56] 64
        have a2 : AxN p n f 2 := fun i j hi hj => hF0 i hi j hj
        refine .inl ⟨(fun a3 b0 b1 i2 => St.mk [(1, .one (.pt 0 0)), (3, a3), (7, .one (.pt 2 0)), (8, .one (.i .i64 ((i2 : Nat) : Int)))] [b0, b1, Blk.mk false (.by [] 64 (vec 64 p (cop n f 530 (sh f 2))))]) _ _ _ , fun i2 => ∀ j, j < i2 → ∀ x, x < 8 → vec 64 p (cop n f 530 (sh f 2)) (j * 8 + x) = vec 8 p (fun y => bz (fun _ => 0) y + bz f (2 + j) * bz (sh f 2) y) x, n, fun _ _ => by omega, ⟨⟨rfl, rfl, rfl, rfl, trivial⟩, ⟨rfl, rfl, ?_, trivial⟩, rfl⟩, fun i2 hi2 hF2 => ?_⟩
        · exact blk_by (z_spl _ _ fun _ h => vec_out h).symm
        have q0 := bz_nn f (2 + i2)
        have q1 := bz_le f (2 + i2)
        have a2 : AxN p n f 2 := fun i j hi hj => hF0 i hi j hj
        refine ⟨fun h59 => ?_, fun h59 => ?_⟩
        · replace h59 := of_decide_eq_true h59
          refine ⟨i2, i2 * 8, rfl, by omega, by omega, ?_⟩
          refine ⟨⟨by first | omega | (simp <;> omega), by first | omega | (simp <;> omega)⟩, ?_⟩
          refine ⟨⟨by first | omega | (simp <;> omega), by first | omega | (simp <;> omega)⟩, ?_⟩
          refine ⟨i2, 2 + i2, rfl, by omega, by omega, ?_⟩
          refine ⟨⟨by first | omega | (simp <;> omega), by first | omega | (simp <;> omega)⟩, ?_⟩
          refine ⟨3, [], _, _, _, _, [_, _, _], rfl, s_l01Add_ok B E.2.2.2.2.2.2.2.1 (k := bz f (2 + i2)) (by omega) (by omega) (by omega) (by omega), rfl, trivial, rfl, rfl, rfl, ?_⟩
          refine ⟨fun h76 => ?_, fun h76 => ?_⟩
          · skip
            have z76 := neB_t h76
            refine ⟨rfl, [], ?_, rfl, trivial, rfl, rfl⟩
            refine one_i (bia4 a0 a1 a2 fun q => z76 fun x hx => ?_)
            exact (Ax4_iff h).1 q i2 (by omega) x hx
          · skip
            have z76 := neB_f h76
            refine ⟨((i2 + 1 : Nat) : Int), w64_id _ (by omega) (by omega), ?_⟩
            refine ⟨by omega, ?_, ⟨rfl, rfl, rfl, rfl, trivial⟩, ⟨rfl, rfl, rfl, trivial⟩, rfl⟩
            intro j hj
            by_cases e : j = i2
            · subst e; exact z76
            · exact hF2 j (by omega)
        · replace h59 := of_decide_eq_false h59
          have e2 : n = i2 := by omega
          subst e2
          have a3 : AxN p n f 3 := (Ax4_iff h).2 hF2
          refine .inl ⟨(fun a3 b0 b1 b2 i3 => St.mk [(1, .one (.pt 0 0)), (3, a3), (9, .one (.i .i64 ((i3 : Nat) : Int)))] [b0, b1, b2]) _ _ _ _ , fun i3 => ∀ i, i < i3 → ∀ j, j < n → Ax5 p n f i j, n, fun _ _ => by omega, ⟨⟨rfl, rfl, rfl, trivial⟩, ⟨rfl, rfl, rfl, trivial⟩, rfl⟩, fun i3 hi3 hF3 => ?_⟩
          refine ⟨fun h79 => ?_, fun h79 => ?_⟩
          · replace h79 := of_decide_eq_true h79
            refine .inl ⟨(fun a3 a9 b0 b1 b2 i4 => St.mk [(1, .one (.pt 0 0)), (3, a3), (9, a9), (10, .one (.i .i64 ((i4 : Nat) : Int)))] [b0, b1, b2]) _ _ _ _ _ , fun i4 => ∀ j, j < i4 → Ax5 p n f i3 j, n, fun _ _ => by omega, ⟨⟨rfl, rfl, rfl, rfl, trivial⟩, ⟨rfl, rfl, rfl, trivial⟩, rfl⟩, fun i4 hi4 hF4 => ?_⟩
            have q0 := bz2 f f (522 + i3) (522 + i4)
            refine ⟨fun h84 => ?_, fun h84 => ?_⟩
            · replace h84 := of_decide_eq_true h84
              refine ⟨i3, 10 + i3 * 64, rfl, by omega, by omega, ?_⟩
              refine ⟨i4, 10 + i3 * 64 + i4 * 8, rfl, by omega, by omega, ?_⟩
              refine ⟨⟨by first | omega | (simp <;> omega), by first | omega | (simp <;> omega)⟩, ?_⟩
              refine ⟨3, [], _, _, _, _, [_, _, _], rfl, s_l03Counit_ok B E.2.2.2.2.2.2.2.2 (by omega) (by omega) (by omega), rfl, trivial, rfl, rfl, rfl, ?_⟩
              refine ⟨i3, 522 + i3, rfl, by omega, by omega, ?_⟩
              refine ⟨⟨by first | omega | (simp <;> omega), by first | omega | (simp <;> omega)⟩, ?_⟩
              refine ⟨i4, 522 + i4, rfl, by omega, by omega, ?_⟩
              refine ⟨⟨by first | omega | (simp <;> omega), by first | omega | (simp <;> omega)⟩, ?_⟩
              refine ⟨bz f (522 + i3) * bz f (522 + i4), w64_id (bz f (522 + i3) * bz f (522 + i4)) (by omega) (by omega), ?_⟩
              refine ⟨by omega, bz f (522 + i3) * bz f (522 + i4) % p, Int.tmod_eq_emod_of_nonneg q0.1, ?_⟩
              refine ⟨fun h109 => ?_, fun h109 => ?_⟩
              · replace h109 := bne_t h109
                refine ⟨rfl, [], ?_, rfl, trivial, rfl, rfl⟩
                exact one_i (bia5 a0 a1 a2 a3 fun q => h109 (q.1 i3 i4 (by omega) (by omega)))
              · replace h109 := bne_f h109
                refine ⟨((i4 + 1 : Nat) : Int), w64_id _ (by omega) (by omega), ?_⟩
                refine ⟨by omega, ?_, ⟨rfl, rfl, rfl, rfl, trivial⟩, ⟨rfl, rfl, rfl, trivial⟩, rfl⟩
                intro j hj
                by_cases e : j = i4
                · subst e; exact h109
                · exact hF4 j (by omega)
            · replace h84 := of_decide_eq_false h84
              have e4 : n = i4 := by omega
              subst e4
              refine ⟨((i3 + 1 : Nat) : Int), w64_id _ (by omega) (by omega), ?_⟩
              refine ⟨by omega, ?_, ⟨rfl, rfl, rfl, trivial⟩, ⟨rfl, rfl, rfl, trivial⟩, rfl⟩
              intro i hi j hj
              by_cases e : i = i3
              · subst e; exact hF4 j hj
              · exact hF3 i (by omega) j hj
          · replace h79 := of_decide_eq_false h79
            have e3 : n = i3 := by omega
            subst e3
            refine ⟨⟨by first | omega | (simp <;> omega), by first | omega | (simp <;> omega)⟩, ?_⟩
            refine .inl ⟨3, [], _, _, _, _, [_, _, _], rfl, s_l03Counit_ok B E.2.2.2.2.2.2.2.2 (by omega) (by omega) (by omega), rfl, trivial, rfl, rfl, ?_⟩
            refine ⟨fun h114 => ?_, fun h114 => ?_⟩
            · replace h114 := bne_t h114
              refine ⟨rfl, [], ?_, rfl, trivial, rfl, rfl⟩
              exact one_i (bia5 a0 a1 a2 a3 fun q => h114 q.2)
            · replace h114 := bne_f h114
              refine ⟨rfl, [], ?_, rfl, trivial, rfl, rfl⟩
              exact one_i (bia0 a0 a1 a2 a3 ⟨fun i j hi hj => hF3 i hi j hj, h114⟩)

theorem s_l03Fails_ok (B : Bs P ρ) (E : E_s_l03Fails P ρ) {n : Nat} {p : Int} {f : By} (h : HShp p n f) :
    CallOK P ρ 46 [.ag [p, (n : Int)] 1106 f] [] (.one (.i .i64 (if bia p n f ≠ 0 then bia p n f else if ¬ AxN p n f 5 then 6 else if ¬ AxN p n f 6 then 7 else 0))) [] := by
  refine call_of_vc B.fn B.mo E.1 rfl rfl ?_
  have hb := h.b
  refine ⟨0, rfl, ?_⟩
  refine .inl ⟨1, [], _, _, _, _, [_], rfl, s_l03Bialgebra_ok B E.2.1 h, rfl, trivial, rfl, rfl, ?_⟩
  refine ⟨fun h6 => ?_, fun h6 => ?_⟩
  · replace h6 := bne_t h6
    have h6' : bia p n f ≠ 0 := h6
    refine ⟨rfl, [], ?_, rfl, trivial, rfl, rfl⟩
    exact one_i (if_pos h6').symm
  · replace h6 := bne_f h6
    have h6' : ¬ bia p n f ≠ 0 := fun q => q h6
    refine ⟨⟨by first | omega | (simp <;> omega), by first | omega | (simp <;> omega)⟩, ?_⟩
    refine .inl ⟨1, [], _, _, _, _, [_], rfl, s_l03Antipode_ok B E.2.2 (by omega) (by omega) (by omega), rfl, trivial, rfl, rfl, ?_⟩
    refine ⟨fun h10 => ?_, fun h10 => ?_⟩
    · skip
      have h10' : ¬ AxN p n f 5 := fun q => dec_elim_t' (not_t h10) fun i hi => AxT_eq.2 (q i hi)
      refine ⟨rfl, [], ?_, rfl, trivial, rfl, rfl⟩
      exact one_i (by rw [if_neg h6', if_pos h10'])
    · skip
      have w10 : ∀ i, i < n → AxT p n f (sh f 1042) false i := dec_elim_t (not_f h10)
      have v10 : AxN p n f 5 := show ∀ i, i < n → AxS p n f true i from fun i hi => (AxT_eq (b := false)).1 (w10 i hi)
      have h10' : ¬ ¬ AxN p n f 5 := not_not_intro v10
      refine ⟨⟨by first | omega | (simp <;> omega), by first | omega | (simp <;> omega)⟩, ?_⟩
      refine .inl ⟨1, [], _, _, _, _, [_], rfl, s_l03Antipode_ok B E.2.2 (by omega) (by omega) (by omega), rfl, trivial, rfl, rfl, ?_⟩
      refine ⟨fun h16 => ?_, fun h16 => ?_⟩
      · skip
        have h16' : ¬ AxN p n f 6 := fun q => dec_elim_t' (not_t h16) fun i hi => AxT_eq.2 (q i hi)
        refine ⟨rfl, [], ?_, rfl, trivial, rfl, rfl⟩
        exact one_i (by rw [if_neg h6', if_neg h10', if_pos h16'])
      · skip
        have w16 : ∀ i, i < n → AxT p n f (sh f 1042) true i := dec_elim_t (not_f h16)
        have v16 : AxN p n f 6 := show ∀ i, i < n → AxS p n f false i from fun i hi => (AxT_eq (b := true)).1 (w16 i hi)
        have h16' : ¬ ¬ AxN p n f 6 := not_not_intro v16
        refine ⟨rfl, [], ?_, rfl, trivial, rfl, rfl⟩
        exact one_i (by rw [if_neg h6', if_neg h10', if_neg h16'])

theorem fails_0 {p : Int} {n : Nat} {f : By} : (if bia p n f ≠ 0 then bia p n f else if ¬ AxN p n f 5 then 6 else if ¬ AxN p n f 6 then 7 else 0) = 0 ↔ ∀ i, i < 7 → AxN p n f i := by
  by_cases h : bia p n f ≠ 0
  · rw [if_pos h]
    exact ⟨fun q => (h q).elim, fun q => (h (bia_0.2 fun i hi => q i (by omega))).elim⟩
  · rw [if_neg h]
    have h' := bia_0.1 (Classical.not_not.1 h)
    by_cases h5 : AxN p n f 5
    · rw [if_neg (not_not_intro h5)]
      by_cases h6 : AxN p n f 6
      · rw [if_neg (not_not_intro h6)]
        refine ⟨fun _ i hi => ?_, fun _ => rfl⟩
        have : i < 5 ∨ i = 5 ∨ i = 6 := by omega
        rcases this with e | rfl | rfl
        · exact h' i e
        · exact h5
        · exact h6
      · rw [if_pos h6]
        exact ⟨fun q => (by omega), fun q => (h6 (q 6 (by omega))).elim⟩
    · rw [if_pos h5]
      exact ⟨fun q => (by omega), fun q => (h5 (q 5 (by omega))).elim⟩

theorem s_l03Is_s_ok (B : Bs P ρ) (E : E_s_l03Is P ρ) {n p : Int} {f : By} (hS : ¬ HShp p n f) :
    CallOK P ρ 24 [.ag [p, n] 1106 f] [] (.one (.b false)) [] := by
  refine call_of_vc B.fn B.mo E.1 rfl rfl ?_
  refine ⟨0, rfl, ?_⟩
  refine .inl ⟨1, [], _, _, _, _, [_], rfl, s_l03Shape_ok B E.2.1 , rfl, trivial, rfl, rfl, ?_⟩
  refine ⟨fun h5 => ?_, fun h5 => ?_⟩
  · skip
    exact (hS (dec_elim_t h5)).elim
  · skip
    refine brB_f ?_
    refine brB_f ?_
    refine brB_f ?_
    exact ⟨rfl, [], rfl, rfl, trivial, rfl, rfl⟩

theorem s_l03Is_t_ok (B : Bs P ρ) (E : E_s_l03Is P ρ) {n : Nat} {p : Int} {f : By} (h : HShp p n f) :
    CallOK P ρ 24 [.ag [p, (n : Int)] 1106 f] [] (.one (.b (decide (Hop p n f)))) [] := by
  refine call_of_vc B.fn B.mo E.1 rfl rfl ?_
  refine ⟨0, rfl, ?_⟩
  refine .inl ⟨1, [], _, _, _, _, [_], rfl, s_l03Shape_ok B E.2.1 , rfl, trivial, rfl, rfl, ?_⟩
  refine ⟨fun h5 => ?_, fun h5 => ?_⟩
  · skip
    refine brB_t ?_
    refine .inl ⟨1, [], _, _, _, _, [_], rfl, s_l03Fails_ok B E.2.2 h, rfl, trivial, rfl, rfl, ?_⟩
    refine brB_t ?_
    refine brB_t ?_
    refine ⟨rfl, [], ?_, rfl, trivial, rfl, rfl⟩
    refine one_b ?_
    rw [Bool.eq_iff_iff, beq_iff_eq, decide_eq_true_iff]
    exact fails_0.trans ⟨fun q => ⟨h, q⟩, fun q => q.2⟩
  · skip
    exact (dec_elim_t' h5 h).elim

theorem s_l03Is_ok (B : Bs P ρ) (E : E_s_l03Is P ρ) {n p : Int} {f : By} : CallOK P ρ 24 [.ag [p, n] 1106 f] [] (.one (.b (decide (Hop p n f)))) [] := by
  by_cases hS : HShp p n f
  · obtain ⟨m, rfl⟩ : ∃ m : Nat, n = (m : Int) := ⟨n.toNat, by have := hS.1.2.1; omega⟩
    exact s_l03Is_t_ok B E hS
  · rw [decide_eq_false fun q : Hop p n f => hS q.1]
    exact s_l03Is_s_ok B E hS
end Hf
namespace Hf
open Go Classical
variable {P : Program} {ρ : Nat → FuncId}
def cut (n : Nat) (f : By) : By := fun x => if x < n then f x else 0
theorem cut_lt {n : Nat} {f : By} {x : Nat} (h : x < n) : cut n f x = f x := by simp only [cut]; rw [if_pos h]
theorem cut_ge {n : Nat} {f : By} {x : Nat} (h : n ≤ x) : cut n f x = 0 := by simp only [cut]; rw [if_neg (by omega)]
theorem cut_0 {f : By} : cut 0 f = fun _ => 0 := by funext x; exact cut_ge (Nat.zero_le _)
theorem cut_upd {f : By} {i : Nat} : upd (cut i f) i (f i) = cut (i + 1) f := by
  funext x
  simp only [upd, cut]
  by_cases e : x = i
  · subst e; rw [if_pos rfl, if_pos (by omega)]
  · rw [if_neg e]
    by_cases h : x < i
    · rw [if_pos h, if_pos (by omega)]
    · rw [if_neg h, if_neg (by omega)]
theorem cut_spl {f : By} {a m b : Nat} (hb : b = a + m) : spl (cut a f) a m (sh f a) = cut b f := by
  subst hb
  funext x
  simp only [spl, cut, sh]
  by_cases e : a ≤ x ∧ x < a + m
  · rw [if_pos e, if_pos (by omega), show a + (x - a) = x by omega]
  · rw [if_neg e]
    by_cases h : x < a
    · rw [if_pos h, if_pos (by omega)]
    · rw [if_neg h, if_neg (by omega)]
theorem out_cut {n : Nat} {f : By} : sh (spl (fun _ => 0) 0 n (sh (cut n f) 0)) 0 = cut n f := out_eq (fun _ _ => rfl) fun _ h => cut_ge h
theorem eq_cut {n : Nat} {f : By} : eqA (.ag [] n (cut n f)) (.ag [] n f) := ⟨_, rfl, fun _ _ h => cut_lt h⟩

theorem l_toVector_raw_ok (B : Bs P ρ) (E : E_l_toVector P ρ) {f : By} :
    CallOK P ρ 16 [.ag [] 8 f] [] (.one (.ag [] 8 (cut 8 f))) [] := by
  refine call_of_vc B.fn B.mo E rfl rfl ?_
  refine ⟨0, rfl, ?_⟩
  refine ⟨1, rfl, ?_⟩
  refine ⟨2, rfl, ?_⟩
  refine .inl ⟨(fun b0 b1 i0 => St.mk [(1, .one (.pt 0 0)), (2, .one (.pt 1 0)), (3, .one (.pt 2 0)), (4, .one (.i .i64 ((i0 : Nat) : Int)))] [b0, b1, Blk.mk false (.by [] 8 (cut i0 f))]) _ _ , fun i0 => True, 8, trivial, ⟨⟨rfl, rfl, rfl, rfl, trivial⟩, ⟨rfl, rfl, ?_, trivial⟩, rfl⟩, fun i0 hi0 _ => ?_⟩
  · exact blk_by cut_0
  refine ⟨fun h6 => ?_, fun h6 => ?_⟩
  · replace h6 := of_decide_eq_true h6
    refine ⟨i0, i0, rfl, by omega, by omega, ?_⟩
    refine ⟨⟨by first | omega | (simp <;> omega), by first | omega | (simp <;> omega)⟩, ?_⟩
    refine ⟨i0, i0, rfl, by omega, by omega, ?_⟩
    refine ⟨⟨by first | omega | (simp <;> omega), by first | omega | (simp <;> omega)⟩, ?_⟩   -- st8 ['.t', 13] ['.t', 12]
    refine ⟨((i0 + 1 : Nat) : Int), w64_id _ (by omega) (by omega), ?_⟩
    refine ⟨by omega, trivial, ⟨rfl, rfl, rfl, rfl, trivial⟩, ⟨rfl, rfl, ?_, trivial⟩, rfl⟩
    exact blk_by cut_upd.symm
  · replace h6 := of_decide_eq_false h6
    have e0 : 8 = i0 := by omega
    subst e0
    refine ⟨⟨by first | omega | (simp <;> omega), by first | omega | (simp <;> omega)⟩, ?_⟩
    refine ⟨⟨rfl, by first | omega | (simp <;> omega), by first | omega | (simp <;> omega)⟩, ?_⟩   -- sta ['.t', 2] ['.t', 14] 8
    refine ⟨rfl, ⟨by first | omega | (simp <;> omega), by first | omega | (simp <;> omega)⟩, [], ?_, rfl, trivial, rfl, rfl⟩
    exact one_ag out_cut

theorem l_toVector_ok (B : Bs P ρ) (E : E_l_toVector P ρ) {f : By} : CallOK P ρ 16 [.ag [] 8 f] [] (.one (.ag [] 8 f)) [] := (l_toVector_raw_ok B E).conv eqL_rfl eq_cut eqH_rfl

theorem l_toLinear_raw_ok (B : Bs P ρ) (E : E_l_toLinear P ρ) {f : By} :
    CallOK P ρ 26 [.ag [] 64 f] [] (.one (.ag [] 64 (cut 64 f))) [] := by
  refine call_of_vc B.fn B.mo E.1 rfl rfl ?_
  refine ⟨0, rfl, ?_⟩
  refine ⟨1, rfl, ?_⟩
  refine ⟨2, rfl, ?_⟩
  refine .inl ⟨(fun b0 b1 i0 => St.mk [(1, .one (.pt 0 0)), (2, .one (.pt 1 0)), (3, .one (.pt 2 0)), (4, .one (.i .i64 ((i0 : Nat) : Int)))] [b0, b1, Blk.mk false (.by [] 64 (cut (i0 * 8) f))]) _ _ , fun i0 => True, 8, trivial, ⟨⟨rfl, rfl, rfl, rfl, trivial⟩, ⟨rfl, rfl, ?_, trivial⟩, rfl⟩, fun i0 hi0 _ => ?_⟩
  · exact blk_by (by rw [Nat.zero_mul]; exact cut_0)
  refine ⟨fun h6 => ?_, fun h6 => ?_⟩
  · replace h6 := of_decide_eq_true h6
    refine ⟨i0, i0 * 8, rfl, by omega, by omega, ?_⟩
    refine ⟨⟨by first | omega | (simp <;> omega), by first | omega | (simp <;> omega)⟩, ?_⟩
    refine .inl ⟨3, [], _, _, _, _, [_, _, _], rfl, l_toVector_ok B E.2 , rfl, trivial, rfl, rfl, ?_⟩
    refine ⟨i0, i0 * 8, rfl, by omega, by omega, ?_⟩
    refine ⟨⟨rfl, by first | omega | (simp <;> omega), by first | omega | (simp <;> omega)⟩, ?_⟩   -- sta ['.t', 14] ['.t', 13] 8
    refine ⟨((i0 + 1 : Nat) : Int), w64_id _ (by omega) (by omega), ?_⟩
    refine ⟨by omega, trivial, ⟨rfl, rfl, rfl, rfl, trivial⟩, ⟨rfl, rfl, ?_, trivial⟩, rfl⟩
    exact blk_by (cut_spl (by omega)).symm
  · replace h6 := of_decide_eq_false h6
    have e0 : 8 = i0 := by omega
    subst e0
    refine ⟨⟨by first | omega | (simp <;> omega), by first | omega | (simp <;> omega)⟩, ?_⟩
    refine ⟨⟨rfl, by first | omega | (simp <;> omega), by first | omega | (simp <;> omega)⟩, ?_⟩   -- sta ['.t', 2] ['.t', 15] 64
    refine ⟨rfl, ⟨by first | omega | (simp <;> omega), by first | omega | (simp <;> omega)⟩, [], ?_, rfl, trivial, rfl, rfl⟩
    exact one_ag out_cut

theorem l_toLinear_ok (B : Bs P ρ) (E : E_l_toLinear P ρ) {f : By} : CallOK P ρ 26 [.ag [] 64 f] [] (.one (.ag [] 64 f)) [] := (l_toLinear_raw_ok B E).conv eqL_rfl eq_cut eqH_rfl

theorem l_toTable_raw_ok (B : Bs P ρ) (E : E_l_toTable P ρ) {f : By} :
    CallOK P ρ 25 [.ag [] 512 f] [] (.one (.ag [] 512 (cut 512 f))) [] := by
  refine call_of_vc B.fn B.mo E.1 rfl rfl ?_
  refine ⟨0, rfl, ?_⟩
  refine ⟨1, rfl, ?_⟩
  refine ⟨2, rfl, ?_⟩
  refine .inl ⟨(fun b0 b1 i0 => St.mk [(1, .one (.pt 0 0)), (2, .one (.pt 1 0)), (3, .one (.pt 2 0)), (4, .one (.i .i64 ((i0 : Nat) : Int)))] [b0, b1, Blk.mk false (.by [] 512 (cut (i0 * 64) f))]) _ _ , fun i0 => True, 8, trivial, ⟨⟨rfl, rfl, rfl, rfl, trivial⟩, ⟨rfl, rfl, ?_, trivial⟩, rfl⟩, fun i0 hi0 _ => ?_⟩
  · exact blk_by (by rw [Nat.zero_mul]; exact cut_0)
  refine ⟨fun h6 => ?_, fun h6 => ?_⟩
  · replace h6 := of_decide_eq_true h6
    refine ⟨i0, i0 * 64, rfl, by omega, by omega, ?_⟩
    refine ⟨⟨by first | omega | (simp <;> omega), by first | omega | (simp <;> omega)⟩, ?_⟩
    refine .inl ⟨3, [], _, _, _, _, [_, _, _], rfl, l_toLinear_ok B E.2 , rfl, trivial, rfl, rfl, ?_⟩
    refine ⟨i0, i0 * 64, rfl, by omega, by omega, ?_⟩
    refine ⟨⟨rfl, by first | omega | (simp <;> omega), by first | omega | (simp <;> omega)⟩, ?_⟩   -- sta ['.t', 14] ['.t', 13] 64
    refine ⟨((i0 + 1 : Nat) : Int), w64_id _ (by omega) (by omega), ?_⟩
    refine ⟨by omega, trivial, ⟨rfl, rfl, rfl, rfl, trivial⟩, ⟨rfl, rfl, ?_, trivial⟩, rfl⟩
    exact blk_by (cut_spl (by omega)).symm
  · replace h6 := of_decide_eq_false h6
    have e0 : 8 = i0 := by omega
    subst e0
    refine ⟨⟨by first | omega | (simp <;> omega), by first | omega | (simp <;> omega)⟩, ?_⟩
    refine ⟨⟨rfl, by first | omega | (simp <;> omega), by first | omega | (simp <;> omega)⟩, ?_⟩   -- sta ['.t', 2] ['.t', 15] 512
    refine ⟨rfl, ⟨by first | omega | (simp <;> omega), by first | omega | (simp <;> omega)⟩, [], ?_, rfl, trivial, rfl, rfl⟩
    exact one_ag out_cut

theorem l_toTable_ok (B : Bs P ρ) (E : E_l_toTable P ρ) {f : By} : CallOK P ρ 25 [.ag [] 512 f] [] (.one (.ag [] 512 f)) [] := (l_toTable_raw_ok B E).conv eqL_rfl eq_cut eqH_rfl
def hopR (f : By) : By := spl (spl (spl (spl (spl (fun _ => 0) 2 8 (sh f 2)) 10 512 (sh f 10)) 522 8 (sh f 522)) 530 512 (sh f 530)) 1042 64 (sh f 1042)
theorem hopR_eq {f : By} {x : Nat} (h1 : 2 ≤ x) (h2 : x < 1106) : hopR f x = f x := by
  simp only [hopR, spl, sh]
  by_cases e1 : 1042 ≤ x
  · rw [if_pos (by omega), show 1042 + (x - 1042) = x by omega]
  · rw [if_neg (by omega)]
    by_cases e2 : 530 ≤ x
    · rw [if_pos (by omega), show 530 + (x - 530) = x by omega]
    · rw [if_neg (by omega)]
      by_cases e3 : 522 ≤ x
      · rw [if_pos (by omega), show 522 + (x - 522) = x by omega]
      · rw [if_neg (by omega)]
        by_cases e4 : 10 ≤ x
        · rw [if_pos (by omega), show 10 + (x - 10) = x by omega]
        · rw [if_neg (by omega), if_pos (by omega), show 2 + (x - 2) = x by omega]

theorem l_toHopf_raw_ok (B : Bs P ρ) (E : E_l_toHopf P ρ) {p n : Int} {f : By} :
    CallOK P ρ 0 [.ag [p, n] 1106 f] [] (.one (.ag [p, n] 1106 (hopR f))) [] := by
  refine call_of_vc B.fn B.mo E.1 rfl rfl ?_
  refine ⟨0, rfl, ?_⟩
  refine ⟨1, rfl, ?_⟩
  refine ⟨2, rfl, ?_⟩
  refine ⟨⟨by first | omega | (simp <;> omega), by first | omega | (simp <;> omega)⟩, ?_⟩
  refine .inl ⟨3, [], _, _, _, _, [_, _, _], rfl, l_toVector_ok B E.2.1 , rfl, trivial, rfl, rfl, ?_⟩
  refine ⟨⟨rfl, by first | omega | (simp <;> omega), by first | omega | (simp <;> omega)⟩, ?_⟩   -- sta ['.t', 13] ['.t', 12] 8
  refine ⟨⟨by first | omega | (simp <;> omega), by first | omega | (simp <;> omega)⟩, ?_⟩
  refine .inl ⟨3, [], _, _, _, _, [_, _, _], rfl, l_toTable_ok B E.2.2.1 , rfl, trivial, rfl, rfl, ?_⟩
  refine ⟨⟨rfl, by first | omega | (simp <;> omega), by first | omega | (simp <;> omega)⟩, ?_⟩   -- sta ['.t', 17] ['.t', 16] 512
  refine ⟨⟨by first | omega | (simp <;> omega), by first | omega | (simp <;> omega)⟩, ?_⟩
  refine .inl ⟨3, [], _, _, _, _, [_, _, _], rfl, l_toVector_ok B E.2.1 , rfl, trivial, rfl, rfl, ?_⟩
  refine ⟨⟨rfl, by first | omega | (simp <;> omega), by first | omega | (simp <;> omega)⟩, ?_⟩   -- sta ['.t', 21] ['.t', 20] 8
  refine ⟨⟨by first | omega | (simp <;> omega), by first | omega | (simp <;> omega)⟩, ?_⟩
  refine .inl ⟨3, [], _, _, _, _, [_, _, _], rfl, l_toTable_ok B E.2.2.1 , rfl, trivial, rfl, rfl, ?_⟩
  refine ⟨⟨rfl, by first | omega | (simp <;> omega), by first | omega | (simp <;> omega)⟩, ?_⟩   -- sta ['.t', 25] ['.t', 24] 512
  refine ⟨⟨by first | omega | (simp <;> omega), by first | omega | (simp <;> omega)⟩, ?_⟩
  refine .inl ⟨3, [], _, _, _, _, [_, _, _], rfl, l_toLinear_ok B E.2.2.2 , rfl, trivial, rfl, rfl, ?_⟩
  refine ⟨⟨rfl, by first | omega | (simp <;> omega), by first | omega | (simp <;> omega)⟩, ?_⟩   -- sta ['.t', 29] ['.t', 28] 64
  exact ⟨rfl, ⟨by first | omega | (simp <;> omega), by first | omega | (simp <;> omega)⟩, [], rfl, rfl, trivial, rfl, rfl⟩

theorem l_toHopf_ok (B : Bs P ρ) (E : E_l_toHopf P ρ) {p n : Int} {f : By} : CallOK P ρ 0 [.ag [p, n] 1106 f] [] (.one (.ag [p, n] 1106 f)) [] := (l_toHopf_raw_ok B E).conv eqL_rfl ⟨_, rfl, fun _ h1 h2 => hopR_eq h1 h2⟩ eqH_rfl

theorem l_eqVector_ok (B : Bs P ρ) (E : E_l_eqVector P ρ) {f : By} :
    CallOK P ρ 19 [.ag [] 8 f, .ag [] 8 f] [] (.one (.b true)) [] := by
  refine call_of_vc B.fn B.mo E rfl rfl ?_
  refine ⟨0, rfl, ?_⟩
  refine ⟨1, rfl, ?_⟩
  refine .inl ⟨(fun b0 b1 i0 => St.mk [(2, .one (.pt 0 0)), (3, .one (.pt 1 0)), (5, .one (.i .i64 ((i0 : Nat) : Int)))] [b0, b1]) _ _ , fun i0 => True, 8, trivial, ⟨⟨rfl, rfl, rfl, trivial⟩, ⟨rfl, rfl, trivial⟩, rfl⟩, fun i0 hi0 _ => ?_⟩
  refine ⟨fun h7 => ?_, fun h7 => ?_⟩
  · replace h7 := of_decide_eq_true h7
    refine ⟨i0, i0, rfl, by omega, by omega, ?_⟩
    refine ⟨⟨by first | omega | (simp <;> omega), by first | omega | (simp <;> omega)⟩, ?_⟩
    refine ⟨i0, i0, rfl, by omega, by omega, ?_⟩
    refine ⟨⟨by first | omega | (simp <;> omega), by first | omega | (simp <;> omega)⟩, ?_⟩
    refine ⟨fun h16 => ?_, fun h16 => ?_⟩
    · replace h16 := bne_t h16
      exact (h16 rfl).elim
    · replace h16 := bne_f h16
      refine ⟨((i0 + 1 : Nat) : Int), w64_id _ (by omega) (by omega), ?_⟩
      exact ⟨by omega, trivial, ⟨rfl, rfl, rfl, trivial⟩, ⟨rfl, rfl, trivial⟩, rfl⟩
  · replace h7 := of_decide_eq_false h7
    have e0 : 8 = i0 := by omega
    subst e0
    exact ⟨rfl, [], rfl, rfl, trivial, rfl, rfl⟩

noncomputable def ob (q : Prop) (f : By) : By := if q then f else fun _ => 0
noncomputable def oc (q : Prop) (c : Int) : Int := if q then 0 else c
theorem oc_t {q : Prop} (h : q) {c : Int} : oc q c = 0 := if_pos h
theorem oc_f {q : Prop} (h : ¬ q) {c : Int} : oc q c = c := if_neg h

-- left out: i_RegularModule (not among the functions at hand)
-- left out: s_RegularModule (not among the functions at hand)
-- left out: l_FnExactRegularModule (not among the functions at hand)
end Hf
namespace Hf
open Go Classical
variable {P : Program} {ρ : Nat → FuncId}
theorem vec_more {a N : Nat} {p : Int} {X : Nat → Int} (h : a ≤ N) (h0 : ∀ y, a ≤ y → y < N → X y = 0) : vec a p X = vec N p X := by
  funext y
  simp only [vec]
  by_cases e : y < a
  · rw [if_pos e, if_pos (by omega)]
  · rw [if_neg e]
    by_cases e2 : y < N
    · rw [if_pos e2, h0 y (by omega) e2]; simp; rfl
    · rw [if_neg e2]
/-- two linear maps one after the other: first fb, at ob -/
def aft (fa fb : By) (oa ob y : Nat) : Int := sm 8 fun k => bz fb (ob + y / 8 * 8 + k) * bz fa (oa + k * 8 + y % 8)
/-- the linear map that leads each vector to itself -/
def sam (n : Nat) : By := fun y => if y / 8 < n ∧ y % 8 = y / 8 then 1 else 0
theorem sam_0 : sam 0 = fun _ => 0 := by funext y; simp only [sam]; rw [if_neg (by omega)]
theorem sam_s {i : Nat} (hi : i < 8) : spl (sam i) (i * 8) 8 (bas i) = sam (i + 1) := by
  funext y
  simp only [spl, sam, bas]
  by_cases e : i * 8 ≤ y ∧ y < i * 8 + 8
  · rw [if_pos e]
    by_cases e2 : y - i * 8 = i
    · rw [if_pos e2, if_pos (by omega)]
    · rw [if_neg e2, if_neg (by omega)]
  · rw [if_neg e]
    by_cases e2 : y / 8 < i ∧ y % 8 = y / 8
    · rw [if_pos e2, if_pos (by omega)]
    · rw [if_neg e2, if_neg (by omega)]
theorem sam_out {n : Nat} (hn : n ≤ 8) : ∀ y, 64 ≤ y → sam n y = 0 := fun y hy => by simp only [sam]; rw [if_neg (by omega)]

theorem i_field_after_ok (B : Bs P ρ) (E : E_i_field_after P ρ) {p n : Int} {g fa fb : By} {hda hdb : List Int} {Na Nb oa ob : Nat} (hp : 1 ≤ p) (hp2 : p ≤ 256) (hoa : hda.length ≤ oa) (hNa : oa + 64 ≤ Na) (hob : hdb.length ≤ ob) (hNb : ob + 64 ≤ Nb) :
    CallOK P ρ 33 [.ag [p, n] 2 g, .pt 0 oa, .pt 1 ob] [⟨true, .by hda Na fa⟩, ⟨true, .by hdb Nb fb⟩] (.one (.ag [] 64 (vec 64 p (aft fa fb oa ob)))) [⟨true, .by hda Na fa⟩, ⟨true, .by hdb Nb fb⟩] := by
  refine call_of_vc B.fn B.mo E.1 rfl rfl ?_
  refine ⟨2, rfl, ?_⟩
  refine ⟨3, rfl, ?_⟩
  refine ⟨4, rfl, ?_⟩
  refine ⟨⟨rfl, by first | omega | (simp <;> omega), by first | omega | (simp <;> omega)⟩, ?_⟩   -- sta ['.t', 7] ['.t', 9] 64
  refine .inl ⟨(fun a1 a2 b0 b1 b2 b3 i0 => St.mk [(1, a1), (2, a2), (3, .one (.pt 2 0)), (6, .one (.pt 3 0)), (7, .one (.pt 4 0)), (10, .one (.i .i64 ((i0 : Nat) : Int)))] [b0, b1, b2, b3, Blk.mk false (.by [] 64 (vec (i0 * 8) p (aft fa fb oa ob)))]) _ _ _ _ _ _ , fun i0 => True, 8, trivial, ⟨⟨rfl, rfl, rfl, rfl, rfl, rfl, trivial⟩, ⟨rfl, rfl, rfl, rfl, ?_, trivial⟩, rfl⟩, fun i0 hi0 _ => ?_⟩
  · refine blk_by ?_
    rw [z_spl _ _ (fun _ _ => rfl)]
    rfl
  refine ⟨fun h11 => ?_, fun h11 => ?_⟩
  · replace h11 := of_decide_eq_true h11
    refine ⟨i0, ob + i0 * 8, rfl, by omega, by omega, ?_⟩
    refine ⟨⟨by first | omega | (simp <;> omega), by first | omega | (simp <;> omega)⟩, ?_⟩
    refine ⟨5, [0], _, _, _, _, [_, _, _, _, _], rfl, i_field_apply_ok B E.2 (m := 8) hp hp2 hoa hNa (by omega) (fun i h1 h2 => by omega), rfl, ⟨⟨_, rfl, fun h => by first | rfl | cases h⟩, trivial⟩, rfl, rfl, rfl, ?_⟩
    refine ⟨i0, i0 * 8, rfl, by omega, by omega, ?_⟩
    refine ⟨⟨rfl, by first | omega | (simp <;> omega), by first | omega | (simp <;> omega)⟩, ?_⟩   -- sta ['.t', 22] ['.t', 21] 8
    refine ⟨((i0 + 1 : Nat) : Int), w64_id _ (by omega) (by omega), ?_⟩
    refine ⟨by omega, trivial, ⟨rfl, rfl, rfl, rfl, rfl, rfl, trivial⟩, ⟨rfl, rfl, rfl, rfl, ?_, trivial⟩, rfl⟩
    refine blk_by ?_
    rw [show (i0 + 1) * 8 = i0 * 8 + 8 by omega]
    refine (spl_vec (y := fun y => sm 8 fun k => bz fb (ob + i0 * 8 + k) * bz fa (oa + k * 8 + y)) (fun k hk => rfl) fun k hk => ?_).symm
    unfold aft
    rw [show (i0 * 8 + k) / 8 = i0 by omega, show (i0 * 8 + k) % 8 = k by omega]
    rfl
  · replace h11 := of_decide_eq_false h11
    have e0 : 8 = i0 := by omega
    subst e0
    refine ⟨⟨by first | omega | (simp <;> omega), by first | omega | (simp <;> omega)⟩, ?_⟩
    refine ⟨⟨rfl, by first | omega | (simp <;> omega), by first | omega | (simp <;> omega)⟩, ?_⟩   -- sta ['.t', 6] ['.t', 24] 64
    refine ⟨rfl, ⟨by first | omega | (simp <;> omega), by first | omega | (simp <;> omega)⟩, [], ?_, rfl, ⟨rfl, rfl, trivial⟩, rfl, rfl⟩
    exact one_ag out_vec

-- left out: s_l01Then (not among the functions at hand)
-- left out: i_field_trace (not among the functions at hand)
-- left out: s_l01Trace (not among the functions at hand)
theorem i_field_identity_ok (B : Bs P ρ) (E : E_i_field_identity P ρ) {p : Int} {n : Nat} {g : By} (hn : n ≤ 8) :
    CallOK P ρ 44 [.ag [p, (n : Int)] 2 g] [] (.one (.ag [] 64 (sam n))) [] := by
  refine call_of_vc B.fn B.mo E.1 rfl rfl ?_
  refine ⟨0, rfl, ?_⟩
  refine ⟨1, rfl, ?_⟩
  refine ⟨2, rfl, ?_⟩
  refine ⟨⟨rfl, by first | omega | (simp <;> omega), by first | omega | (simp <;> omega)⟩, ?_⟩   -- sta ['.t', 3] ['.t', 5] 64
  refine .inl ⟨(fun a7 b0 b1 i0 => St.mk [(2, .one (.pt 1 0)), (3, .one (.pt 2 0)), (7, a7), (8, .one (.i .i64 ((i0 : Nat) : Int)))] [b0, b1, Blk.mk false (.by [] 64 (sam i0))]) _ _ _ , fun i0 => True, n, trivial, ⟨⟨rfl, rfl, rfl, rfl, trivial⟩, ⟨rfl, rfl, ?_, trivial⟩, rfl⟩, fun i0 hi0 _ => ?_⟩
  · exact blk_by (by rw [z_sta]; exact sam_0)
  refine ⟨fun h9 => ?_, fun h9 => ?_⟩
  · replace h9 := of_decide_eq_true h9
    refine .inl ⟨3, [], _, _, _, _, [_, _, _], rfl, i_basis_ok B E.2 (i := i0) (by omega), rfl, trivial, rfl, rfl, ?_⟩
    refine ⟨i0, i0 * 8, rfl, by omega, by omega, ?_⟩
    refine ⟨⟨rfl, by first | omega | (simp <;> omega), by first | omega | (simp <;> omega)⟩, ?_⟩   -- sta ['.t', 14] ['.t', 13] 8
    refine ⟨((i0 + 1 : Nat) : Int), w64_id _ (by omega) (by omega), ?_⟩
    refine ⟨by omega, trivial, ⟨rfl, rfl, rfl, rfl, trivial⟩, ⟨rfl, rfl, ?_, trivial⟩, rfl⟩
    exact blk_by (sam_s (by omega)).symm
  · replace h9 := of_decide_eq_false h9
    have e0 : n = i0 := by omega
    subst e0
    refine ⟨⟨by first | omega | (simp <;> omega), by first | omega | (simp <;> omega)⟩, ?_⟩
    refine ⟨⟨rfl, by first | omega | (simp <;> omega), by first | omega | (simp <;> omega)⟩, ?_⟩   -- sta ['.t', 2] ['.t', 16] 64
    refine ⟨rfl, ⟨by first | omega | (simp <;> omega), by first | omega | (simp <;> omega)⟩, [], ?_, rfl, trivial, rfl, rfl⟩
    exact one_ag (out_eq (fun _ _ => rfl) (sam_out hn))

-- left out: s_l03Same (not among the functions at hand)
end Hf
namespace Hf
open Go Classical
variable {P : Program} {ρ : Nat → FuncId}
theorem i_Hopf_has_1_ok (B : Bs P ρ) (E : E_i_Hopf_has_1 P ρ) {n p : Int} {f v : By} :
    CallOK P ρ 69 [.ag [] 8 v, .pt 0 0] [⟨true, .vr (.pt 1 0)⟩, ⟨true, .by [p, n] 1106 f⟩] (.one (.b (!decide (Shp p n ∧ Vec p n v 0)))) [⟨true, .vr (.pt 1 0)⟩, ⟨true, .by [p, n] 1106 f⟩] := by
  refine call_of_vc B.fn B.mo E.1 rfl rfl ?_
  refine ⟨2, rfl, ?_⟩
  refine ⟨⟨by first | omega | (simp <;> omega), by first | omega | (simp <;> omega)⟩, ?_⟩
  refine .inl ⟨3, [], _, _, _, _, [_, _, _], rfl, i_IsVector_ok B E.2 , rfl, trivial, rfl, rfl, ?_⟩
  refine ⟨rfl, [], ?_, rfl, ⟨rfl, rfl, trivial⟩, rfl, rfl⟩
  rw [sh_zero]; rfl

theorem i_Hopf_has_ok (B : Bs P ρ) (E : E_i_Hopf_has P ρ) {n p : Int} {f l : By} {len cap N : Nat} (hN : len * 8 ≤ N) (hlen : len ≤ 1000000000) :
    CallOK P ρ 48 [.pt 0 0, .sl 1 0 len cap] [⟨true, .by [p, n] 1106 f⟩, ⟨true, .by [] N l⟩] (.one (.b (decide (∀ i, i < len → Shp p n ∧ Vec p n l (i * 8))))) [⟨true, .by [p, n] 1106 f⟩, ⟨true, .by [] N l⟩] := by
  refine call_of_vc B.fn B.mo E.1 rfl rfl ?_
  refine ⟨2, rfl, ?_⟩
  refine .inl ⟨3, [1, 2, 0], [.sl 0 0 len cap, .fn 69 [] [(1, 0)]], [⟨true, .by [] N l⟩, ⟨true, .vr (.pt 2 0)⟩, ⟨true, .by [p, n] 1106 f⟩], _, _, [_, _, _], rfl, x_ContainsFunc_V_ok B E.2.2 (q := fun i => !decide (Shp p n ∧ Vec p n (sh l (0 + i * 8)) 0)) (by omega) hlen (by simp) rfl rfl (fun i hi => (i_Hopf_has_1_ok B E.2.1 (p := p) (n := n) (f := f) (v := sh l (0 + i * 8))).emb [1, 2] rfl ⟨⟨_, rfl, fun h => h⟩, ⟨_, rfl, fun h => h⟩, trivial⟩ rfl rfl rfl), rfl, ⟨⟨_, rfl, fun h => by first | rfl | cases h⟩, ⟨_, rfl, fun h => by first | rfl | cases h⟩, ⟨_, rfl, fun h => by first | rfl | cases h⟩, trivial⟩, rfl, rfl, ?_⟩
  refine ⟨rfl, [], ?_, rfl, ⟨rfl, rfl, trivial⟩, rfl, rfl⟩
  refine one_b ?_
  rw [Bool.eq_iff_iff, Bool.not_eq_true', decide_eq_false_iff_not, decide_eq_true_iff]
  simp only [Bool.not_eq_true', decide_eq_false_iff_not, not_exists, not_and, Classical.not_not, Nat.zero_add, Vec_sh, Nat.add_zero]
  exact forall_congr' fun i => imp_congr_right fun _ => by rw [Classical.not_imp, Classical.not_not]

theorem i_Hopf_code_ok (B : Bs P ρ) (E : E_i_Hopf_code P ρ) {n p : Int} {f l : By} {len cap N : Nat} (hN : len * 8 ≤ N) (hlen : len ≤ 1000000000) :
    CallOK P ρ 27 [.pt 0 0, .sl 1 0 len cap] [⟨true, .by [p, n] 1106 f⟩, ⟨true, .by [] N l⟩] (.one (.i .i64 (oc (Hop p n f ∧ ∀ i, i < len → Vec p n l (i * 8)) 1))) [⟨true, .by [p, n] 1106 f⟩, ⟨true, .by [] N l⟩] := by
  refine call_of_vc B.fn B.mo E.1 rfl rfl ?_
  refine .inl ⟨2, [], _, _, _, _, [_, _], rfl, i_IsHopf_ok B E.2.1 , rfl, trivial, rfl, rfl, ?_⟩
  refine ⟨fun h9 => ?_, fun h9 => ?_⟩
  · skip
    refine brB_t ?_
    refine brB_t ?_
    refine .inl ⟨2, [0, 1], _, _, _, _, [_, _], rfl, i_Hopf_has_ok B E.2.2.1 hN hlen, rfl, ⟨⟨_, rfl, fun h => by first | rfl | cases h⟩, ⟨_, rfl, fun h => by first | rfl | cases h⟩, trivial⟩, rfl, rfl, ?_⟩
    refine brB_t ?_
    refine .inl ⟨2, [], _, _, _, _, [_, _], rfl, i_unless_ok B E.2.2.2 , rfl, trivial, rfl, rfl, ?_⟩
    refine ⟨rfl, [], ?_, rfl, ⟨rfl, rfl, trivial⟩, rfl, rfl⟩
    have hH := dec_elim_t h9
    refine one_i ?_
    by_cases q : ∀ i, i < len → Shp p n ∧ Vec p n l (i * 8)
    · rw [oc_t ⟨hH, fun i hi => (q i hi).2⟩, if_pos (decide_eq_true q)]
    · rw [oc_f (q := Hop p n f ∧ ∀ i, i < len → Vec p n l (i * 8)) (fun q2 => q fun i hi => ⟨hH.1.1, q2.2 i hi⟩), if_neg (by rw [decide_eq_false q]; simp)]
  · skip
    refine brB_f ?_
    refine brB_f ?_
    refine brB_f ?_
    refine .inl ⟨2, [], _, _, _, _, [_, _], rfl, i_unless_ok B E.2.2.2 , rfl, trivial, rfl, rfl, ?_⟩
    refine ⟨rfl, [], ?_, rfl, ⟨rfl, rfl, trivial⟩, rfl, rfl⟩
    rw [oc_f (fun q2 : _ ∧ _ => dec_elim_t' h9 q2.1)]; rfl

end Hf
namespace Hf
open Go Classical
variable {P : Program} {ρ : Nat → FuncId}
theorem sm_bas {d k : Nat} {X : Nat → Int} (hk : k < d) : sm d (fun l => bz (bas k) l * X l) = X k := by
  have e : ∀ l, bz (bas k) l = if l = k then 1 else 0 := fun l => by
    simp only [bz, bas]; split <;> rfl
  rw [sm_ext (n := k + 1) (by omega) fun l h1 h2 => by rw [e l, if_neg (by omega), Int.zero_mul]]
  simp only [sm]
  rw [sm_zero fun l hl => by rw [e l, if_neg (by omega), Int.zero_mul], e k, if_pos rfl]; omega
theorem vec_cg {N : Nat} {p : Int} {X Y : Nat → Int} (hp : 1 ≤ p) (hp2 : p ≤ 256) {x : Nat} (hx : x < N) : vec N p X x = vec N p Y x ↔ cg p (X x) (Y x) := by
  simp only [vec]
  rw [if_pos hx, if_pos hx]
  exact ⟨fun h => byt_mod_inj hp hp2 h, fun h => congrArg byt h⟩
theorem vec_is {N : Nat} {p : Int} {X : Nat → Int} {g : By} (hp : 1 ≤ p) (hp2 : p ≤ 256) {x : Nat} (hx : x < N) (hg : bz g x < p) : vec N p X x = g x ↔ cg p (X x) (bz g x) := by
  have e : g x = vec N p (fun y => bz g y) x := by
    simp only [vec]
    rw [if_pos hx, Int.emod_eq_of_lt (bz_nn g x) hg, byt_bz]
  rw [e]
  exact vec_cg hp hp2 hx
theorem bas_lt {p : Int} (hp : 2 ≤ p) (k x : Nat) : bz (bas k) x < p := by
  simp only [bz, bas]
  split
  · show (1 : Int) < p; omega
  · show (0 : Int) < p; omega
/-- the tables of a module: Acts stand from 1 on -/
def TabM (p n d : Int) (g : By) : Prop := ∀ i : Nat, i < 8 → Lin p d d g (1 + i * 64) ∧ (n ≤ i → ∀ k : Nat, k < 64 → bz g (1 + i * 64 + k) = 0)
def actN (m d : Nat) (g a : By) (y : Nat) : Int := if y / 8 < d then sm m fun i => bz a i * bz g (1 + i * 64 + y) else 0
def acV (n d : Nat) (g a v : By) (y : Nat) : Int := sm n fun i => bz a i * sm d fun k => bz v k * bz g (1 + i * 64 + (k * 8 + y))
def MU (p : Int) (n : Nat) (g f : By) (k : Nat) : Prop := ∀ y, y < 8 → cg p (sm n fun l => bz f (2 + l) * bz g (1 + l * 64 + (k * 8 + y))) (bz (bas k) y)
def MA (p : Int) (n d : Nat) (g f : By) (i j k : Nat) : Prop := ∀ y, y < 8 → cg p (sm n fun l => bz f (10 + i * 64 + j * 8 + l) * bz g (1 + l * 64 + (k * 8 + y))) (sm d fun l => bz g (1 + j * 64 + k * 8 + l) * bz g (1 + i * 64 + (l * 8 + y)))
def Mod (p : Int) (n : Nat) (d : Int) (g f : By) : Prop := (Shp p d ∧ TabM p n d g) ∧ (∀ k, k < d.toNat → MU p n g f k) ∧ ∀ i j, i < n → j < n → ∀ k, k < d.toNat → MA p n d.toNat g f i j k
theorem TabM.z {p n d : Int} {g : By} (h : TabM p n d g) {i k l : Nat} (hi : i < 8) (hk : k < 8) (hl : l < 8) (hz : n ≤ i ∨ d ≤ k ∨ d ≤ l) : bz g (1 + i * 64 + k * 8 + l) = 0 := by
  have h1 := h i hi
  rcases hz with hz | hz | hz
  · have := h1.2 hz (k * 8 + l) (by omega)
    rwa [← Nat.add_assoc] at this
  · exact (h1.1 k hk).2 hz l hl
  · exact ((h1.1 k hk).1 l hl).2 hz
theorem MU_s {p : Int} {n d k : Nat} {g f : By} (hp : 2 ≤ p) (hp2 : p ≤ 256) (hk : k < d) : (∀ x, x < 8 → vec 8 p (acV n d g (sh f 2) (bas k)) x = bas k x) ↔ MU p n g f k := by
  refine forall_congr' fun y => imp_congr_right fun hy => ?_
  rw [vec_is (by omega) hp2 hy (bas_lt hp k y)]
  have e : acV n d g (sh f 2) (bas k) y = sm n fun l => bz f (2 + l) * bz g (1 + l * 64 + (k * 8 + y)) := by
    unfold acV
    exact sm_congr fun i _ => by rw [sm_bas hk]; rfl
  rw [e]
theorem MA_s {p : Int} {n d i j k : Nat} {g f : By} (hp : 2 ≤ p) (hp2 : p ≤ 256) (hk : k < d) : (∀ x, x < 8 → vec 8 p (acV n d g (sh f (10 + i * 64 + j * 8)) (bas k)) x = vec 8 p (fun y => sm d fun l => bz (sh g (1 + j * 64 + k * 8)) l * bz (sh g (1 + i * 64)) (l * 8 + y)) x) ↔ MA p n d g f i j k := by
  refine forall_congr' fun y => imp_congr_right fun hy => ?_
  rw [vec_cg (by omega) hp2 hy]
  have e : acV n d g (sh f (10 + i * 64 + j * 8)) (bas k) y = sm n fun l => bz f (10 + i * 64 + j * 8 + l) * bz g (1 + l * 64 + (k * 8 + y)) := by
    unfold acV
    exact sm_congr fun i _ => by rw [sm_bas hk]; rfl
  rw [e]
  rfl
theorem rows_iff {q : Nat → Prop} : (∀ x, x < 64 → q x) ↔ ∀ k, k < 8 → ∀ y, y < 8 → q (k * 8 + y) := by
  refine ⟨fun h k hk y hy => h _ (by omega), fun h x hx => ?_⟩
  have := h (x / 8) (by omega) (x % 8) (by omega)
  rwa [show x / 8 * 8 + x % 8 = x by omega] at this
theorem MU_i {p : Int} {n d : Nat} {g f : By} (hp : 2 ≤ p) (hp2 : p ≤ 256) (hn : n ≤ 8) (hd : d ≤ 8) (hu : ∀ k, n ≤ k → k < 8 → bz f (2 + k) = 0) : (∀ x, x < 64 → vec 64 p (actN 8 d g (sh f 2)) x = sam d x) ↔ ∀ k, k < d → MU p n g f k := by
  rw [rows_iff]
  have key : ∀ k, k < 8 → ∀ y, y < 8 → (vec 64 p (actN 8 d g (sh f 2)) (k * 8 + y) = sam d (k * 8 + y) ↔ (k < d → cg p (sm n fun l => bz f (2 + l) * bz g (1 + l * 64 + (k * 8 + y))) (bz (bas k) y))) := by
    intro k hk y hy
    by_cases e : k < d
    · have e1 : sam d (k * 8 + y) = bas k y := by
        simp only [sam, bas]
        by_cases e2 : y = k
        · rw [if_pos (by omega), if_pos e2]
        · rw [if_neg (by omega), if_neg e2]
      have e3 : vec 64 p (actN 8 d g (sh f 2)) (k * 8 + y) = vec 8 p (fun y => actN 8 d g (sh f 2) (k * 8 + y)) y := by
        simp only [vec]; rw [if_pos (by omega), if_pos hy]
      rw [e1, e3, vec_is (by omega) hp2 hy (bas_lt hp k y)]
      have e4 : actN 8 d g (sh f 2) (k * 8 + y) = sm n fun l => bz f (2 + l) * bz g (1 + l * 64 + (k * 8 + y)) := by
        unfold actN
        rw [if_pos (by omega)]
        exact sm_8n hn fun i h1 h2 => by rw [bz_sh, hu i h1 h2, Int.zero_mul]
      rw [e4]
      exact ⟨fun h _ => h, fun h => h e⟩
    · refine ⟨fun _ h => (e h).elim, fun _ => ?_⟩
      have e1 : sam d (k * 8 + y) = 0 := by simp only [sam]; rw [if_neg (by omega)]
      rw [e1]
      simp only [vec]
      rw [if_pos (by omega), actN, if_neg (by omega)]; simp; rfl
  constructor
  · intro h k hk y hy
    exact (key k (by omega) y hy).1 (h k (by omega) y hy) hk
  · intro h k hk y hy
    exact (key k hk y hy).2 fun hd => h k hd y hy
theorem MA_i {p : Int} {n d i j : Nat} {g f : By} (hp : 2 ≤ p) (hp2 : p ≤ 256) (hn : n ≤ 8) (hd : d ≤ 8) (hi : i < 8) (hj : j < 8) (hT : TabM p n d g) (hu : ∀ k, n ≤ k → k < 8 → bz f (10 + i * 64 + j * 8 + k) = 0) :
    (∀ x, x < 64 → vec 64 p (actN 8 d g (sh f (10 + i * 64 + j * 8))) x = vec 64 p (aft g g (1 + i * 64) (1 + j * 64)) x) ↔ ∀ k, k < d → MA p n d g f i j k := by
  rw [rows_iff]
  have key : ∀ k, k < 8 → ∀ y, y < 8 → (vec 64 p (actN 8 d g (sh f (10 + i * 64 + j * 8))) (k * 8 + y) = vec 64 p (aft g g (1 + i * 64) (1 + j * 64)) (k * 8 + y) ↔ (k < d → cg p (sm n fun l => bz f (10 + i * 64 + j * 8 + l) * bz g (1 + l * 64 + (k * 8 + y))) (sm d fun l => bz g (1 + j * 64 + k * 8 + l) * bz g (1 + i * 64 + (l * 8 + y))))) := by
    intro k hk y hy
    rw [vec_cg (by omega) hp2 (by omega)]
    have e5 : aft g g (1 + i * 64) (1 + j * 64) (k * 8 + y) = sm d fun l => bz g (1 + j * 64 + k * 8 + l) * bz g (1 + i * 64 + (l * 8 + y)) := by
      unfold aft
      rw [show (k * 8 + y) / 8 = k by omega, show (k * 8 + y) % 8 = y by omega]
      rw [sm_8n (n := d) hd fun l h1 h2 => by rw [hT.z hj hk h2 (.inr (.inr (by omega))), Int.zero_mul]]
      exact sm_congr fun l _ => by rw [Nat.add_assoc (1 + i * 64)]
    rw [e5]
    by_cases e : k < d
    · have e4 : actN 8 d g (sh f (10 + i * 64 + j * 8)) (k * 8 + y) = sm n fun l => bz f (10 + i * 64 + j * 8 + l) * bz g (1 + l * 64 + (k * 8 + y)) := by
        unfold actN
        rw [if_pos (by omega)]
        exact sm_8n hn fun i h1 h2 => by rw [bz_sh, hu i h1 h2, Int.zero_mul]
      rw [e4]
      exact ⟨fun h _ => h, fun h => h e⟩
    · refine ⟨fun _ h => (e h).elim, fun _ => cg_of_eq ?_⟩
      rw [actN, if_neg (by omega)]
      exact (sm_zero fun l hl => by rw [hT.z hj hk (by omega) (.inr (.inl (by omega))), Int.zero_mul]).symm
  constructor
  · intro h k hk y hy
    exact (key k (by omega) y hy).1 (h k (by omega) y hy) hk
  · intro h k hk y hy
    exact (key k hk y hy).2 fun hd => h k hd y hy

theorem i_Module_field_ok (B : Bs P ρ) (E : E_i_Module_field P ρ) {p n d : Int} {f g : By} :
    CallOK P ρ 151 [.pt 0 0, .pt 1 0] [⟨true, .by [d] 513 g⟩, ⟨true, .by [p, n] 1106 f⟩] (.one (.ag [p, d] 2 (fun _ => 0))) [⟨true, .by [d] 513 g⟩, ⟨true, .by [p, n] 1106 f⟩] := by
  refine call_of_vc B.fn B.mo E rfl rfl ?_
  refine ⟨2, rfl, ?_⟩
  exact ⟨rfl, ⟨by first | omega | (simp <;> omega), by first | omega | (simp <;> omega)⟩, [], rfl, rfl, ⟨rfl, rfl, trivial⟩, rfl, rfl⟩

theorem i_Module_isShaped_ok (B : Bs P ρ) (E : E_i_Module_isShaped P ρ) {p n d : Int} {f g : By} :
    CallOK P ρ 152 [.pt 0 0, .pt 1 0] [⟨true, .by [d] 513 g⟩, ⟨true, .by [p, n] 1106 f⟩] (.one (.b (decide (Shp p d ∧ TabM p n d g)))) [⟨true, .by [d] 513 g⟩, ⟨true, .by [p, n] 1106 f⟩] := by
  refine call_of_vc B.fn B.mo E.1 rfl rfl ?_
  refine .inl ⟨(fun a0 a1 b0 b1 i0 => St.mk [(0, a0), (1, a1), (6, .one (.i .i64 ((i0 : Nat) : Int)))] [b0, b1]) _ _ _ _ , fun i0 => ∀ i : Nat, i < i0 → (Shp p d ∧ Lin p d d g (1 + i * 64)) ∧ (n ≤ i → ∀ k : Nat, k < 64 → bz g (1 + i * 64 + k) = 0), 8, fun _ _ => by omega, ⟨⟨rfl, rfl, rfl, trivial⟩, ⟨rfl, rfl, trivial⟩, rfl⟩, fun i0 hi0 hF0 => ?_⟩
  refine ⟨fun h7 => ?_, fun h7 => ?_⟩
  · replace h7 := of_decide_eq_true h7
    refine ⟨i0, 1 + i0 * 64, rfl, by omega, by omega, ?_⟩
    refine ⟨2, [0], _, _, _, _, [_, _], rfl, i_isLinear_ok B E.2 (by simp <;> omega) (by omega), rfl, ⟨⟨_, rfl, fun h => by first | rfl | cases h⟩, trivial⟩, rfl, rfl, rfl, ?_⟩
    refine ⟨fun h28 => ?_, fun h28 => ?_⟩
    · skip
      have h28' := dec_elim_t' (not_t h28)
      refine brB_t ?_
      refine brB_t ?_
      refine brB_t ?_
      refine brB_t ?_
      refine brB_t ?_
      refine brB_t ?_
      refine brB_t ?_
      refine brB_t ?_
      refine brB_t ?_
      refine ⟨rfl, [], ?_, rfl, ⟨rfl, rfl, trivial⟩, rfl, rfl⟩
      exact one_b (dec_f fun q => h28' ⟨q.1, (q.2 i0 (by omega)).1⟩)
    · skip
      have h28' := dec_elim_t (not_f h28)
      refine brB_f ?_
      refine brB_f ?_
      refine brB_f ?_
      refine brB_f ?_
      refine brB_f ?_
      refine brB_f ?_
      refine ⟨fun h35 => ?_, fun h35 => ?_⟩
      · replace h35 := of_decide_eq_true h35
        refine brB_t ?_
        refine brB_t ?_
        refine brB_t ?_
        refine brB_t ?_
        refine ⟨i0, 1 + i0 * 64, rfl, by omega, by omega, ?_⟩
        refine brB_t ?_
        refine ⟨⟨by first | omega | (simp <;> omega), by first | omega | (simp <;> omega)⟩, ?_⟩
        refine brB_t ?_
        refine brB_t ?_
        refine brB_f ?_
        refine brB_t ?_
        refine brB_f ?_
        refine ⟨fun h45 => ?_, fun h45 => ?_⟩
        · skip
          have h45' := not_t h45
          refine ⟨rfl, [], ?_, rfl, ⟨rfl, rfl, trivial⟩, rfl, rfl⟩
          refine one_b (dec_f fun q => ?_)
          have := eqB_z.2 ((q.2 i0 (by omega)).2 h35)
          erw [this] at h45'; cases h45'
        · skip
          have h45' := not_f h45
          refine ⟨((i0 + 1 : Nat) : Int), w64_id _ (by omega) (by omega), ?_⟩
          refine ⟨by omega, ?_, ⟨rfl, rfl, rfl, trivial⟩, ⟨rfl, rfl, trivial⟩, rfl⟩
          intro i hi
          by_cases e : i = i0
          · subst e
            exact ⟨h28', fun _ => eqB_z.1 h45'⟩
          · exact hF0 i (by omega)
      · replace h35 := of_decide_eq_false h35
        refine brB_f ?_
        refine brB_f ?_
        refine brB_f ?_
        refine brB_f ?_
        refine brB_f ?_
        refine brB_f ?_
        refine brB_f ?_
        refine brB_f ?_
        refine brB_f ?_
        refine brB_f ?_
        refine brB_f ?_
        refine ⟨((i0 + 1 : Nat) : Int), w64_id _ (by omega) (by omega), ?_⟩
        refine ⟨by omega, ?_, ⟨rfl, rfl, rfl, trivial⟩, ⟨rfl, rfl, trivial⟩, rfl⟩
        intro i hi
        by_cases e : i = i0
        · subst e
          exact ⟨h28', fun q => (h35 q).elim⟩
        · exact hF0 i (by omega)
  · replace h7 := of_decide_eq_false h7
    have e0 : 8 = i0 := by omega
    subst e0
    refine ⟨rfl, [], ?_, rfl, ⟨rfl, rfl, trivial⟩, rfl, rfl⟩
    exact one_b (dec_t ⟨(hF0 0 (by omega)).1.1, fun i hi => ⟨(hF0 i hi).1.2, (hF0 i hi).2⟩⟩)

theorem i_Module_acts_ok (B : Bs P ρ) (E : E_i_Module_acts P ρ) {p n : Int} {d : Nat} {f g a : By} (hp : 1 ≤ p) (hp2 : p ≤ 256) (hd : d ≤ 8) :
    CallOK P ρ 153 [.pt 0 0, .pt 1 0, .ag [] 8 a] [⟨true, .by [(d : Int)] 513 g⟩, ⟨true, .by [p, n] 1106 f⟩] (.one (.ag [] 64 (vec 64 p (actN 8 d g a)))) [⟨true, .by [(d : Int)] 513 g⟩, ⟨true, .by [p, n] 1106 f⟩] := by
  refine call_of_vc B.fn B.mo E.1 rfl rfl ?_
  refine ⟨2, rfl, ?_⟩
  refine ⟨3, rfl, ?_⟩
  refine .inl ⟨4, [0, 1], _, _, _, _, [_, _, _, _], rfl, i_Module_field_ok B E.2.1 , rfl, ⟨⟨_, rfl, fun h => by first | rfl | cases h⟩, ⟨_, rfl, fun h => by first | rfl | cases h⟩, trivial⟩, rfl, rfl, ?_⟩
  refine ⟨4, rfl, ?_⟩
  refine ⟨5, rfl, ?_⟩
  refine ⟨⟨rfl, by first | omega | (simp <;> omega), by first | omega | (simp <;> omega)⟩, ?_⟩   -- sta ['.t', 8] ['.t', 15] 64
  refine ⟨⟨by first | omega | (simp <;> omega), by first | omega | (simp <;> omega)⟩, ?_⟩
  refine .inl ⟨(fun a0 a16 b0 b1 b2 b3 b4 i0 => St.mk [(0, a0), (6, .one (.pt 3 0)), (7, .one (.pt 4 0)), (8, .one (.pt 5 0)), (16, a16), (17, .one (.i .i64 ((i0 : Nat) : Int)))] [b0, b1, b2, b3, b4, Blk.mk false (.by [] 64 (vec 64 p (actN i0 d g a)))]) _ _ _ _ _ _ _ , fun i0 => True, 8, trivial, ⟨⟨rfl, rfl, rfl, rfl, rfl, rfl, trivial⟩, ⟨rfl, rfl, rfl, rfl, rfl, ?_, trivial⟩, rfl⟩, fun i0 hi0 _ => ?_⟩
  · refine blk_by ?_
    rw [z_sta]
    exact vec_zero fun k hk => by simp [actN, sm]
  have q0 := bz_nn (sh a 0) i0
  have q1 := bz_le (sh a 0) i0
  refine ⟨fun h18 => ?_, fun h18 => ?_⟩
  · replace h18 := of_decide_eq_true h18
    refine ⟨_, rfl, by first | omega | (simp <;> omega), by first | omega | (simp <;> omega), ?_⟩
    refine .inl ⟨(fun a0 a9 a10 a16 a17 a22 b0 b1 b2 b3 b4 i1 => St.mk [(0, a0), (6, .one (.pt 3 0)), (7, .one (.pt 4 0)), (8, .one (.pt 5 0)), (9, a9), (10, a10), (16, a16), (17, a17), (22, a22), (23, .one (.i .i64 ((i1 : Nat) : Int)))] [b0, b1, b2, b3, b4, Blk.mk false (.by [] 64 (vec 64 p fun y => actN i0 d g a y + if y / 8 < i1 then bz a i0 * bz g (1 + i0 * 64 + y) else 0))]) _ _ _ _ _ _ _ _ _ _ _ , fun i1 => True, d, trivial, ⟨⟨rfl, rfl, rfl, rfl, rfl, rfl, rfl, rfl, rfl, rfl, trivial⟩, ⟨rfl, rfl, rfl, rfl, rfl, ?_, trivial⟩, rfl⟩, fun i1 hi1 _ => ?_⟩
    · refine blk_by (vec_congr fun y _ => cg_of_eq ?_)
      simp
    refine ⟨fun h24 => ?_, fun h24 => ?_⟩
    · replace h24 := of_decide_eq_true h24
      refine ⟨i1, i1 * 8, rfl, by omega, by omega, ?_⟩
      refine ⟨i0, 1 + i0 * 64, rfl, by omega, by omega, ?_⟩
      refine ⟨i1, 1 + i0 * 64 + i1 * 8, rfl, by omega, by omega, ?_⟩
      refine ⟨⟨by first | omega | (simp <;> omega), by first | omega | (simp <;> omega)⟩, ?_⟩
      refine .inl ⟨6, [5], _, _, _, _, [_, _, _, _, _, _], rfl, i_field_plus_ok B E.2.2 (k := bz (sh a 0) i0) hp (by omega) (by simp) (by omega) (by omega) (by omega) (fun _ _ _ => bz_vec_lt hp hp2), rfl, ⟨⟨_, rfl, fun h => by first | rfl | cases h⟩, trivial⟩, rfl, rfl, ?_⟩
      refine ⟨((i1 + 1 : Nat) : Int), w64_id _ (by omega) (by omega), ?_⟩
      refine ⟨by omega, trivial, ⟨rfl, rfl, rfl, rfl, rfl, rfl, rfl, rfl, rfl, rfl, trivial⟩, ⟨rfl, rfl, rfl, rfl, rfl, ?_, trivial⟩, rfl⟩
      refine blk_by ?_
      rw [pl_vec hp hp2 (by omega)]
      refine vec_congr fun y hy => cg_of_eq ?_
      rw [Int.add_assoc]
      congr 1
      by_cases e1 : i1 * 8 ≤ y ∧ y < i1 * 8 + 8
      · rw [if_pos (by omega), if_neg (by omega), if_pos e1, sh_zero a, bz_sh, Int.zero_add, show 1 + i0 * 64 + i1 * 8 + (y - i1 * 8) = 1 + i0 * 64 + y by omega]
      · rw [if_neg e1, Int.add_zero]
        by_cases e2 : y / 8 < i1
        · rw [if_pos (by omega), if_pos e2]
        · rw [if_neg (by omega), if_neg e2]
    · replace h24 := of_decide_eq_false h24
      have e1 : d = i1 := by omega
      subst e1
      refine ⟨((i0 + 1 : Nat) : Int), w64_id _ (by omega) (by omega), ?_⟩
      refine ⟨by omega, trivial, ⟨rfl, rfl, rfl, rfl, rfl, rfl, trivial⟩, ⟨rfl, rfl, rfl, rfl, rfl, ?_, trivial⟩, rfl⟩
      refine blk_by (vec_congr fun y hy => cg_of_eq ?_)
      unfold actN
      by_cases e1 : y / 8 < d
      · rw [if_pos e1, if_pos e1, if_pos e1]; rfl
      · rw [if_neg e1, if_neg e1, if_neg e1]; rfl
  · replace h18 := of_decide_eq_false h18
    have e0 : 8 = i0 := by omega
    subst e0
    refine ⟨⟨by first | omega | (simp <;> omega), by first | omega | (simp <;> omega)⟩, ?_⟩
    refine ⟨⟨rfl, by first | omega | (simp <;> omega), by first | omega | (simp <;> omega)⟩, ?_⟩   -- sta ['.t', 6] ['.t', 42] 64
    refine ⟨rfl, ⟨by first | omega | (simp <;> omega), by first | omega | (simp <;> omega)⟩, [], ?_, rfl, ⟨rfl, rfl, trivial⟩, rfl, rfl⟩
    exact one_ag (out_vec.trans rfl)

theorem i_Module_isModule_ok (B : Bs P ρ) (E : E_i_Module_isModule P ρ) {p d : Int} {n : Nat} {f g : By} (h : HShp p n f) :
    CallOK P ρ 145 [.pt 0 0, .pt 1 0] [⟨true, .by [d] 513 g⟩, ⟨true, .by [p, (n : Int)] 1106 f⟩] (.one (.b (decide (Mod p n d g f)))) [⟨true, .by [d] 513 g⟩, ⟨true, .by [p, (n : Int)] 1106 f⟩] := by
  refine call_of_vc B.fn B.mo E.1 rfl rfl ?_
  have hb := h.b
  refine .inl ⟨2, [0, 1], _, _, _, _, [_, _], rfl, i_Module_field_ok B E.2.1 , rfl, ⟨⟨_, rfl, fun h => by first | rfl | cases h⟩, ⟨_, rfl, fun h => by first | rfl | cases h⟩, trivial⟩, rfl, rfl, ?_⟩
  refine ⟨2, rfl, ?_⟩
  refine ⟨3, [0, 1], _, _, _, _, [_, _, _], rfl, i_Module_isShaped_ok B E.2.2.1 , rfl, ⟨⟨_, rfl, fun h => by first | rfl | cases h⟩, ⟨_, rfl, fun h => by first | rfl | cases h⟩, trivial⟩, rfl, rfl, rfl, ?_⟩
  refine ⟨fun h15 => ?_, fun h15 => ?_⟩
  · skip
    have h15' : ¬ (Shp p d ∧ TabM p n d g) := dec_elim_t' (not_t h15)
    refine brB_t ?_
    refine brB_t ?_
    refine brB_t ?_
    refine brB_t ?_
    refine brB_t ?_
    refine brB_t ?_
    refine brB_t ?_
    refine brB_t ?_
    refine brB_t ?_
    refine brB_t ?_
    refine brB_t ?_
    refine ⟨rfl, [], ?_, rfl, ⟨rfl, rfl, trivial⟩, rfl, rfl⟩
    exact one_b (dec_f fun q => h15' q.1)
  · skip
    have h15' : Shp p d ∧ TabM p n d g := dec_elim_t (not_f h15)
    have hd := h15'.1.2
    obtain ⟨e, rfl⟩ : ∃ e : Nat, d = (e : Int) := ⟨d.toNat, by omega⟩
    refine brB_f ?_
    refine brB_f ?_
    refine brB_f ?_
    refine brB_f ?_
    refine brB_f ?_
    refine ⟨⟨by first | omega | (simp <;> omega), by first | omega | (simp <;> omega)⟩, ?_⟩
    refine brB_f ?_
    refine ⟨3, [0, 1], _, _, _, _, [_, _, _], rfl, i_Module_acts_ok B E.2.2.2.1 (d := e) (by omega) (by omega) (by omega), rfl, ⟨⟨_, rfl, fun h => by first | rfl | cases h⟩, ⟨_, rfl, fun h => by first | rfl | cases h⟩, trivial⟩, rfl, rfl, rfl, ?_⟩
    refine brB_f ?_
    refine brB_f ?_
    refine .inl ⟨3, [], _, _, _, _, [_, _, _], rfl, i_field_identity_ok B E.2.2.2.2.1 (n := e) (by omega), rfl, trivial, rfl, rfl, ?_⟩
    refine brB_f ?_
    refine brB_f ?_
    refine ⟨fun h26 => ?_, fun h26 => ?_⟩
    · skip
      have z26 : ¬ ∀ k, k < e → MU p n g f k := fun q => neB_t h26 ((MU_i (by omega) (by omega) (by omega) (by omega) fun k h1 h2 => h.unit h1 h2).2 q)
      refine ⟨rfl, [], ?_, rfl, ⟨rfl, rfl, trivial⟩, rfl, rfl⟩
      exact one_b (dec_f fun q => z26 q.2.1)
    · skip
      have z26 : ∀ k, k < e → MU p n g f k := (MU_i (by omega) (by omega) (by omega) (by omega) fun k h1 h2 => h.unit h1 h2).1 (neB_f h26)
      refine .inl ⟨(fun a0 a1 a30 b0 b1 b2 i0 => St.mk [(0, a0), (1, a1), (5, .one (.pt 2 0)), (30, a30), (31, .one (.i .i64 ((i0 : Nat) : Int)))] [b0, b1, b2]) _ _ _ _ _ _ , fun i0 => ∀ i, i < i0 → ∀ j, j < n → ∀ k, k < e → MA p n e g f i j k, n, fun _ _ => by omega, ⟨⟨rfl, rfl, rfl, rfl, rfl, trivial⟩, ⟨rfl, rfl, rfl, trivial⟩, rfl⟩, fun i0 hi0 hF0 => ?_⟩
      refine ⟨fun h32 => ?_, fun h32 => ?_⟩
      · replace h32 := of_decide_eq_true h32
        refine .inl ⟨(fun a0 a1 a6 a30 a31 a37 b0 b1 b2 i1 => St.mk [(0, a0), (1, a1), (5, .one (.pt 2 0)), (6, a6), (30, a30), (31, a31), (37, a37), (38, .one (.i .i64 ((i1 : Nat) : Int)))] [b0, b1, b2]) _ _ _ _ _ _ _ _ _ , fun i1 => ∀ j, j < i1 → ∀ k, k < e → MA p n e g f i0 j k, n, fun _ _ => by omega, ⟨⟨rfl, rfl, rfl, rfl, rfl, rfl, rfl, rfl, trivial⟩, ⟨rfl, rfl, rfl, trivial⟩, rfl⟩, fun i1 hi1 hF1 => ?_⟩
        refine ⟨fun h39 => ?_, fun h39 => ?_⟩
        · replace h39 := of_decide_eq_true h39
          refine ⟨i0, 10 + i0 * 64, rfl, by omega, by omega, ?_⟩
          refine ⟨i1, 10 + i0 * 64 + i1 * 8, rfl, by omega, by omega, ?_⟩
          refine ⟨⟨by first | omega | (simp <;> omega), by first | omega | (simp <;> omega)⟩, ?_⟩
          refine ⟨3, [0, 1], _, _, _, _, [_, _, _], rfl, i_Module_acts_ok B E.2.2.2.1 (d := e) (by omega) (by omega) (by omega), rfl, ⟨⟨_, rfl, fun h => by first | rfl | cases h⟩, ⟨_, rfl, fun h => by first | rfl | cases h⟩, trivial⟩, rfl, rfl, rfl, ?_⟩
          refine ⟨i0, 1 + i0 * 64, rfl, by omega, by omega, ?_⟩
          refine ⟨i1, 1 + i1 * 64, rfl, by omega, by omega, ?_⟩
          refine .inl ⟨3, [0, 0], _, _, _, _, [_, _, _], rfl, i_field_after_ok B E.2.2.2.2.2 (by omega) (by omega) (by simp <;> omega) (by omega) (by simp <;> omega) (by omega), rfl, ⟨⟨_, rfl, fun h => by first | rfl | cases h⟩, ⟨_, rfl, fun h => by first | rfl | cases h⟩, trivial⟩, rfl, rfl, ?_⟩
          refine ⟨fun h64 => ?_, fun h64 => ?_⟩
          · skip
            have z64 : ¬ ∀ k, k < e → MA p n e g f i0 i1 k := fun q => neB_t h64 ((MA_i (by omega) (by omega) (by omega) (by omega) (by omega) (by omega) h15'.2 fun k h1 h2 => h.mul (by omega) (by omega) h2 (.inr (.inr h1))).2 q)
            refine ⟨rfl, [], ?_, rfl, ⟨rfl, rfl, trivial⟩, rfl, rfl⟩
            exact one_b (dec_f fun q => z64 (q.2.2 i0 i1 (by omega) (by omega)))
          · skip
            have z64 : ∀ k, k < e → MA p n e g f i0 i1 k := (MA_i (by omega) (by omega) (by omega) (by omega) (by omega) (by omega) h15'.2 fun k h1 h2 => h.mul (by omega) (by omega) h2 (.inr (.inr h1))).1 (neB_f h64)
            refine ⟨((i1 + 1 : Nat) : Int), w64_id _ (by omega) (by omega), ?_⟩
            refine ⟨by omega, ?_, ⟨rfl, rfl, rfl, rfl, rfl, rfl, rfl, rfl, trivial⟩, ⟨rfl, rfl, rfl, trivial⟩, rfl⟩
            intro j hj
            by_cases e : j = i1
            · subst e; exact z64
            · exact hF1 j (by omega)
        · replace h39 := of_decide_eq_false h39
          have e1 : n = i1 := by omega
          subst e1
          refine ⟨((i0 + 1 : Nat) : Int), w64_id _ (by omega) (by omega), ?_⟩
          refine ⟨by omega, ?_, ⟨rfl, rfl, rfl, rfl, rfl, trivial⟩, ⟨rfl, rfl, rfl, trivial⟩, rfl⟩
          intro i hi j hj
          by_cases e : i = i0
          · subst e; exact hF1 j hj
          · exact hF0 i (by omega) j hj
      · replace h32 := of_decide_eq_false h32
        have e0 : n = i0 := by omega
        subst e0
        refine ⟨rfl, [], ?_, rfl, ⟨rfl, rfl, trivial⟩, rfl, rfl⟩
        exact one_b (dec_t ⟨h15', z26, fun i j hi hj => hF0 i hi j hj⟩)

theorem s_l06Act_ok (B : Bs P ρ) (E : E_s_l06Act P ρ) {p : Int} {n d : Nat} {f g a v : By} (hp : 1 ≤ p) (hp2 : p ≤ 256) (hn : n ≤ 8) (hd : d ≤ 8) :
    CallOK P ρ 150 [.ag [p, (n : Int)] 1106 f, .ag [(d : Int)] 513 g, .ag [] 8 a, .ag [] 8 v] [] (.one (.ag [] 8 (vec 8 p (acV n d g a v)))) [] := by
  refine call_of_vc B.fn B.mo E.1 rfl rfl ?_
  refine ⟨0, rfl, ?_⟩
  refine ⟨1, rfl, ?_⟩
  refine ⟨2, rfl, ?_⟩
  refine ⟨3, rfl, ?_⟩
  refine ⟨4, rfl, ?_⟩
  refine ⟨5, rfl, ?_⟩
  refine ⟨⟨rfl, by first | omega | (simp <;> omega), by first | omega | (simp <;> omega)⟩, ?_⟩   -- sta ['.t', 9] ['.t', 11] 8
  refine .inl ⟨(fun b0 b1 b2 b3 b4 i0 => St.mk [(4, .one (.pt 0 0)), (5, .one (.pt 1 0)), (6, .one (.pt 2 0)), (7, .one (.pt 3 0)), (8, .one (.pt 4 0)), (9, .one (.pt 5 0)), (10, .one (.i .i64 ((i0 : Nat) : Int)))] [b0, b1, b2, b3, b4, Blk.mk false (.by [] 8 (vec 8 p (acV i0 d g a v)))]) _ _ _ _ _ , fun i0 => True, n, trivial, ⟨⟨rfl, rfl, rfl, rfl, rfl, rfl, rfl, trivial⟩, ⟨rfl, rfl, rfl, rfl, rfl, ?_, trivial⟩, rfl⟩, fun i0 hi0 _ => ?_⟩
  · refine blk_by ?_
    rw [z_sta]
    exact vec_0.symm
  have q0 := bz_nn a i0
  have q1 := bz_le a i0
  refine ⟨fun h15 => ?_, fun h15 => ?_⟩
  · replace h15 := of_decide_eq_true h15
    refine ⟨i0, i0, rfl, by omega, by omega, ?_⟩
    refine ⟨⟨by first | omega | (simp <;> omega), by first | omega | (simp <;> omega)⟩, ?_⟩
    refine ⟨fun h21 => ?_, fun h21 => ?_⟩
    · replace h21 := bne_t h21
      refine ⟨⟨by first | omega | (simp <;> omega), by first | omega | (simp <;> omega)⟩, ?_⟩
      refine ⟨i0, 1 + i0 * 64, rfl, by omega, by omega, ?_⟩
      refine ⟨⟨by first | omega | (simp <;> omega), by first | omega | (simp <;> omega)⟩, ?_⟩
      refine ⟨⟨by first | omega | (simp <;> omega), by first | omega | (simp <;> omega)⟩, ?_⟩
      refine ⟨6, [], _, _, _, _, [_, _, _, _, _, _], rfl, s_l01Apply_ok B E.2.1 (n := d) hp hp2 hd, rfl, trivial, rfl, rfl, rfl, ?_⟩
      refine ⟨i0, i0, rfl, by omega, by omega, ?_⟩
      refine ⟨⟨by first | omega | (simp <;> omega), by first | omega | (simp <;> omega)⟩, ?_⟩
      refine .inl ⟨6, [], _, _, _, _, [_, _, _, _, _, _], rfl, s_l01Add_ok B E.2.2 (k := bz a i0) hp (by omega) (by omega) (by omega), rfl, trivial, rfl, rfl, ?_⟩
      refine ⟨⟨rfl, by first | omega | (simp <;> omega), by first | omega | (simp <;> omega)⟩, ?_⟩   -- sta ['.t', 9] ['.t', 39] 8
      refine ⟨((i0 + 1 : Nat) : Int), w64_id _ (by omega) (by omega), ?_⟩
      refine ⟨by omega, trivial, ⟨rfl, rfl, rfl, rfl, rfl, rfl, rfl, trivial⟩, ⟨rfl, rfl, rfl, rfl, rfl, ?_, trivial⟩, rfl⟩
      refine blk_by ?_
      rw [spl_plsN, pl_vec0 hp hp2]
      refine vec_congr fun y hy => cg.symm (cg_add rfl ((cg_mul rfl (cg_vec hp hp2 hy)).trans (cg_of_eq ?_)))
      rw [sh_zero]
      rfl
    · replace h21 := bne_f h21
      refine ⟨((i0 + 1 : Nat) : Int), w64_id _ (by omega) (by omega), ?_⟩
      refine ⟨by omega, trivial, ⟨rfl, rfl, rfl, rfl, rfl, rfl, rfl, trivial⟩, ⟨rfl, rfl, rfl, rfl, rfl, ?_, trivial⟩, rfl⟩
      refine blk_by (vec_congr fun y _ => cg_of_eq ?_)
      unfold acV
      simp only [sm]
      rw [z0_of h21, Int.zero_mul, Int.add_zero]
  · replace h15 := of_decide_eq_false h15
    have e0 : n = i0 := by omega
    subst e0
    refine ⟨⟨by first | omega | (simp <;> omega), by first | omega | (simp <;> omega)⟩, ?_⟩
    refine ⟨⟨rfl, by first | omega | (simp <;> omega), by first | omega | (simp <;> omega)⟩, ?_⟩   -- sta ['.t', 8] ['.t', 40] 8
    refine ⟨rfl, ⟨by first | omega | (simp <;> omega), by first | omega | (simp <;> omega)⟩, [], ?_, rfl, trivial, rfl, rfl⟩
    exact one_ag out_vec

theorem s_l06Holds_ok (B : Bs P ρ) (E : E_s_l06Holds P ρ) {p d : Int} {n : Nat} {f g : By} (h : HShp p n f) :
    CallOK P ρ 143 [.ag [p, (n : Int)] 1106 f, .ag [d] 513 g] [] (.one (.b (decide (Mod p n d g f)))) [] := by
  refine call_of_vc B.fn B.mo E.1 rfl rfl ?_
  have hb := h.b
  refine ⟨0, rfl, ?_⟩
  refine ⟨1, rfl, ?_⟩
  refine .inl ⟨2, [], _, _, _, _, [_, _], rfl, s_l01In_ok B E.2.1 , rfl, trivial, rfl, rfl, ?_⟩
  refine ⟨fun h13 => ?_, fun h13 => ?_⟩
  · skip
    have h13' : ¬ (1 ≤ d ∧ d ≤ 8) := dec_elim_t' (not_t h13)
    refine ⟨rfl, [], ?_, rfl, trivial, rfl, rfl⟩
    exact one_b (dec_f fun q => h13' q.1.1.2)
  · skip
    have h13' : 1 ≤ d ∧ d ≤ 8 := dec_elim_t (not_f h13)
    obtain ⟨e, rfl⟩ : ∃ e : Nat, d = (e : Int) := ⟨d.toNat, by omega⟩
    have hSd : Shp p e := ⟨h.1.1, h13'⟩
    refine .inl ⟨(fun b0 b1 i0 => St.mk [(2, .one (.pt 0 0)), (3, .one (.pt 1 0)), (5, .one (.i .i64 ((i0 : Nat) : Int)))] [b0, b1]) _ _ , fun i0 => ∀ i : Nat, i < i0 → Lin p e e g (1 + i * 64) ∧ ((n : Int) ≤ i → ∀ k : Nat, k < 64 → bz g (1 + i * 64 + k) = 0), 8, fun _ _ => by omega, ⟨⟨rfl, rfl, rfl, trivial⟩, ⟨rfl, rfl, trivial⟩, rfl⟩, fun i0 hi0 hF0 => ?_⟩
    refine ⟨fun h15 => ?_, fun h15 => ?_⟩
    · replace h15 := of_decide_eq_true h15
      refine ⟨i0, 1 + i0 * 64, rfl, by omega, by omega, ?_⟩
      refine ⟨⟨by first | omega | (simp <;> omega), by first | omega | (simp <;> omega)⟩, ?_⟩
      refine ⟨2, [], _, _, _, _, [_, _], rfl, s_l01Linear_ok B E.2.2.1 , rfl, trivial, rfl, rfl, rfl, ?_⟩
      refine ⟨fun h28 => ?_, fun h28 => ?_⟩
      · skip
        have h28' : ¬ Lin p e e g (1 + i0 * 64) := fun q => dec_elim_t' (not_t h28) ((Lin_sh (a := 1 + i0 * 64) (o := 0)).2 q)
        refine brB_t ?_
        refine brB_t ?_
        refine brB_t ?_
        refine brB_t ?_
        refine brB_t ?_
        refine brB_t ?_
        refine brB_t ?_
        refine ⟨rfl, [], ?_, rfl, trivial, rfl, rfl⟩
        exact one_b (dec_f fun q => h28' (q.1.2 i0 (by omega)).1)
      · skip
        have h28' : Lin p e e g (1 + i0 * 64) := (Lin_sh (a := 1 + i0 * 64) (o := 0)).1 (dec_elim_t (not_f h28))
        refine brB_f ?_
        refine brB_f ?_
        refine brB_f ?_
        refine brB_f ?_
        refine ⟨fun h33 => ?_, fun h33 => ?_⟩
        · replace h33 := of_decide_eq_true h33
          refine brB_t ?_
          refine brB_t ?_
          refine ⟨i0, 1 + i0 * 64, rfl, by omega, by omega, ?_⟩
          refine brB_t ?_
          refine ⟨⟨by first | omega | (simp <;> omega), by first | omega | (simp <;> omega)⟩, ?_⟩
          refine brB_t ?_
          refine brB_t ?_
          refine brB_f ?_
          refine brB_t ?_
          refine brB_f ?_
          refine ⟨fun h41 => ?_, fun h41 => ?_⟩
          · skip
            have h41' := not_t h41
            refine ⟨rfl, [], ?_, rfl, trivial, rfl, rfl⟩
            refine one_b (dec_f fun q => ?_)
            have := eqB_z.2 ((q.1.2 i0 (by omega)).2 h33)
            erw [this] at h41'; cases h41'
          · skip
            have h41' := not_f h41
            refine ⟨((i0 + 1 : Nat) : Int), w64_id _ (by omega) (by omega), ?_⟩
            refine ⟨by omega, ?_, ⟨rfl, rfl, rfl, trivial⟩, ⟨rfl, rfl, trivial⟩, rfl⟩
            intro i hi
            by_cases e : i = i0
            · subst e
              exact ⟨h28', fun _ => eqB_z.1 h41'⟩
            · exact hF0 i (by omega)
        · replace h33 := of_decide_eq_false h33
          refine brB_f ?_
          refine brB_f ?_
          refine brB_f ?_
          refine brB_f ?_
          refine brB_f ?_
          refine brB_f ?_
          refine brB_f ?_
          refine brB_f ?_
          refine brB_f ?_
          refine ⟨((i0 + 1 : Nat) : Int), w64_id _ (by omega) (by omega), ?_⟩
          refine ⟨by omega, ?_, ⟨rfl, rfl, rfl, trivial⟩, ⟨rfl, rfl, trivial⟩, rfl⟩
          intro i hi
          by_cases e : i = i0
          · subst e
            exact ⟨h28', fun q => (h33 q).elim⟩
          · exact hF0 i (by omega)
    · replace h15 := of_decide_eq_false h15
      have e0 : 8 = i0 := by omega
      subst e0
      refine .inl ⟨(fun b0 b1 i1 => St.mk [(2, .one (.pt 0 0)), (3, .one (.pt 1 0)), (6, .one (.i .i64 ((i1 : Nat) : Int)))] [b0, b1]) _ _ , fun i1 => ∀ k, k < i1 → MU p n g f k ∧ ∀ i j, i < n → j < n → MA p n e g f i j k, e, fun _ _ => by omega, ⟨⟨rfl, rfl, rfl, trivial⟩, ⟨rfl, rfl, trivial⟩, rfl⟩, fun i1 hi1 hF1 => ?_⟩
      refine ⟨fun h45 => ?_, fun h45 => ?_⟩
      · replace h45 := of_decide_eq_true h45
        refine .inl ⟨2, [], _, _, _, _, [_, _], rfl, s_l01Basis_ok B E.2.2.2.1 (i := i1) (by omega), rfl, trivial, rfl, rfl, ?_⟩
        refine ⟨2, rfl, ?_⟩
        refine ⟨⟨rfl, by first | omega | (simp <;> omega), by first | omega | (simp <;> omega)⟩, ?_⟩   -- sta ['.t', 7] ['.t', 49] 8
        refine ⟨⟨by first | omega | (simp <;> omega), by first | omega | (simp <;> omega)⟩, ?_⟩
        refine ⟨⟨by first | omega | (simp <;> omega), by first | omega | (simp <;> omega)⟩, ?_⟩
        refine ⟨3, [], _, _, _, _, [_, _, _], rfl, s_l06Act_ok B E.2.2.2.2.1 (n := n) (d := e) (by omega) (by omega) (by omega) (by omega), rfl, trivial, rfl, rfl, rfl, ?_⟩
        refine ⟨⟨by first | omega | (simp <;> omega), by first | omega | (simp <;> omega)⟩, ?_⟩
        have e57 : sh (spl (fun _ => 0) 0 8 (bas i1)) 0 = bas i1 := bas_cp (by omega)
        refine ⟨fun h57 => ?_, fun h57 => ?_⟩
        · skip
          have z57 : ¬ MU p n g f i1 := fun q => by
            have z := neB_t h57
            rw [e57] at z
            exact z ((MU_s (d := e) (by omega) (by omega) (by omega)).2 q)
          refine ⟨rfl, [], ?_, rfl, trivial, rfl, rfl⟩
          exact one_b (dec_f fun q => z57 (q.2.1 i1 (by omega)))
        · skip
          have z57 : MU p n g f i1 := by
            have z := neB_f h57
            rw [e57] at z
            exact (MU_s (d := e) (by omega) (by omega) (by omega)).1 z
          refine .inl ⟨(fun a6 b0 b1 b2 i2 => St.mk [(2, .one (.pt 0 0)), (3, .one (.pt 1 0)), (6, a6), (7, .one (.pt 2 0)), (8, .one (.i .i64 ((i2 : Nat) : Int)))] [b0, b1, b2]) _ _ _ _ , fun i2 => ∀ i, i < i2 → ∀ j, j < n → MA p n e g f i j i1, n, fun _ _ => by omega, ⟨⟨rfl, rfl, rfl, rfl, rfl, trivial⟩, ⟨rfl, rfl, rfl, trivial⟩, rfl⟩, fun i2 hi2 hF2 => ?_⟩
          refine ⟨fun h61 => ?_, fun h61 => ?_⟩
          · replace h61 := of_decide_eq_true h61
            refine .inl ⟨(fun a6 a8 b0 b1 b2 i3 => St.mk [(2, .one (.pt 0 0)), (3, .one (.pt 1 0)), (6, a6), (7, .one (.pt 2 0)), (8, a8), (9, .one (.i .i64 ((i3 : Nat) : Int)))] [b0, b1, b2]) _ _ _ _ _ , fun i3 => ∀ j, j < i3 → MA p n e g f i2 j i1, n, fun _ _ => by omega, ⟨⟨rfl, rfl, rfl, rfl, rfl, rfl, trivial⟩, ⟨rfl, rfl, rfl, trivial⟩, rfl⟩, fun i3 hi3 hF3 => ?_⟩
            refine ⟨fun h67 => ?_, fun h67 => ?_⟩
            · replace h67 := of_decide_eq_true h67
              refine ⟨i2, 10 + i2 * 64, rfl, by omega, by omega, ?_⟩
              refine ⟨i3, 10 + i2 * 64 + i3 * 8, rfl, by omega, by omega, ?_⟩
              refine ⟨⟨by first | omega | (simp <;> omega), by first | omega | (simp <;> omega)⟩, ?_⟩
              refine ⟨⟨by first | omega | (simp <;> omega), by first | omega | (simp <;> omega)⟩, ?_⟩
              refine ⟨3, [], _, _, _, _, [_, _, _], rfl, s_l06Act_ok B E.2.2.2.2.1 (n := n) (d := e) (by omega) (by omega) (by omega) (by omega), rfl, trivial, rfl, rfl, rfl, ?_⟩
              refine ⟨i2, 1 + i2 * 64, rfl, by omega, by omega, ?_⟩
              refine ⟨⟨by first | omega | (simp <;> omega), by first | omega | (simp <;> omega)⟩, ?_⟩
              refine ⟨i3, 1 + i3 * 64, rfl, by omega, by omega, ?_⟩
              refine ⟨i1, 1 + i3 * 64 + i1 * 8, rfl, by omega, by omega, ?_⟩
              refine ⟨⟨by first | omega | (simp <;> omega), by first | omega | (simp <;> omega)⟩, ?_⟩
              refine .inl ⟨3, [], _, _, _, _, [_, _, _], rfl, s_l01Apply_ok B E.2.2.2.2.2 (n := e) (by omega) (by omega) (by omega), rfl, trivial, rfl, rfl, ?_⟩
              refine ⟨fun h95 => ?_, fun h95 => ?_⟩
              · skip
                have z95 : ¬ MA p n e g f i2 i3 i1 := fun q => by
                  have z := neB_t h95
                  rw [e57] at z
                  exact z ((MA_s (by omega) (by omega) (by omega)).2 q)
                refine ⟨rfl, [], ?_, rfl, trivial, rfl, rfl⟩
                exact one_b (dec_f fun q => z95 (q.2.2 i2 i3 (by omega) (by omega) i1 (by omega)))
              · skip
                have z95 : MA p n e g f i2 i3 i1 := by
                  have z := neB_f h95
                  rw [e57] at z
                  exact (MA_s (by omega) (by omega) (by omega)).1 z
                refine ⟨((i3 + 1 : Nat) : Int), w64_id _ (by omega) (by omega), ?_⟩
                refine ⟨by omega, ?_, ⟨rfl, rfl, rfl, rfl, rfl, rfl, trivial⟩, ⟨rfl, rfl, rfl, trivial⟩, rfl⟩
                intro j hj
                by_cases e : j = i3
                · subst e; exact z95
                · exact hF3 j (by omega)
            · replace h67 := of_decide_eq_false h67
              have e3 : n = i3 := by omega
              subst e3
              refine ⟨((i2 + 1 : Nat) : Int), w64_id _ (by omega) (by omega), ?_⟩
              refine ⟨by omega, ?_, ⟨rfl, rfl, rfl, rfl, rfl, trivial⟩, ⟨rfl, rfl, rfl, trivial⟩, rfl⟩
              intro i hi j hj
              by_cases e : i = i2
              · subst e; exact hF3 j hj
              · exact hF2 i (by omega) j hj
          · replace h61 := of_decide_eq_false h61
            have e2 : n = i2 := by omega
            subst e2
            refine ⟨((i1 + 1 : Nat) : Int), w64_id _ (by omega) (by omega), ?_⟩
            refine ⟨by omega, ?_, ⟨rfl, rfl, rfl, trivial⟩, ⟨rfl, rfl, trivial⟩, rfl⟩
            intro k hk
            by_cases e : k = i1
            · subst e; exact ⟨z57, fun i j hi hj => hF2 i hi j hj⟩
            · exact hF1 k (by omega)
      · replace h45 := of_decide_eq_false h45
        have e1 : e = i1 := by omega
        subst e1
        refine ⟨rfl, [], ?_, rfl, trivial, rfl, rfl⟩
        exact one_b (dec_t ⟨⟨hSd, hF0⟩, fun k hk => (hF1 k hk).1, fun i j hi hj k hk => (hF1 k hk).2 i j hi hj⟩)

-- left out: i_IsModule (not among the functions at hand)
-- left out: s_IsModule (not among the functions at hand)
def modR (g : By) : By := spl (fun _ => 0) 1 512 (sh g 1)
theorem modR_eq {f : By} {x : Nat} (h1 : 1 ≤ x) (h2 : x < 513) : modR f x = f x := by
  simp only [modR, spl, sh]
  rw [if_pos (by omega), show 1 + (x - 1) = x by omega]

theorem l_toLinearA8_raw_ok (B : Bs P ρ) (E : E_l_toLinearA8 P ρ) {f : By} :
    CallOK P ρ 144 [.ag [] 512 f] [] (.one (.ag [] 512 (cut 512 f))) [] := by
  refine call_of_vc B.fn B.mo E.1 rfl rfl ?_
  refine ⟨0, rfl, ?_⟩
  refine ⟨1, rfl, ?_⟩
  refine ⟨2, rfl, ?_⟩
  refine .inl ⟨(fun b0 b1 i0 => St.mk [(1, .one (.pt 0 0)), (2, .one (.pt 1 0)), (3, .one (.pt 2 0)), (4, .one (.i .i64 ((i0 : Nat) : Int)))] [b0, b1, Blk.mk false (.by [] 512 (cut (i0 * 64) f))]) _ _ , fun i0 => True, 8, trivial, ⟨⟨rfl, rfl, rfl, rfl, trivial⟩, ⟨rfl, rfl, ?_, trivial⟩, rfl⟩, fun i0 hi0 _ => ?_⟩
  · exact blk_by (by rw [Nat.zero_mul]; exact cut_0)
  refine ⟨fun h6 => ?_, fun h6 => ?_⟩
  · replace h6 := of_decide_eq_true h6
    refine ⟨i0, i0 * 64, rfl, by omega, by omega, ?_⟩
    refine ⟨⟨by first | omega | (simp <;> omega), by first | omega | (simp <;> omega)⟩, ?_⟩
    refine .inl ⟨3, [], _, _, _, _, [_, _, _], rfl, l_toLinear_ok B E.2 , rfl, trivial, rfl, rfl, ?_⟩
    refine ⟨i0, i0 * 64, rfl, by omega, by omega, ?_⟩
    refine ⟨⟨rfl, by first | omega | (simp <;> omega), by first | omega | (simp <;> omega)⟩, ?_⟩   -- sta ['.t', 14] ['.t', 13] 64
    refine ⟨((i0 + 1 : Nat) : Int), w64_id _ (by omega) (by omega), ?_⟩
    refine ⟨by omega, trivial, ⟨rfl, rfl, rfl, rfl, trivial⟩, ⟨rfl, rfl, ?_, trivial⟩, rfl⟩
    exact blk_by (cut_spl (by omega)).symm
  · replace h6 := of_decide_eq_false h6
    have e0 : 8 = i0 := by omega
    subst e0
    refine ⟨⟨by first | omega | (simp <;> omega), by first | omega | (simp <;> omega)⟩, ?_⟩
    refine ⟨⟨rfl, by first | omega | (simp <;> omega), by first | omega | (simp <;> omega)⟩, ?_⟩   -- sta ['.t', 2] ['.t', 15] 512
    refine ⟨rfl, ⟨by first | omega | (simp <;> omega), by first | omega | (simp <;> omega)⟩, [], ?_, rfl, trivial, rfl, rfl⟩
    exact one_ag out_cut

theorem l_toLinearA8_ok (B : Bs P ρ) (E : E_l_toLinearA8 P ρ) {f : By} : CallOK P ρ 144 [.ag [] 512 f] [] (.one (.ag [] 512 f)) [] := (l_toLinearA8_raw_ok B E).conv eqL_rfl eq_cut eqH_rfl

theorem l_toModule_raw_ok (B : Bs P ρ) (E : E_l_toModule P ρ) {d : Int} {g : By} :
    CallOK P ρ 133 [.ag [d] 513 g] [] (.one (.ag [d] 513 (modR g))) [] := by
  refine call_of_vc B.fn B.mo E.1 rfl rfl ?_
  refine ⟨0, rfl, ?_⟩
  refine ⟨1, rfl, ?_⟩
  refine ⟨2, rfl, ?_⟩
  refine ⟨⟨by first | omega | (simp <;> omega), by first | omega | (simp <;> omega)⟩, ?_⟩
  refine .inl ⟨3, [], _, _, _, _, [_, _, _], rfl, l_toLinearA8_ok B E.2 , rfl, trivial, rfl, rfl, ?_⟩
  refine ⟨⟨rfl, by first | omega | (simp <;> omega), by first | omega | (simp <;> omega)⟩, ?_⟩   -- sta ['.t', 10] ['.t', 9] 512
  exact ⟨rfl, ⟨by first | omega | (simp <;> omega), by first | omega | (simp <;> omega)⟩, [], rfl, rfl, trivial, rfl, rfl⟩

theorem l_toModule_ok (B : Bs P ρ) (E : E_l_toModule P ρ) {d : Int} {g : By} : CallOK P ρ 133 [.ag [d] 513 g] [] (.one (.ag [d] 513 g)) [] := (l_toModule_raw_ok B E).conv eqL_rfl ⟨_, rfl, fun _ h1 h2 => modR_eq h1 h2⟩ eqH_rfl

-- left out: l_FnExactIsModule (not among the functions at hand)
end Hf
namespace Hf
open Go Classical
variable {P : Program} {ρ : Nat → FuncId}
/-- the first number other than 0 -/
def fz : List Int → Int
  | [] => 0
  | a :: r => if a ≠ 0 then a else fz r
theorem fz_at : ∀ {l : List Int} {i : Nat}, i < l.length → l.getD i 0 ≠ 0 → (∀ j, j < i → l.getD j 0 = 0) → fz l = l.getD i 0
  | a :: r, 0, _, h, _ => by
    simp at h
    simp [fz, h]
  | a :: r, i + 1, hi, h, h0 => by
    have h1 := h0 0 (by omega)
    simp at h1
    simp only [fz]
    rw [if_neg (by simp [h1]), fz_at (l := r) (i := i) (by simpa using hi) (by simpa using h) fun j hj => by have := h0 (j + 1) (by omega); simpa using this]
    simp
theorem fz_0 : ∀ {l : List Int}, (∀ j, j < l.length → l.getD j 0 = 0) → fz l = 0
  | [], _ => rfl
  | a :: r, h => by
    have h1 := h 0 (by simp)
    simp at h1
    simp only [fz]
    rw [if_neg (by simp [h1]), fz_0 (l := r) fun j hj => by have := h (j + 1) (by simp; omega); simpa using this]

theorem i_first3_ok (B : Bs P ρ) (E : E_i_first P ρ) {a b c : Int} :
    CallOK P ρ 139 [.sl 0 0 3 3] [⟨true, .rw [.i .i64 a, .i .i64 b, .i .i64 c]⟩] (.one (.i .i64 (fz [a, b, c]))) [⟨true, .rw [.i .i64 a, .i .i64 b, .i .i64 c]⟩] := by
  refine call_of_vc B.fn B.mo E rfl rfl ?_
  refine .inl ⟨(fun b0 i0 => St.mk [(5, .one (.sl 0 0 3 3)), (6, .one (.i .i64 3)), (7, .one (.i .i64 ((i0 : Nat) : Int)))] [b0]) _ , fun i0 => ∀ j, j < i0 → [a, b, c].getD j 0 = 0, 3, fun _ _ => by omega, ⟨⟨rfl, rfl, rfl, trivial⟩, ⟨rfl, trivial⟩, rfl⟩, fun i0 hi0 hF0 => ?_⟩
  refine ⟨fun h8 => ?_, fun h8 => ?_⟩
  · replace h8 := of_decide_eq_true h8
    refine ⟨i0, i0, rfl, by omega, by omega, ?_⟩
    refine ⟨.i .i64 ([a, b, c].getD i0 0), ?_, ?_⟩
    · have hi7 : i0 = 0 ∨ i0 = 1 ∨ i0 = 2 := by omega
      rcases hi7 with rfl | rfl | rfl <;> rfl
    refine ⟨fun h12 => ?_, fun h12 => ?_⟩
    · replace h12 := bne_t h12
      refine ⟨rfl, [], ?_, rfl, ⟨rfl, trivial⟩, rfl, rfl⟩
      exact one_i (fz_at (l := [a, b, c]) (by simp; omega) h12 hF0).symm
    · replace h12 := bne_f h12
      refine ⟨((i0 + 1 : Nat) : Int), w64_id _ (by omega) (by omega), ?_⟩
      refine ⟨by omega, ?_, ⟨rfl, rfl, rfl, trivial⟩, ⟨rfl, trivial⟩, rfl⟩
      intro j hj
      by_cases e : j = i0
      · subst e; exact h12
      · exact hF0 j (by omega)
  · replace h8 := of_decide_eq_false h8
    have e0 : 3 = i0 := by omega
    subst e0
    refine ⟨rfl, [], ?_, rfl, ⟨rfl, trivial⟩, rfl, rfl⟩
    exact one_i (fz_0 (l := [a, b, c]) hF0).symm

end Hf
namespace Hf
open Go Classical
variable {P : Program} {ρ : Nat → FuncId}
theorem sb {q r : Prop} {i1 : Decidable q} {i2 : Decidable r} (h : q ↔ r) : some (Sv.one (.b (@decide q i1))) = some (Sv.one (.b (@decide r i2))) := by rw [decide_eq_decide.2 h]
theorem sbf {r : Prop} {i2 : Decidable r} (h : ¬ r) : some (Sv.one (.b false)) = some (Sv.one (.b (@decide r i2))) := by rw [decide_eq_false h]

theorem i_modulesCode1_ok (B : Bs P ρ) (E : E_i_modulesCode P ρ) {p n d : Int} {f g : By} :
    CallOK P ρ 164 [.pt 0 0, .sl 1 0 1 1] [⟨true, .by [p, n] 1106 f⟩, ⟨true, .rw [.pt 2 0]⟩, ⟨true, .by [d] 513 g⟩] (.one (.i .i64 (oc (Hop p n f ∧ Mod p n.toNat d g f) 1))) [⟨true, .by [p, n] 1106 f⟩, ⟨true, .rw [.pt 2 0]⟩, ⟨true, .by [d] 513 g⟩] := by
  refine call_of_vc B.fn B.mo E.1 rfl rfl ?_
  refine .inl ⟨3, [], _, _, _, _, [_, _, _], rfl, i_IsHopf_ok B E.2.1 , rfl, trivial, rfl, rfl, ?_⟩
  refine .inl ⟨(fun a0 a12 a13 b0 b1 b2 i0 => St.mk [(0, a0), (5, .one (.b (decide (Hop p n f ∧ (0 < i0 → Mod p n.toNat d g f))))), (12, a12), (13, a13), (14, .one (.i .i64 ((i0 : Nat) : Int)))] [b0, b1, b2]) _ _ _ _ _ _ , fun i0 => True, 1, trivial, ⟨⟨rfl, sb ⟨fun q => ⟨q, fun h => absurd h (by omega)⟩, fun q => q.1⟩, rfl, rfl, rfl, trivial⟩, ⟨rfl, rfl, rfl, trivial⟩, rfl⟩, fun i0 hi0 _ => ?_⟩
  have d0 : i0 = 0 ∨ i0 = 1 := by omega
  rcases d0 with rfl | rfl
  · skip
    refine ⟨fun h15 => ?_, fun h15 => ?_⟩
    · replace h15 := of_decide_eq_true h15
      refine ⟨_, _, rfl, by first | omega | (simp <;> omega), rfl, ?_⟩
      refine ⟨_, rfl, ?_⟩
      refine ⟨fun h19 => ?_, fun h19 => ?_⟩
      · skip
        have hQ := dec_elim_t h19
        have hb := AShp.p1 (f := f) ⟨hQ.1.1.1, hQ.1.1.2.1, hQ.1.1.2.2.1⟩
        obtain ⟨m, rfl⟩ : ∃ m : Nat, n = (m : Int) := ⟨n.toNat, by omega⟩
        refine brB_t ?_
        refine brB_t ?_
        refine .inl ⟨3, [2 + 0, 0], _, _, _, _, [_, _, _], rfl, i_Module_isModule_ok B E.2.2.1 hQ.1.1, rfl, ⟨⟨_, rfl, fun h => by first | rfl | cases h⟩, ⟨_, rfl, fun h => by first | rfl | cases h⟩, trivial⟩, rfl, rfl, ?_⟩
        refine brB_t ?_
        refine ⟨((0 + 1 : Nat) : Int), w64_id _ (by omega) (by omega), ?_⟩
        refine ⟨by omega, trivial, ⟨rfl, ?_, rfl, rfl, rfl, trivial⟩, ⟨rfl, rfl, rfl, trivial⟩, rfl⟩
        exact sb ⟨fun q => ⟨hQ.1, fun _ => q⟩, fun q => q.2 (by omega)⟩
      · skip
        refine brB_f ?_
        refine brB_f ?_
        refine brB_f ?_
        refine ⟨((0 + 1 : Nat) : Int), w64_id _ (by omega) (by omega), ?_⟩
        refine ⟨by omega, trivial, ⟨rfl, ?_, rfl, rfl, rfl, trivial⟩, ⟨rfl, rfl, rfl, trivial⟩, rfl⟩
        exact sbf (fun q => dec_elim_t' h19 ⟨q.1, fun h => absurd h (by omega)⟩)
    · replace h15 := of_decide_eq_false h15
      exact absurd h15 (by omega)
  · skip
    refine ⟨fun h15 => ?_, fun h15 => ?_⟩
    · replace h15 := of_decide_eq_true h15
      exact absurd h15 (by omega)
    · replace h15 := of_decide_eq_false h15
      refine .inl ⟨3, [], _, _, _, _, [_, _, _], rfl, i_unless_ok B E.2.2.2 , rfl, trivial, rfl, rfl, ?_⟩
      refine ⟨rfl, [], ?_, rfl, ⟨rfl, rfl, rfl, trivial⟩, rfl, rfl⟩
      refine one_i ?_
      by_cases q : Hop p n f ∧ Mod p n.toNat d g f
      · rw [oc_t q, if_pos (decide_eq_true ⟨q.1, fun _ => q.2⟩)]
      · rw [oc_f q, if_neg]
        rw [decide_eq_false (fun z => q ⟨z.1, z.2 (by omega)⟩)]
        simp

theorem s_l06Code1_ok (B : Bs P ρ) (E : E_s_l06Code P ρ) {p n d : Int} {f g : By} :
    CallOK P ρ 162 [.ag [p, n] 1106 f, .sl 0 0 1 1] [⟨true, .gs 513 [([d], g)]⟩] (.one (.i .i64 (oc (Hop p n f ∧ Mod p n.toNat d g f) 1))) [⟨true, .gs 513 [([d], g)]⟩] := by
  refine call_of_vc B.fn B.mo E.1 rfl rfl ?_
  refine ⟨1, rfl, ?_⟩
  refine .inl ⟨2, [], _, _, _, _, [_, _], rfl, s_l03Is_ok B E.2.1 , rfl, trivial, rfl, rfl, ?_⟩
  refine ⟨fun h8 => ?_, fun h8 => ?_⟩
  · skip
    have hH : ¬ Hop p n f := dec_elim_t' (not_t h8)
    refine ⟨rfl, [], ?_, rfl, ⟨rfl, trivial⟩, rfl, rfl⟩
    rw [oc_f (fun q2 : _ ∧ _ => hH q2.1)]; rfl
  · skip
    have hH : Hop p n f := dec_elim_t (not_f h8)
    have hb := AShp.p1 (f := f) ⟨hH.1.1, hH.1.2.1, hH.1.2.2.1⟩
    obtain ⟨m, rfl⟩ : ∃ m : Nat, n = (m : Int) := ⟨n.toNat, by omega⟩
    refine .inl ⟨(fun a1 b0 b1 i0 => St.mk [(1, a1), (2, .one (.pt 1 0)), (5, .one (.i .i64 ((i0 : Nat) : Int)))] [b0, b1]) _ _ _ , fun i0 => 0 < i0 → Mod p m d g f, 1, fun h => absurd h (by omega), ⟨⟨rfl, rfl, rfl, trivial⟩, ⟨rfl, rfl, trivial⟩, rfl⟩, fun i0 hi0 hF0 => ?_⟩
    have d0 : i0 = 0 ∨ i0 = 1 := by omega
    rcases d0 with rfl | rfl
    · skip
      refine ⟨fun h12 => ?_, fun h12 => ?_⟩
      · replace h12 := of_decide_eq_true h12
        refine ⟨_, _, rfl, by first | omega | (simp <;> omega), rfl, ?_⟩
        refine ⟨0, _, _, by decide, rfl, by decide, ?_⟩
        refine .inl ⟨2, [], _, _, _, _, [_, _], rfl, s_l06Holds_ok B E.2.2 hH.1, rfl, trivial, rfl, rfl, ?_⟩
        refine ⟨fun h21 => ?_, fun h21 => ?_⟩
        · skip
          have q21 := dec_elim_t' (not_t h21)
          refine ⟨rfl, [], ?_, rfl, ⟨rfl, trivial⟩, rfl, rfl⟩
          rw [oc_f (q := Hop p m f ∧ Mod p (m : Int).toNat d g f) (fun q2 => q21 q2.2)]; rfl
        · skip
          have q21 := dec_elim_t (not_f h21)
          refine ⟨((0 + 1 : Nat) : Int), w64_id _ (by omega) (by omega), ?_⟩
          exact ⟨by omega, fun _ => q21, ⟨rfl, rfl, rfl, trivial⟩, ⟨rfl, rfl, trivial⟩, rfl⟩
      · replace h12 := of_decide_eq_false h12
        exact absurd h12 (by omega)
    · skip
      refine ⟨fun h12 => ?_, fun h12 => ?_⟩
      · replace h12 := of_decide_eq_true h12
        exact absurd h12 (by omega)
      · replace h12 := of_decide_eq_false h12
        refine ⟨rfl, [], ?_, rfl, ⟨rfl, trivial⟩, rfl, rfl⟩
        rw [oc_t ⟨hH, hF0 (by omega)⟩]; rfl

end Hf
namespace Hf
open Go Classical
variable {P : Program} {ρ : Nat → FuncId}
theorem cat_u {N x : Nat} {f : By} (h : x < N) : cat (.by [] N f) x = some (.u (f x)) := by simp [cat, h]
theorem cput_u {hd : List Int} {N x : Nat} {f : By} {v : UInt8} (h0 : hd.length ≤ x) (h : x < N) : cput (.by hd N f) x (.u v) = some (.by hd N (upd f x v)) := if_pos ⟨h0, h⟩
theorem cputs_by {hd : List Int} {N off n : Nat} {f g : By} (h0 : hd.length ≤ off) (h : off + n ≤ N) : cputs (.by hd N f) off (.ag [] n g) n = some (.by hd N (spl f off n g)) := if_pos ⟨rfl, h0, h⟩
theorem Ext.nil {H : List Blk} : Ext [] H := fun k B h => by simp at h
theorem get_new {H : List Blk} {B : Blk} : (H ++ [B])[H.length]? = some B := by simp
theorem lt_of {H : List Blk} {k : Nat} {B : Blk} (e : H[k]? = some B) : k < H.length := (List.getElem?_eq_some_iff.1 e).1
theorem set_same {H : List Blk} {k : Nat} {A B : Blk} (e : H[k]? = some A) : (H.set k B)[k]? = some B := by
  have := lt_of e; simp [this]
theorem set_other {H : List Blk} {k j : Nat} {A B : Blk} (e : H[j]? = some A) (h : k ≠ j) : (H.set k B)[j]? = some A := by
  rw [List.getElem?_set_ne h]; exact e
theorem app_old {H G : List Blk} {j : Nat} {A : Blk} (e : H[j]? = some A) : (H ++ G)[j]? = some A := Ext.app _ _ e

/-- the first place of n, from i on, at which q holds, else where they end -/
def fstN (q : Nat → Bool) : Nat → Nat → Nat
  | 0, i => i
  | n + 1, i => if q i = true then i else fstN q n (i + 1)
theorem fstN_ge {q : Nat → Bool} : ∀ {n i : Nat}, i ≤ fstN q n i ∧ fstN q n i ≤ i + n
  | 0, i => by simp [fstN]
  | n + 1, i => by
    simp only [fstN]
    split
    · omega
    · have := @fstN_ge q n (i + 1); omega
theorem fstN_eq {q : Nat → Bool} {k : Nat} : ∀ {n i : Nat}, i ≤ k → k < i + n → q k = true → (∀ j, i ≤ j → j < k → q j = false) → fstN q n i = k
  | 0, i, h1, h2, _, _ => by omega
  | n + 1, i, h1, h2, h3, h4 => by
    simp only [fstN]
    by_cases e : i = k
    · subst e; rw [if_pos h3]
    · rw [if_neg (by rw [h4 i (Nat.le_refl _) (by omega)]; simp)]
      exact fstN_eq (by omega) (by omega) h3 fun j h5 h6 => h4 j (by omega) h6
theorem fstN_none {q : Nat → Bool} : ∀ {n i : Nat} (j : Nat), i ≤ j → j < fstN q n i → q j = false
  | 0, i, j, h1, h2 => by simp only [fstN] at h2; omega
  | n + 1, i, j, h1, h2 => by
    simp only [fstN] at h2
    split at h2
    · omega
    · rename_i h
      rcases Nat.eq_or_lt_of_le h1 with e | e
      · subst e; simpa using h
      · exact fstN_none j e h2
theorem fstN_some {q : Nat → Bool} : ∀ {n i : Nat}, fstN q n i < i + n → q (fstN q n i) = true
  | 0, i, h => by simp only [fstN] at h; omega
  | n + 1, i, h => by
    simp only [fstN] at h ⊢
    split
    · assumption
    · rename_i hq
      rw [if_neg hq] at h
      exact fstN_some (by omega)

/-! ### slices of vectors -/
def z0 : By := fun _ => 0
/-- the slice a, over the blocks H, has the vectors L -/
def VS (H : List Blk) (a : At) (L : List By) : Prop :=
  (a = .sn ∧ L = []) ∨ ∃ k off cap r N f, a = .sl k off L.length cap ∧ H[k]? = some ⟨r, .by [] N f⟩ ∧ (off + cap * 8 ≤ N ∧ L.length ≤ cap) ∧ ∀ i x, i < L.length → x < 8 → f (off + i * 8 + x) = (L.getD i z0) x
/-- the same, and it may be written behind: its block is none of the first m -/
def VW (m : Nat) (H : List Blk) (a : At) (L : List By) : Prop :=
  ∃ k off cap N f, a = .sl k off L.length cap ∧ H[k]? = some ⟨false, .by [] N f⟩ ∧ (off + cap * 8 ≤ N ∧ L.length ≤ cap ∧ m ≤ k) ∧ ∀ i x, i < L.length → x < 8 → f (off + i * 8 + x) = (L.getD i z0) x
/-- the first m blocks are there still -/
def Upto (m : Nat) (H H' : List Blk) : Prop := ∀ (k : Nat) (B : Blk), k < m → H[k]? = some B → H'[k]? = some B
theorem Upto.trans {m : Nat} {H H1 H2 : List Blk} (h : Upto m H H1) (h' : Upto m H1 H2) : Upto m H H2 := fun k B hk e => h' k B hk (h k B hk e)
theorem Upto.ext {m : Nat} {H H1 H2 : List Blk} (h : Ext H H1) (h' : Upto m H1 H2) (hm : H.length ≤ m) : Ext H H2 := fun k B e => h' k B (by have := lt_of e; omega) (h k B e)
theorem VW.mono {m m' : Nat} {H : List Blk} {a : At} {L : List By} (h : VW m H a L) (hm : m' ≤ m) : VW m' H a L := by
  obtain ⟨k, off, cap, N, f, h1, h2, h3, h4⟩ := h
  exact ⟨k, off, cap, N, f, h1, h2, ⟨h3.1, h3.2.1, by omega⟩, h4⟩
theorem VS.ext {H H' : List Blk} {a : At} {L : List By} (h : VS H a L) (e : Ext H H') : VS H' a L := by
  rcases h with h | ⟨k, off, cap, r, N, f, h1, h2, h3, h4⟩
  · exact .inl h
  · exact .inr ⟨k, off, cap, r, N, f, h1, e k _ h2, h3, h4⟩
theorem VS.nil {H : List Blk} : VS H .sn [] := .inl ⟨rfl, rfl⟩
theorem VW.ext {m : Nat} {H H' : List Blk} {a : At} {L : List By} (h : VW m H a L) (e : Ext H H') : VW m H' a L := by
  obtain ⟨k, off, cap, N, f, h1, h2, h3, h4⟩ := h
  exact ⟨k, off, cap, N, f, h1, e k _ h2, h3, h4⟩
theorem VS.lt {H : List Blk} {a : At} {L : List By} (h : VS H a L) : a.lt H.length = true := by
  rcases h with ⟨rfl, -⟩ | ⟨k, off, cap, r, N, f, rfl, h2, h3, h4⟩
  · rfl
  have := lt_of h2
  simp [At.lt, this]
theorem VS.len {H : List Blk} {a : At} {L : List By} (h : VS H a L) : lenA a = some L.length := by
  rcases h with ⟨rfl, rfl⟩ | ⟨k, off, cap, r, N, f, rfl, -⟩ <;> rfl
theorem VS.at {H : List Blk} {a : At} {L : List By} (h : VS H a L) (i : Nat) (hi : i < L.length) :
    ∃ k off len cap q, a = .sl k off len cap ∧ i < len ∧ off + i * 8 = q ∧ ∃ r N f, H[k]? = some ⟨r, .by [] N f⟩ ∧ q + 8 ≤ N ∧ ∀ x, x < 8 → (L.getD i z0) x = f (q + x) := by
  rcases h with ⟨rfl, rfl⟩ | ⟨k, off, cap, r, N, f, rfl, h2, h3, h4⟩
  · simp at hi
  exact ⟨k, off, L.length, cap, off + i * 8, rfl, hi, rfl, r, N, f, h2, by omega, fun x hx => (h4 i x hi hx).symm⟩
/-- a new list without vectors -/
theorem VW.nil {m : Nat} {H : List Blk} {f : By} (hm : m ≤ H.length) : VW m (H ++ [⟨false, .by [] (0 * 8) f⟩]) (.sl H.length 0 0 0) [] :=
  ⟨H.length, 0, 0, _, f, rfl, get_new, ⟨by omega, by simp, hm⟩, fun i x h => by simp at h⟩
/-- a new list with one vector -/
theorem VS.one {H : List Blk} {v : By} : VS (H ++ [⟨false, .by [] (1 * 8) (spl (fun _ => 0) (0 * 8) 8 v)⟩]) (.sl H.length 0 1 1) [v] := by
  refine .inr ⟨H.length, 0, 1, false, _, _, rfl, get_new, ⟨by omega, by simp⟩, fun i x h hx => ?_⟩
  obtain rfl : i = 0 := by simpa using h
  simp [spl, hx]

theorem getD_mem {L : List By} {i : Nat} (h : i < L.length) : L.getD i z0 ∈ L := by
  rw [List.getD_eq_getElem?_getD, List.getElem?_eq_getElem h]; simp

end Hf
namespace Hf
open Go Classical
/-- a vector of W numbers below p, with zeros behind -/
def Vp (W : Nat) (p : Int) (v : By) : Prop := (∀ x, bz v x < p) ∧ ∀ x, W ≤ x → v x = 0
def addW (W : Nat) (p : Int) (v w : By) (k : Int) : By := vec W p fun y => bz v y + k * bz w y
def fstW (W : Nat) (v : By) : Nat := fstN (fun i => v i != 0) W 0
section
variable {W : Nat} {p : Int}
theorem bz_z0 {x : Nat} : bz z0 x = 0 := rfl
theorem Vp.z (hp : 1 ≤ p) : Vp W p z0 := ⟨fun x => by rw [bz_z0]; omega, fun _ _ => rfl⟩
theorem Vp.add (hp : 1 ≤ p) (hp2 : p ≤ 256) {v w : By} {k : Int} : Vp W p (addW W p v w k) := ⟨fun x => bz_vec_lt hp hp2, fun x hx => vec_out hx⟩
theorem bz_inj {a b : UInt8} (h : (a.toNat : Int) = b.toNat) : a = b := UInt8.toNat_inj.1 (by omega)
theorem Vp.ext {v w : By} (hv : Vp W p v) (hw : Vp W p w) (h : ∀ x, x < W → cg p (bz v x) (bz w x)) : v = w := by
  funext x
  by_cases hx : x < W
  · have h1 := h x hx
    unfold cg at h1
    rw [Int.emod_eq_of_lt (bz_nn v x) (hv.1 x), Int.emod_eq_of_lt (bz_nn w x) (hw.1 x)] at h1
    exact bz_inj h1
  · rw [hv.2 x (by omega), hw.2 x (by omega)]
theorem cg_add' (hp : 1 ≤ p) (hp2 : p ≤ 256) {v w : By} {k : Int} {x : Nat} (hx : x < W) : cg p (bz (addW W p v w k) x) (bz v x + k * bz w x) := cg_vec hp hp2 hx
theorem bz_add (hp : 1 ≤ p) (hp2 : p ≤ 256) {v w : By} {k : Int} {x : Nat} (hx : x < W) : bz (addW W p v w k) x = (bz v x + k * bz w x) % p := bz_vec hp hp2 hx
theorem add_0 (hp : 1 ≤ p) (hp2 : p ≤ 256) {v w : By} (hv : Vp W p v) : addW W p v w 0 = v :=
  (Vp.add hp hp2).ext hv fun x hx => (cg_add' hp hp2 hx).trans (cg_of_eq (by simp))
theorem add_z (hp : 1 ≤ p) (hp2 : p ≤ 256) {v : By} {k : Int} (hv : Vp W p v) : addW W p v z0 k = v :=
  (Vp.add hp hp2).ext hv fun x hx => (cg_add' hp hp2 hx).trans (cg_of_eq (by simp [bz_z0]))
/-- (u + k (v + c r)) = (u + k v) + k c r -/
theorem add_assoc' (hp : 1 ≤ p) (hp2 : p ≤ 256) {u v r : By} {k c : Int} : addW W p u (addW W p v r c) k = addW W p (addW W p u v k) r (k * c) := by
  refine (Vp.add hp hp2).ext (Vp.add hp hp2) fun x hx => ?_
  refine (cg_add' hp hp2 hx).trans ?_
  refine (cg_add cg.rfl' (cg_mul cg.rfl' (cg_add' hp hp2 hx))).trans ?_
  refine cg.trans ?_ (cg_add' hp hp2 hx).symm
  refine cg.trans ?_ (cg_add (cg_add' hp hp2 hx) cg.rfl').symm
  exact cg_of_eq (by grind)
/-! ### spaces -/
inductive Sp' (W : Nat) (p : Int) (L : List By) : By → Prop
  | z : Sp' W p L z0
  | a {u w : By} {k : Int} : Sp' W p L u → w ∈ L → Sp' W p L (addW W p u w k)

theorem Sp'.vp (hp : 1 ≤ p) (hp2 : p ≤ 256) {L : List By} {v : By} : Sp' W p L v → Vp W p v
  | .z => Vp.z hp
  | .a _ _ => Vp.add hp hp2
theorem Sp'.add (hp : 1 ≤ p) (hp2 : p ≤ 256) {L : List By} {u v : By} {k : Int} (hu : Sp' W p L u) (hv : Sp' W p L v) : Sp' W p L (addW W p u v k) := by
  induction hv generalizing u k with
  | z => rw [add_z hp hp2 (hu.vp hp hp2)]; exact hu
  | a h1 h2 ih =>
    rw [add_assoc' hp hp2]
    exact .a (ih hu) h2
theorem Sp'.sub (hp : 1 ≤ p) (hp2 : p ≤ 256) {L M : List By} (h : ∀ r ∈ L, Sp' W p M r) {v : By} (hv : Sp' W p L v) : Sp' W p M v := by
  induction hv with
  | z => exact .z
  | a _ h2 ih => exact ih.add hp hp2 (h _ h2)
/-- the same space -/
def SpE (W : Nat) (p : Int) (L M : List By) : Prop := ∀ v, Sp' W p L v ↔ Sp' W p M v
theorem SpE.of (hp : 1 ≤ p) (hp2 : p ≤ 256) {L M : List By} (h : ∀ r ∈ L, Sp' W p M r) (h' : ∀ r ∈ M, Sp' W p L r) : SpE W p L M := fun v => ⟨fun q => q.sub hp hp2 h, fun q => q.sub hp hp2 h'⟩
theorem SpE.rfl' {L : List By} : SpE W p L L := fun _ => Iff.rfl
theorem SpE.symm {L M : List By} (h : SpE W p L M) : SpE W p M L := fun v => (h v).symm
theorem SpE.trans {L M N : List By} (h : SpE W p L M) (h' : SpE W p M N) : SpE W p L N := fun v => (h v).trans (h' v)

/-! ### first places -/
theorem fstW_le {v : By} : fstW W v ≤ W := by have := @fstN_ge (fun i => v i != 0) W 0; unfold fstW; omega
theorem fstW_lt {v : By} {y : Nat} (h : y < fstW W v) : v y = 0 := by
  have := @fstN_none (fun i => v i != 0) W 0 y (Nat.zero_le _) h
  simpa using this
theorem fstW_ne {v : By} (h : fstW W v < W) : v (fstW W v) ≠ 0 := by
  have := @fstN_some (fun i => v i != 0) W 0 (by unfold fstW at h; omega)
  simpa [fstW] using this
theorem fstW_eq {v : By} {k : Nat} (hk : k < W) (h : v k ≠ 0) (h0 : ∀ y, y < k → v y = 0) : fstW W v = k :=
  fstN_eq (Nat.zero_le _) (by omega) (by simpa using h) fun j _ hj => by simp [h0 j hj]
theorem fstW_z {v : By} (hv : ∀ x, W ≤ x → v x = 0) (h : fstW W v = W) : v = z0 := by
  funext y
  by_cases hy : y < W
  · exact fstW_lt (W := W) (by omega)
  · exact hv y (by omega)
theorem fst_nz {v : By} (hv : ∀ x, W ≤ x → v x = 0) (h : v ≠ z0) : fstW W v < W := by
  have := @fstW_le W v
  rcases Nat.lt_or_ge (fstW W v) W with h1 | h1
  · exact h1
  · exact (h (fstW_z hv (by omega))).elim

/-! ### what a list takes away -/
def byW1 (W : Nat) (p : Int) (v r : By) : By := if v (fstW W r) = 0 then v else addW W p v r (-(bz v (fstW W r)))
def byW (W : Nat) (p : Int) (v : By) (L : List By) : By := L.foldl (byW1 W p) v
/-- the first places grow, each first entry is 1, and the others have 0 there -/
structure RR (W : Nat) (p : Int) (L : List By) : Prop where
  vp : ∀ r ∈ L, Vp W p r
  ld : ∀ r ∈ L, fstW W r < W ∧ r (fstW W r) = 1
  st : L.Pairwise fun a b => fstW W a < fstW W b ∧ a (fstW W b) = 0

theorem byW1_add (hp : 1 ≤ p) (hp2 : p ≤ 256) {v r : By} (hv : Vp W p v) : byW1 W p v r = addW W p v r (-(bz v (fstW W r))) := by
  unfold byW1
  split
  · rename_i h
    rw [show bz v (fstW W r) = 0 from bz_eq0.2 h, Int.neg_zero, add_0 hp hp2 hv]
  · rfl
theorem byW1_vp (hp : 1 ≤ p) (hp2 : p ≤ 256) {v r : By} (hv : Vp W p v) : Vp W p (byW1 W p v r) := by
  rw [byW1_add hp hp2 hv]; exact Vp.add hp hp2
/-- it is linear -/
theorem byW1_lin (hp : 1 ≤ p) (hp2 : p ≤ 256) {u w r : By} {k : Int} (hu : Vp W p u) (hw : Vp W p w) (hr : fstW W r < W) :
    byW1 W p (addW W p u w k) r = addW W p (byW1 W p u r) (byW1 W p w r) k := by
  rw [byW1_add hp hp2 (Vp.add hp hp2), byW1_add hp hp2 hu, byW1_add hp hp2 hw]
  refine (Vp.add hp hp2).ext (Vp.add hp hp2) fun x hx => ?_
  refine (cg_add' hp hp2 hx).trans ?_
  refine (cg_add (cg_add' hp hp2 hx) (cg_mul (a := -(bz (addW W p u w k) (fstW W r))) (b := -(bz u (fstW W r) + k * bz w (fstW W r))) (c := bz r x) (d := bz r x) ?_ cg.rfl')).trans ?_
  · have := cg_mul (a := -1) (b := -1) (c := bz (addW W p u w k) (fstW W r)) cg.rfl' (cg_add' (v := u) (w := w) (k := k) hp hp2 hr)
    rw [Int.neg_one_mul, Int.neg_one_mul] at this
    exact this
  refine cg.trans ?_ (cg_add' hp hp2 hx).symm
  refine cg.trans ?_ (cg_add (cg_add' hp hp2 hx) (cg_mul cg.rfl' (cg_add' hp hp2 hx))).symm
  exact cg_of_eq (by grind)
theorem byW_lin (hp : 1 ≤ p) (hp2 : p ≤ 256) {k : Int} : ∀ {L : List By} {u w : By}, (∀ r ∈ L, fstW W r < W) → Vp W p u → Vp W p w → byW W p (addW W p u w k) L = addW W p (byW W p u L) (byW W p w L) k
  | [], _, _, _, _, _ => rfl
  | r :: L, u, w, h, hu, hw => by
    show byW W p (byW1 W p (addW W p u w k) r) L = addW W p (byW W p (byW1 W p u r) L) (byW W p (byW1 W p w r) L) k
    rw [byW1_lin hp hp2 hu hw (h r (by simp))]
    exact byW_lin hp hp2 (fun q hq => h q (by simp [hq])) (byW1_vp hp hp2 hu) (byW1_vp hp hp2 hw)
theorem byW_fix : ∀ {L : List By} {v : By}, (∀ r ∈ L, v (fstW W r) = 0) → byW W p v L = v
  | [], _, _ => rfl
  | r :: L, v, h => by
    show byW W p (byW1 W p v r) L = v
    rw [show byW1 W p v r = v from if_pos (h r (by simp))]
    exact byW_fix fun q hq => h q (by simp [hq])
theorem byW_app {L M : List By} {v : By} : byW W p v (L ++ M) = byW W p (byW W p v L) M := List.foldl_append

theorem RR.fs {L : List By} (h : RR W p L) : ∀ r ∈ L, fstW W r < W := fun r hr => (h.ld r hr).1
/-- places of two of a reduced list -/
theorem RR.two {A B : List By} {a b : By} (h : RR W p (A ++ a :: B)) (hb : b ∈ A ++ B) : b (fstW W a) = 0 ∧ a (fstW W b) = 0 ∧ fstW W a ≠ fstW W b := by
  have hp := h.st
  rw [List.pairwise_append] at hp
  obtain ⟨-, h2, h3⟩ := hp
  rw [List.pairwise_cons] at h2
  rcases List.mem_append.1 hb with hb | hb
  · obtain ⟨q1, q2⟩ := h3 b hb a (by simp)
    exact ⟨q2, fstW_lt q1, by omega⟩
  · obtain ⟨q1, q2⟩ := h2.1 b hb
    exact ⟨fstW_lt q1, q2, by omega⟩
theorem one_bz {f : By} {x : Nat} (h : f x = 1) : bz f x = 1 := by unfold bz; rw [h]; rfl
/-- a vector of the list is taken away whole -/
theorem RR.kill (hp : 1 ≤ p) (hp2 : p ≤ 256) {L : List By} (h : RR W p L) {w : By} (hw : w ∈ L) : byW W p w L = z0 := by
  obtain ⟨A, B, rfl⟩ := List.append_of_mem hw
  rw [byW_app, byW_fix fun r hr => (h.two (List.mem_append_left _ hr)).2.1]
  show byW W p (byW1 W p w w) B = z0
  have hv := h.vp w hw
  have e : byW1 W p w w = z0 := by
    rw [byW1_add hp hp2 hv, one_bz (h.ld w hw).2]
    refine (Vp.add hp hp2).ext (Vp.z hp) fun x hx => (cg_add' hp hp2 hx).trans (cg_of_eq (by rw [bz_z0]; omega))
  rw [e]
  exact byW_fix fun r _ => rfl
theorem RR.zero (hp : 1 ≤ p) (hp2 : p ≤ 256) {L : List By} (h : RR W p L) {v : By} (hv : Sp' W p L v) : byW W p v L = z0 := by
  induction hv with
  | z => exact byW_fix fun r _ => rfl
  | a h1 h2 ih =>
    rw [byW_lin hp hp2 h.fs (h1.vp hp hp2) (h.vp _ h2), ih, h.kill hp hp2 h2]
    exact add_z hp hp2 (Vp.z hp)
end
end Hf
namespace Hf
open Go Classical
section
variable {W : Nat} {p : Int}
theorem RR.nz {B : List By} (h : RR W p B) {b : By} (hb : b ∈ B) : b ≠ z0 := by
  intro e
  have h1 := (h.ld b hb).2
  have h2 : b (fstW W b) = 0 := by conv => lhs; rw [e]
                                   rfl
  rw [h1] at h2; cases h2
theorem RR.sorted {A : List By} (h : RR W p A) : A.Pairwise (fun a b => fstW W a < fstW W b) := h.st.imp fun h => h.1
/-- what is left of v begins at none of the list's first places -/
theorem RR.left0 (hp : 1 ≤ p) (hp2 : p ≤ 256) : ∀ {A L : List By}, RR W p (A ++ L) → ∀ {v : By}, Vp W p v → (∀ r ∈ A, v (fstW W r) = 0) → ∀ r ∈ A ++ L, byW W p v L (fstW W r) = 0
  | A, [], h, v, hv, h0, r, hr => by simp at hr; exact h0 r hr
  | A, s :: L, h, v, hv, h0, r, hr => by
    have h' : RR W p ((A ++ [s]) ++ L) := by simpa using h
    refine RR.left0 hp hp2 (A := A ++ [s]) (L := L) h' (v := byW1 W p v s) (byW1_vp hp hp2 hv) ?_ r (by simpa using hr)
    intro q hq
    apply bz_eq0.1
    rcases List.mem_append.1 hq with hq | hq
    · rw [byW1_add hp hp2 hv, bz_add hp hp2 (h.ld q (List.mem_append_left _ hq)).1, bz_eq0.2 (h0 q hq)]
      have := (h.two (a := s) (A := A) (B := L) (List.mem_append_left _ hq)).2.1
      rw [bz_eq0.2 this]
      simp
    · obtain rfl := List.mem_singleton.1 hq
      have hl := h.ld q (by simp)
      rw [byW1_add hp hp2 hv, bz_add hp hp2 hl.1, one_bz hl.2, Int.mul_one, Int.add_right_neg]
      exact Int.zero_emod p
theorem RR.left (hp : 1 ≤ p) (hp2 : p ≤ 256) {L : List By} (h : RR W p L) {v : By} (hv : Vp W p v) : ∀ r ∈ L, byW W p v L (fstW W r) = 0 :=
  RR.left0 hp hp2 (A := []) h hv (by simp)
end
end Hf
namespace Hf
open Go Classical
section
variable {p : Int}
theorem RR.nil {W : Nat} : RR W p [] := ⟨by simp, by simp, List.Pairwise.nil⟩
theorem RR.len {W : Nat} {L : List By} (h : RR W p L) : L.length ≤ W := by
  have key : ∀ (L : List By) (k : Nat), L.Pairwise (fun a b => fstW W a < fstW W b) → (∀ r ∈ L, k ≤ fstW W r ∧ fstW W r < W) → L.length + k ≤ W ∨ L = [] := by
    intro L
    induction L with
    | nil => intro k _ _; exact .inr rfl
    | cons a L ih =>
      intro k hs hb
      rw [List.pairwise_cons] at hs
      have ha := hb a (by simp)
      rcases ih (fstW W a + 1) hs.2 fun r hr => ⟨hs.1 r hr, (hb r (by simp [hr])).2⟩ with h | h
      · simp only [List.length_cons]; omega
      · subst h; simp only [List.length_cons, List.length_nil]; omega
  rcases key L 0 h.sorted (fun r hr => ⟨Nat.zero_le _, h.fs r hr⟩) with h | h
  · omega
  · subst h; simp
end
end Hf
namespace Hf
open Go Classical
variable {P : Program} {ρ : Nat → FuncId}
theorem rdR_lenA {H : List Blk} {a : At} {L : List At} (h : rdR H a L) : lenA a = some L.length := by
  cases a <;> simp only [rdR] at h
  · obtain ⟨r, l, -, h1, rfl⟩ := h; simp [lenA]; omega
  · subst h; rfl
theorem rdR_at {H : List Blk} {a : At} {L : List At} (h : rdR H a L) (i : Nat) (hi : i < L.length) :
    ∃ k off len cap q, a = .sl k off len cap ∧ i < len ∧ off + i * 1 = q ∧ ∃ r l, H[k]? = some ⟨r, .rw l⟩ ∧ l[q]? = some (L.getD i .sn) := by
  cases a <;> simp only [rdR] at h
  · rename_i k off len cap
    obtain ⟨r, l, hk, h1, rfl⟩ := h
    have hl : ((l.drop off).take len).length = len := by simp; omega
    rw [hl] at hi
    refine ⟨k, off, len, cap, off + i * 1, rfl, hi, rfl, r, l, hk, ?_⟩
    rw [List.getD_eq_getElem?_getD, List.getElem?_take_of_lt hi, List.getElem?_drop, Nat.mul_one]
    have : off + i < l.length := by omega
    simp [this]
  · subst h; simp at hi
theorem rdR_ext {H H' : List Blk} {a : At} {L : List At} (h : rdR H a L) (e : Ext H H') : rdR H' a L := by
  cases a <;> simp only [rdR] at h ⊢
  · obtain ⟨r, l, hk, h1, h2⟩ := h; exact ⟨r, l, e _ _ hk, h1, h2⟩
  · exact h
/-- numbers in a slice -/
def VI (H : List Blk) (a : At) (L : List Int) : Prop := rdR H a (L.map (At.i .i64))
theorem VI.ext {H H' : List Blk} {a : At} {L : List Int} (h : VI H a L) (e : Ext H H') : VI H' a L := rdR_ext h e
theorem VI.len {H : List Blk} {a : At} {L : List Int} (h : VI H a L) : lenA a = some L.length := by
  have := rdR_lenA h; rwa [List.length_map] at this
theorem VI.at {H : List Blk} {a : At} {L : List Int} (h : VI H a L) (i : Nat) (hi : i < L.length) :
    ∃ k off len cap q, a = .sl k off len cap ∧ i < len ∧ off + i * 1 = q ∧ ∃ r l, H[k]? = some ⟨r, .rw l⟩ ∧ l[q]? = some (.i .i64 (L.getD i 0)) := by
  obtain ⟨k, off, len, cap, q, h1, h2, h3, r, l, h4, h5⟩ := rdR_at h i (by rw [List.length_map]; exact hi)
  refine ⟨k, off, len, cap, q, h1, h2, h3, r, l, h4, ?_⟩
  rw [h5, List.getD_eq_getElem?_getD, List.getElem?_map, List.getD_eq_getElem?_getD, List.getElem?_eq_getElem hi]
  rfl

/-! ### rows -/
def blkOf : At → Nat
  | .sl k _ _ _ => k
  | _ => 0
/-- a row of w bytes, v -/
def RowB (H : List Blk) (w : Nat) (a : At) (v : By) : Prop := ∃ k cap N f, a = .sl k 0 w cap ∧ H[k]? = some ⟨false, .by [] N f⟩ ∧ (w ≤ N ∧ w ≤ cap) ∧ ∀ x, x < w → f x = v x
theorem RowB.lt {H : List Blk} {w : Nat} {a : At} {v : By} (h : RowB H w a v) : a.lt H.length = true := by
  obtain ⟨k, cap, N, f, rfl, h2, h3, h4⟩ := h
  have := lt_of h2
  simp [At.lt, this]
/-- all blocks but some are there still -/
def Fr (l : List Nat) (H H' : List Blk) : Prop := ∀ (k : Nat) (B : Blk), k ∉ l → H[k]? = some B → H'[k]? = some B
theorem Fr.trans {l : List Nat} {H H1 H2 : List Blk} (h : Fr l H H1) (h' : Fr l H1 H2) : Fr l H H2 := fun k B hk e => h' k B hk (h k B hk e)
theorem Fr.mono {l l' : List Nat} {H H' : List Blk} (h : Fr l H H') (hs : ∀ k ∈ l, k ∈ l') : Fr l' H H' := fun k B hk e => h k B (fun q => hk (hs k q)) e
theorem Ext.fr {l : List Nat} {H H' : List Blk} (h : Ext H H') : Fr l H H' := fun k B _ e => h k B e
theorem RowB.fr {l : List Nat} {H H' : List Blk} {w : Nat} {a : At} {v : By} (h : RowB H w a v) (e : Fr l H H') (hn : blkOf a ∉ l) : RowB H' w a v := by
  obtain ⟨k, cap, N, f, rfl, h2, h3, h4⟩ := h
  exact ⟨k, cap, N, f, rfl, e _ _ hn h2, h3, h4⟩
/-- the slice of the rows -/
def Spn (H : List Blk) (ra : At) (As : List At) : Prop := (ra = .sn ∧ As = []) ∨ ∃ k cap l, ra = .sl k 0 As.length cap ∧ H[k]? = some ⟨false, .rw l⟩ ∧ (cap ≤ l.length ∧ As.length ≤ cap) ∧ l.take As.length = As
def spB : At → List Nat
  | .sl k _ _ _ => [k]
  | _ => []
theorem Spn.rd {H : List Blk} {ra : At} {As : List At} (h : Spn H ra As) : rdR H ra As := by
  rcases h with ⟨rfl, rfl⟩ | ⟨k, cap, l, rfl, hk, ⟨h1, h2⟩, h3⟩
  · exact rfl
  · exact ⟨false, l, hk, by omega, h3⟩
theorem Spn.fr {l : List Nat} {H H' : List Blk} {ra : At} {As : List At} (h : Spn H ra As) (e : Fr l H H') (hn : ∀ k ∈ spB ra, k ∉ l) : Spn H' ra As := by
  rcases h with ⟨rfl, rfl⟩ | ⟨k, cap, l', rfl, hk, h1, h3⟩
  · exact .inl ⟨rfl, rfl⟩
  · exact .inr ⟨k, cap, l', rfl, e _ _ (hn k (by simp [spB])) hk, h1, h3⟩
theorem Spn.lt {H : List Blk} {ra : At} {As : List At} (h : Spn H ra As) : ra.lt H.length = true ∧ ∀ k ∈ spB ra, k < H.length := by
  rcases h with ⟨rfl, rfl⟩ | ⟨k, cap, l', rfl, hk, h1, h3⟩
  · exact ⟨rfl, by simp [spB]⟩
  · have := lt_of hk
    exact ⟨by simp [At.lt, this], by simp [spB, this]⟩
theorem Spn.len {H : List Blk} {ra : At} {As : List At} (h : Spn H ra As) : lenA ra = some As.length := rdR_lenA h.rd
/-- rows one by one -/
def Rows (H : List Blk) (w : Nat) (As : List At) (R : List By) : Prop := As.length = R.length ∧ ∀ i, i < As.length → RowB H w (As.getD i .sn) (R.getD i z0)
theorem RowB.at {H : List Blk} {w : Nat} {a : At} {v : By} (h : RowB H w a v) (x : Nat) (hx : x < w) :
    ∃ k off len cap q, a = .sl k off len cap ∧ x < len ∧ off + x * 1 = q ∧ ∃ r B, H[k]? = some ⟨r, B⟩ ∧ cat B q = some (.u (v x)) := by
  obtain ⟨k, cap, N, f, rfl, h2, h3, h4⟩ := h
  refine ⟨k, 0, w, cap, x, rfl, hx, by omega, false, _, h2, ?_⟩
  rw [cat_u (by omega), h4 x hx]
theorem RowB.len {H : List Blk} {w : Nat} {a : At} {v : By} (h : RowB H w a v) : lenA a = some w := by
  obtain ⟨k, cap, N, f, rfl, -⟩ := h; rfl
theorem RowB.congr {H : List Blk} {w : Nat} {a : At} {v v' : By} (h : RowB H w a v) (e : ∀ x, x < w → v x = v' x) : RowB H w a v' := by
  obtain ⟨k, cap, N, f, h1, h2, h3, h4⟩ := h
  exact ⟨k, cap, N, f, h1, h2, h3, fun x hx => (h4 x hx).trans (e x hx)⟩
def bput : Bk → Nat → UInt8 → Bk
  | .by hd N f, x, b => .by hd N (upd f x b)
  | c, _, _ => c
/-- an entry of a row is written -/
theorem RowB.st {H : List Blk} {w : Nat} {a : At} {v : By} (h : RowB H w a v) (x : Nat) (hx : x < w) :
    ∃ k off len cap q c, a = .sl k off len cap ∧ x < len ∧ off + x * 1 = q ∧ H[k]? = some ⟨false, c⟩ ∧ ∀ b, cput c q (.u b) = some (bput c q b) ∧ RowB (H.set k ⟨false, bput c q b⟩) w a (upd v x b) ∧ Fr [blkOf a] H (H.set k ⟨false, bput c q b⟩) := by
  obtain ⟨k, cap, N, f, rfl, h2, h3, h4⟩ := h
  refine ⟨k, 0, w, cap, x, _, rfl, hx, by omega, h2, fun b => ⟨cput_u (by simp) (by omega), ⟨k, cap, N, upd f x b, rfl, set_same h2, h3, ?_⟩, ?_⟩⟩
  · intro y hy
    unfold upd
    split
    · rfl
    · exact h4 y hy
  · intro j B hj e
    exact set_other e (by intro q; subst q; exact hj (by simp [blkOf]))
theorem Rows.at {H : List Blk} {w : Nat} {As : List At} {R : List By} (h : Rows H w As R) (i : Nat) (hi : i < R.length) : RowB H w (As.getD i .sn) (R.getD i z0) := h.2 i (by rw [h.1]; exact hi)
theorem map_getD {As : List At} {i : Nat} (hi : i < As.length) : blkOf (As.getD i .sn) ∈ As.map blkOf := by
  rw [List.getD_eq_getElem?_getD, List.getElem?_eq_getElem hi]
  exact List.mem_map_of_mem (by simp)
/-- a system of m unknowns: rows R of m + 1 bytes each, places T -/
def OwnT (s : Nat) (ra : At) (As : List At) (pa : At) : List Nat := s :: (spB pa ++ (spB ra ++ As.map blkOf))
def sysB (p n0 : Int) (m : Nat) (ra pa : At) : Blk := ⟨false, .rw [.i .i64 p, .i .i64 n0, .i .i64 (m : Int), ra, pa]⟩
def SY (m0 : Nat) (H : List Blk) (s : Nat) (p n0 : Int) (m : Nat) (R : List By) (T : List Int) : Prop := ∃ ra As pa, H[s]? = some (sysB p n0 m ra pa) ∧ Spn H ra As ∧ Rows H (m + 1) As R ∧ Spn H pa (T.map (At.i .i64)) ∧ (OwnT s ra As pa).Nodup ∧ ∀ k ∈ OwnT s ra As pa, m0 ≤ k
end Hf
namespace Hf
open Go Classical
section
variable {α : Type} {z : α} {L : List α} {i j : Nat}
end
theorem Rows.fr {l : List Nat} {H H' : List Blk} {w : Nat} {As : List At} {R : List By} (h : Rows H w As R) (e : Fr l H H') (hn : ∀ k ∈ As.map blkOf, k ∉ l) : Rows H' w As R :=
  ⟨h.1, fun i hi => (h.2 i hi).fr e (hn _ (map_getD hi))⟩
def rput : Bk → Nat → At → Bk
  | .rw l, x, a => .rw (l.set x a)
  | c, _, _ => c
/-- a place of the slice of rows is written -/
theorem Spn.st {H : List Blk} {ra : At} {As : List At} (h : Spn H ra As) (i : Nat) (hi : i < As.length) :
    ∃ k off len cap q c, ra = .sl k off len cap ∧ i < len ∧ off + i * 1 = q ∧ H[k]? = some ⟨false, c⟩ ∧ ∀ a, a.cell1 = true → cput c q a = some (rput c q a) ∧ Spn (H.set k ⟨false, rput c q a⟩) ra (As.set i a) ∧ Fr (spB ra) H (H.set k ⟨false, rput c q a⟩) := by
  rcases h with ⟨rfl, rfl⟩ | ⟨k, cap, l, rfl, hk, ⟨h1, h2⟩, h3⟩
  · simp at hi
  · refine ⟨k, 0, _, cap, i, _, rfl, hi, by omega, hk, fun a ha => ⟨if_pos ⟨by omega, ha⟩, .inr ⟨k, cap, l.set i a, by simp, set_same hk, ⟨by simpa using h1, by simpa using h2⟩, ?_⟩, ?_⟩⟩
    · rw [List.length_set, List.take_set, h3]
    · intro j B hj e
      exact set_other e (by intro q; subst q; exact hj (by simp [spB]))
/-- in the midst of solving: kb has the pointer to the system -/
structure SolI (m0 kb s : Nat) (p n0 : Int) (m : Nat) (R : List By) (T : List Int) (G : List Blk) (ra : At) (As : List At) (pa : At) : Prop where
  fkb : G[kb]? = some ⟨false, .vr (.pt s 0)⟩
  fs : G[s]? = some (sysB p n0 m ra pa)
  fra : Spn G ra As
  frows : Rows G (m + 1) As R
  fpa : Spn G pa (T.map (At.i .i64))
  nd : (kb :: OwnT s ra As pa).Nodup
  ge : ∀ k ∈ kb :: OwnT s ra As pa, m0 ≤ k
theorem Rows.blt {H : List Blk} {w : Nat} {As : List At} {R : List By} (h : Rows H w As R) : ∀ k ∈ As.map blkOf, k < H.length := by
  intro k hk
  obtain ⟨a, ha, rfl⟩ := List.mem_map.1 hk
  obtain ⟨i, hi, rfl⟩ := List.mem_iff_getElem.1 ha
  have := h.2 i hi
  rw [List.getD_eq_getElem?_getD, List.getElem?_eq_getElem hi] at this
  obtain ⟨k, cap, N, f, e, h2, -⟩ := this
  simp only [Option.getD_some] at e
  rw [e]; exact lt_of h2
section
variable {m0 kb s : Nat} {p n0 : Int} {m : Nat} {R : List By} {T : List Int} {G G' : List Blk} {ra : At} {As : List At} {pa : At}
theorem SolI.lt (h : SolI m0 kb s p n0 m R T G ra As pa) : ∀ k ∈ kb :: OwnT s ra As pa, k < G.length := by
  intro k hk
  simp only [OwnT, List.mem_cons, List.mem_append] at hk
  rcases hk with rfl | rfl | hk | hk | hk
  · exact lt_of h.fkb
  · exact lt_of h.fs
  · exact h.fpa.lt.2 k hk
  · exact h.fra.lt.2 k hk
  · exact h.frows.blt k hk
theorem SolI.fr (h : SolI m0 kb s p n0 m R T G ra As pa) {l : List Nat} (e : Fr l G G') (hn : ∀ k ∈ kb :: OwnT s ra As pa, k ∉ l) : SolI m0 kb s p n0 m R T G' ra As pa :=
  ⟨e _ _ (hn _ (by simp)) h.fkb, e _ _ (hn _ (by simp [OwnT])) h.fs, h.fra.fr e fun k hk => hn k (by simp [OwnT, hk]), h.frows.fr e fun k hk => hn k (by simp only [OwnT, List.mem_cons, List.mem_append]; simp [hk]), h.fpa.fr e fun k hk => hn k (by simp [OwnT, hk]), h.nd, h.ge⟩
theorem SolI.ext (h : SolI m0 kb s p n0 m R T G ra As pa) (e : Ext G G') : SolI m0 kb s p n0 m R T G' ra As pa := h.fr (l := []) (e.fr) (by simp)
end
theorem Spn.sl {H : List Blk} {ra : At} {As : List At} (h : Spn H ra As) (hn : 0 < As.length) : ∃ k cap l, ra = .sl k 0 As.length cap ∧ H[k]? = some ⟨false, .rw l⟩ ∧ (cap ≤ l.length ∧ As.length ≤ cap) ∧ l.take As.length = As := by
  rcases h with ⟨rfl, rfl⟩ | h
  · simp at hn
  · exact h
end Hf
namespace Hf
open Go Classical
section
variable {W W' m : Nat} {p : Int}
theorem Vp.mono (hW : W ≤ W') {v : By} (h : Vp W p v) : Vp W' p v := ⟨h.1, fun x hx => h.2 x (by omega)⟩
theorem addW_w (hW : W ≤ W') {u w : By} {k : Int} (hu : Vp W p u) (hw : Vp W p w) : addW W' p u w k = addW W p u w k :=
  (vec_more hW fun y hy _ => by rw [bz_eq0.2 (hu.2 y hy), bz_eq0.2 (hw.2 y hy)]; simp).symm
theorem Sp'.w1 (hp : 1 ≤ p) (hp2 : p ≤ 256) (hW : W ≤ W') {L : List By} (hL : ∀ v ∈ L, Vp W p v) {v : By} (h : Sp' W' p L v) : Sp' W p L v := by
  induction h with
  | z => exact .z
  | a h1 h2 ih => rw [addW_w hW (ih.vp hp hp2) (hL _ h2)]; exact .a ih h2
theorem Sp'.w2 (hp : 1 ≤ p) (hp2 : p ≤ 256) (hW : W ≤ W') {L : List By} (hL : ∀ v ∈ L, Vp W p v) {v : By} (h : Sp' W p L v) : Sp' W' p L v := by
  induction h with
  | z => exact .z
  | a h1 h2 ih => rw [← addW_w hW (h1.vp hp hp2) (hL _ h2)]; exact .a ih h2
theorem fstW_w (hW : W ≤ W') {v : By} (hv : ∀ x, W ≤ x → v x = 0) (h : v ≠ z0) : fstW W' v = fstW W v := by
  have h1 := fst_nz hv h
  exact fstW_eq (by omega) (fstW_ne h1) fun y hy => fstW_lt hy
theorem RR.w (hp : 1 ≤ p) (hW : W ≤ W') {L : List By} (hL : ∀ v ∈ L, Vp W p v) (h : RR W' p L) : RR W p L := by
  have hf : ∀ v ∈ L, fstW W' v = fstW W v := fun v hv => fstW_w hW (hL v hv).2 (h.nz hv)
  refine ⟨hL, fun r hr => ?_, ?_⟩
  · have := h.ld r hr
    rw [hf r hr] at this
    exact ⟨fst_nz (hL r hr).2 (h.nz hr), this.2⟩
  · refine List.Pairwise.imp_of_mem ?_ h.st
    intro a b ha hb hab
    rw [hf a ha, hf b hb] at hab
    exact hab
end
/-! ### a new row -/
/-- a row that may be written on behind: its block is none of the first m -/
def RowC (m : Nat) (H : List Blk) (n : Nat) (a : At) (v : By) : Prop := ∃ k cap N f, a = .sl k 0 n cap ∧ H[k]? = some ⟨false, .by [] N f⟩ ∧ (cap ≤ N ∧ n ≤ cap ∧ m ≤ k) ∧ ∀ x, x < n → f x = v x
theorem RowC.row {m : Nat} {H : List Blk} {n : Nat} {a : At} {v : By} (h : RowC m H n a v) : RowB H n a v := by
  obtain ⟨k, cap, N, f, h1, h2, h3, h4⟩ := h
  exact ⟨k, cap, N, f, h1, h2, by omega, h4⟩
theorem RowC.ge {m : Nat} {H : List Blk} {n : Nat} {a : At} {v : By} (h : RowC m H n a v) : m ≤ blkOf a := by
  obtain ⟨k, cap, N, f, rfl, h2, h3, h4⟩ := h
  exact h3.2.2
theorem RowC.mono {m m' : Nat} {H : List Blk} {n : Nat} {a : At} {v : By} (h : RowC m H n a v) (hm : m' ≤ m) : RowC m' H n a v := by
  obtain ⟨k, cap, N, f, h1, h2, h3, h4⟩ := h
  exact ⟨k, cap, N, f, h1, h2, by omega, h4⟩
theorem RowC.ext {m : Nat} {H H' : List Blk} {n : Nat} {a : At} {v : By} (h : RowC m H n a v) (e : Ext H H') : RowC m H' n a v := by
  obtain ⟨k, cap, N, f, h1, h2, h3, h4⟩ := h
  exact ⟨k, cap, N, f, h1, e _ _ h2, h3, h4⟩
theorem SY.len {m0 : Nat} {H : List Blk} {s m : Nat} {p n0 : Int} {R : List By} {T : List Int} (h : SY m0 H s p n0 m R T) : s < H.length := by
  obtain ⟨ra, As, pa, h, -⟩ := h; exact lt_of h
end Hf
namespace Hf
open Go Classical
variable {P : Program} {ρ : Nat → FuncId}
/-- a call that reads one block -/
theorem CallOK.at1 {f k : Nat} {as args : List At} {H : List Blk} {v : Sv} {r : Bool} {hd : List Int} {N : Nat} {g : By} (hk : H[k]? = some ⟨r, .by hd N g⟩) (h : CallOK P ρ f as [⟨true, .by hd N g⟩] v [⟨true, .by hd N g⟩]) (ha : args = as.map (mva (tau [k] H.length))) (hv : mvs (tau [k] H.length) v = v) :
    CallR P ρ f args H fun u G => u = v ∧ G = H :=
  (h.emb [k] ha ⟨⟨r, hk, fun h => by cases h⟩, trivial⟩ rfl hv (by simp [back])).r
/-- and one that reads two -/
theorem CallOK.at2 {f k k' : Nat} {as args : List At} {H : List Blk} {v : Sv} {r r' : Bool} {hd hd' : List Int} {N N' : Nat} {g g' : By} (hk : H[k]? = some ⟨r, .by hd N g⟩) (hk' : H[k']? = some ⟨r', .by hd' N' g'⟩)
    (h : CallOK P ρ f as [⟨true, .by hd N g⟩, ⟨true, .by hd' N' g'⟩] v [⟨true, .by hd N g⟩, ⟨true, .by hd' N' g'⟩]) (ha : args = as.map (mva (tau [k, k'] H.length))) (hv : mvs (tau [k, k'] H.length) v = v) :
    CallR P ρ f args H fun u G => u = v ∧ G = H :=
  (h.emb [k, k'] ha ⟨⟨r, hk, fun h => by cases h⟩, ⟨r', hk', fun h => by cases h⟩, trivial⟩ (by simp [apart]) hv (by simp [back])).r

/-! ### the rows of a matrix -/
def rw8 (g : By) (i : Nat) : By := fun x => if x < 8 then g (i * 8 + x) else 0
def rows8 (g : By) : List By := (List.range 8).map (rw8 g)
theorem rows8_at {g : By} {i : Nat} (h : i < 8) : (rows8 g).getD i z0 = rw8 g i := by simp [rows8, List.getD_eq_getElem?_getD, h]
theorem VS.ag {H : List Blk} {k : Nat} {r : Bool} {g : By} (h : H[k]? = some ⟨r, .by [] 64 g⟩) : VS H (.sl k 0 8 8) (rows8 g) := by
  refine .inr ⟨k, 0, 8, r, 64, g, by simp [rows8], h, by simp [rows8], fun i x hi hx => ?_⟩
  have hi : i < 8 := by simpa [rows8] using hi
  rw [rows8_at hi, rw8, if_pos hx, Nat.zero_add]
theorem VW.one {H : List Blk} {m : Nat} {v : By} (hm : m ≤ H.length) : VW m (H ++ [⟨false, .by [] (1 * 8) (spl (fun _ => 0) (0 * 8) 8 v)⟩]) (.sl H.length 0 1 1) [v] := by
  refine ⟨H.length, 0, 1, _, _, rfl, get_new, ⟨by omega, by simp, hm⟩, fun i x h hx => ?_⟩
  obtain rfl : i = 0 := by simpa using h
  simp [spl, hx]
/-- a slice that may be nil -/
def VM (m : Nat) (H : List Blk) (a : At) (L : List By) : Prop := (a = .sn ∧ L = []) ∨ VW m H a L
theorem VM.nil {m : Nat} {H : List Blk} : VM m H .sn [] := .inl ⟨rfl, rfl⟩
theorem VM.mono {m m' : Nat} {H : List Blk} {a : At} {L : List By} (h : VM m H a L) (hm : m' ≤ m) : VM m' H a L := h.imp id fun h => h.mono hm
theorem VM.ext {m : Nat} {H H' : List Blk} {a : At} {L : List By} (h : VM m H a L) (e : Ext H H') : VM m H' a L := h.imp id fun h => h.ext e
theorem brB_f' {b : Bool} {K : Bool → Prop} (hb : b = false) (h : K false) : brB b K := by subst hb; exact brB_f h
theorem VW.congr {m : Nat} {H : List Blk} {a : At} {L L' : List By} (h : VW m H a L) (hl : L'.length = L.length) (e : ∀ i x, i < L.length → x < 8 → (L.getD i z0) x = (L'.getD i z0) x) : VW m H a L' := by
  obtain ⟨k, off, cap, N, f, rfl, h2, h3, h4⟩ := h
  exact ⟨k, off, cap, N, f, by rw [hl], h2, by rw [hl]; exact h3, fun i x hi hx => by rw [hl] at hi; rw [h4 i x hi hx]; exact e i x hi hx⟩
/-- an entry is written -/
theorem VW.st {m : Nat} {H : List Blk} {a : At} {L : List By} (h : VW m H a L) (i : Nat) (hi : i < L.length) :
    ∃ k off len cap q c, a = .sl k off len cap ∧ i < len ∧ off + i * 8 = q ∧ H[k]? = some ⟨false, c⟩ ∧ ∀ x b, x < 8 → cput c (q + x) (.u b) = some (bput c (q + x) b) ∧
      (∀ L', L'.length = L.length → (∀ j y, j < L.length → y < 8 → (L'.getD j z0) y = if j = i ∧ y = x then b else (L.getD j z0) y) → VW m (H.set k ⟨false, bput c (q + x) b⟩) a L') ∧ Upto m H (H.set k ⟨false, bput c (q + x) b⟩) := by
  obtain ⟨k, off, cap, N, f, rfl, h2, h3, h4⟩ := h
  refine ⟨k, off, L.length, cap, off + i * 8, _, rfl, hi, rfl, h2, fun x b hx => ⟨cput_u (by simp) (by omega), fun L' hl he => ⟨k, off, cap, N, upd f (off + i * 8 + x) b, by rw [hl], set_same h2, by rw [hl]; exact h3, fun j y hj hy => ?_⟩, fun j B hj e => set_other e (by omega)⟩⟩
  rw [hl] at hj
  rw [he j y hj hy]
  unfold upd
  by_cases e : j = i ∧ y = x
  · rw [if_pos e, if_pos (by omega)]
  · rw [if_neg e, if_neg (by omega)]
    exact h4 j y hj hy
end Hf
namespace Hf
open Go Classical
variable {P : Program} {ρ : Nat → FuncId}
theorem x_IndexFunc_V2_ok (B : Bs P ρ) (E : F_x_IndexFunc_V2 P ρ) {g : Nat} {caps : List (Nat × Nat)} {H : List Blk} {a : At} {L : List By} {q : Nat → Bool} {z : Int} (hz : firstQ q L.length 0 = z) (hA : VS H a L) (hcaps : (At.fn g [] caps).lt H.length = true) (hlen : L.length ≤ 1000000) (hq : ∀ i, i < L.length → CallR P ρ g ([.ag [] 8 (L.getD i z0)] ++ caps.map (fun p => .pt p.1 p.2)) H fun u G => u = .one (.b (q i)) ∧ G = H) :
    CallR P ρ 91 [a, .fn g [] caps] H (fun u G => u = .one (.i .i64 z) ∧ G = H) := by
  refine call_of_q B.fn B.mo E rfl (fun hAr hHp => ?_) (by simp only [List.all_cons, List.all_nil, hA.lt, hcaps]; rfl)
  refine ⟨_, (hA).len, ?_⟩
  refine ⟨Unit, (fun a0 a1 a7 (i0 : Nat) (x0 : Unit) => [(0, a0), (1, a1), (7, a7), (8, .one (.i .i64 ((i0 : Nat) : Int)))]) _ _ _ , fun (i0 : Nat) (x0 : Unit) (G0 : List Blk) => (G0 = H ∧ ∀ j, j < i0 → q j = false), L.length, ⟨(), ⟨rfl, fun j h => by omega⟩, ⟨rfl, rfl, rfl, rfl, trivial⟩⟩, ?_⟩
  rintro i0 _ G0 hi0 ⟨rfl, hF0⟩
  refine ⟨fun h9 => ?_, fun h9 => ?_⟩
  · replace h9 := of_decide_eq_true h9
    obtain ⟨k14, o14, n14, c14, q14, ea14, hl14, hq14, r14, N14, f14, hk14, hN14, hf14⟩ := (hA).at i0 (by omega)
    refine ⟨k14, o14, n14, c14, i0, q14, ea14, rfl, hl14, hq14, ?_⟩
    refine ⟨_, _, _, _, _, hk14, ⟨by simp, hN14⟩, hf14, ?_⟩
    refine ⟨_, hq i0 (by omega), ?_⟩
    rintro _ _ ⟨rfl, rfl⟩
    refine ⟨fun h16 => ?_, fun h16 => ?_⟩
    · skip
      have e : z = (i0 : Int) := hz.symm.trans <| firstQ_some (by omega) (by omega) h16 fun j _ h => hF0 j h
      exact ⟨rfl, by rw [e]; rfl, rfl⟩
    · skip
      refine ⟨((i0 + 1 : Nat) : Int), w64_id _ (by omega) (by omega), ?_⟩
      refine ⟨by omega, (), ?_, ⟨rfl, rfl, rfl, rfl, trivial⟩⟩
      refine ⟨rfl, fun j hj => ?_⟩
      by_cases e : j = i0
      · subst e; exact h16
      · exact hF0 j (by omega)
  · replace h9 := of_decide_eq_false h9
    have e0 : L.length = i0 := by omega
    subst e0
    have e : z = -1 := hz.symm.trans <| firstQ_none fun j _ h => hF0 j (by omega)
    exact ⟨rfl, by rw [e]; rfl, rfl⟩

theorem x_ContainsFunc_V2_ok (B : Bs P ρ) (E : F_x_ContainsFunc_V2 P ρ) {g : Nat} {caps : List (Nat × Nat)} {H : List Blk} {a : At} {L : List By} {q : Nat → Bool} (hA : VS H a L) (hcaps : (At.fn g [] caps).lt H.length = true) (hlen : L.length ≤ 1000000) (hq : ∀ i, i < L.length → CallR P ρ g ([.ag [] 8 (L.getD i z0)] ++ caps.map (fun p => .pt p.1 p.2)) H fun u G => u = .one (.b (q i)) ∧ G = H) :
    CallR P ρ 70 [a, .fn g [] caps] H (fun u G => u = .one (.b (decide (∃ i, i < L.length ∧ q i = true))) ∧ G = H) := by
  refine call_of_q B.fn B.mo E.1 rfl (fun hAr hHp => ?_) (by simp only [List.all_cons, List.all_nil, hA.lt, hcaps]; rfl)
  refine ⟨_, x_IndexFunc_V2_ok B E.2 rfl hA hcaps hlen hq, ?_⟩
  rintro _ _ ⟨rfl, rfl⟩
  refine ⟨rfl, ?_, rfl⟩
  have e : decide (∃ i, i < L.length ∧ q i = true) = decide (firstQ q L.length 0 ≥ 0) := by
    refine decide_eq_decide.2 ?_
    show _ ↔ 0 ≤ _
    rw [firstQ_nn]
    exact ⟨fun ⟨i, h1, h2⟩ => ⟨i, by omega, by omega, h2⟩, fun ⟨i, _, h1, h2⟩ => ⟨i, by omega, h2⟩⟩
  rw [e]; rfl

theorem VS.shape {H : List Blk} {a : At} {L : List By} (h : VS H a L) : a = .sn ∨ ∃ k o n c, a = .sl k o n c := by
  rcases h with ⟨h, -⟩ | ⟨k, off, cap, r, N, f, h, -⟩
  · exact .inl h
  · exact .inr ⟨_, _, _, _, h⟩
end Hf
namespace Hf
open Go Classical
section
variable {W W' n : Nat} {p : Int}
theorem RR.up (hW : W ≤ W') {L : List By} (h : RR W p L) : RR W' p L := by
  have hf : ∀ v ∈ L, fstW W' v = fstW W v := fun v hv => fstW_w hW (h.vp v hv).2 (h.nz hv)
  refine ⟨fun v hv => (h.vp v hv).mono hW, fun r hr => ?_, ?_⟩
  · have := h.ld r hr
    rw [hf r hr]
    exact ⟨by omega, this.2⟩
  · refine List.Pairwise.imp_of_mem ?_ h.st
    intro a b ha hb hab
    rw [hf a ha, hf b hb]
    exact hab
theorem SpE.up (hp : 1 ≤ p) (hp2 : p ≤ 256) (hW : W ≤ W') {A B : List By} (hA : ∀ v ∈ A, Vp W p v) (hB : ∀ v ∈ B, Vp W p v) (h : SpE W p A B) : SpE W' p A B :=
  fun v => ⟨fun q => ((h v).1 (q.w1 hp hp2 hW hA)).w2 hp hp2 hW hB, fun q => ((h v).2 (q.w1 hp hp2 hW hB)).w2 hp hp2 hW hA⟩
end
theorem SY.ext {m0 : Nat} {H G : List Blk} {s m : Nat} {p n0 : Int} {R : List By} {T : List Int} (h : SY m0 H s p n0 m R T) (e : Ext H G) : SY m0 G s p n0 m R T := by
  obtain ⟨ra, As, pa, hs, hra, hR, hpa, hnd, hge⟩ := h
  exact ⟨ra, As, pa, e _ _ hs, hra.fr (l := []) e.fr (by simp), hR.fr (l := []) e.fr (by simp), hpa.fr (l := []) e.fr (by simp), hnd, hge⟩
end Hf
namespace Hf
open Go Classical
variable {P : Program} {ρ : Nat → FuncId}
/-- a slice whose block is none of the first m, or that is full -/
def VF (m : Nat) (H : List Blk) (a : At) (L : List By) : Prop :=
  ∃ k off cap N f, a = .sl k off L.length cap ∧ H[k]? = some ⟨false, .by [] N f⟩ ∧ (off + cap * 8 ≤ N ∧ L.length ≤ cap ∧ (m ≤ k ∨ L.length = cap)) ∧ ∀ i x, i < L.length → x < 8 → f (off + i * 8 + x) = (L.getD i z0) x
theorem VF.ext {m : Nat} {H H' : List Blk} {a : At} {L : List By} (h : VF m H a L) (e : Ext H H') : VF m H' a L := by
  obtain ⟨k, off, cap, N, f, h1, h2, h3, h4⟩ := h
  exact ⟨k, off, cap, N, f, h1, e k _ h2, h3, h4⟩
theorem VF.nil {m : Nat} {H : List Blk} {f : By} : VF m (H ++ [⟨false, .by [] (0 * 8) f⟩]) (.sl H.length 0 0 0) [] :=
  ⟨H.length, 0, 0, _, f, rfl, get_new, ⟨by omega, by simp, .inr rfl⟩, fun i x h => by simp at h⟩
end Hf
namespace Hf
open Go Classical
variable {P : Program} {ρ : Nat → FuncId}
def QV (p n : Int) (f v : By) : Prop := Hop p n f ∧ Vec p n v 0
theorem oc_0 {q : Prop} (h : oc q 1 = 0) : q := by
  apply Classical.byContradiction
  intro hq
  rw [oc_f hq] at h
  cases h
theorem QV_iff {p n : Int} {f v : By} : (Hop p n f ∧ ∀ i, i < 1 → Vec p n (spl (fun _ => 0) (0 * 8) 8 v) (i * 8)) ↔ QV p n f v := by
  have e : ∀ k : Nat, k < 8 → bz (spl (fun _ => 0) (0 * 8) 8 v) (0 * 8 + k) = bz v (0 + k) := fun k hk => by simp [bz, spl, hk]
  refine and_congr Iff.rfl ⟨fun h k hk => ?_, fun h i hi => ?_⟩
  · have := h 0 (by omega) k hk
    rwa [e k hk] at this
  · obtain rfl : i = 0 := by omega
    intro k hk
    have := h k hk
    rwa [← e k hk] at this
end Hf
namespace Hf
open Go Classical
variable {P : Program} {ρ : Nat → FuncId}
theorem i_modulesCode1_at (B : Bs P ρ) (E : E_i_modulesCode P ρ) {H : List Blk} {k1 k2 k3 : Nat} {r1 r2 r3 : Bool} {p n d : Int} {f g : By} (h1 : H[k1]? = some ⟨r1, .by [p, n] 1106 f⟩) (h2 : H[k2]? = some ⟨r2, .rw [.pt k3 0]⟩) (h3 : H[k3]? = some ⟨r3, .by [d] 513 g⟩) :
    CallR P ρ 164 [.pt k1 0, .sl k2 0 1 1] H fun u G => u = .one (.i .i64 (oc (Hop p n f ∧ Mod p n.toNat d g f) 1)) ∧ G = H :=
  ((i_modulesCode1_ok B E (p := p) (n := n) (d := d) (f := f) (g := g)).emb (H := H) (H' := H) (args := [.pt k1 0, .sl k2 0 1 1]) [k1, k2, k3] rfl ⟨⟨_, h1, fun h => by cases h⟩, ⟨_, h2, fun h => by cases h⟩, ⟨_, h3, fun h => by cases h⟩, trivial⟩ (by simp [apart]) rfl (by simp [back])).r
theorem s_l06Code1_at (B : Bs P ρ) (E : E_s_l06Code P ρ) {H : List Blk} {k1 : Nat} {r1 : Bool} {p n d : Int} {f g : By} (h1 : H[k1]? = some ⟨r1, .gs 513 [([d], g)]⟩) :
    CallR P ρ 162 [.ag [p, n] 1106 f, .sl k1 0 1 1] H fun u G => u = .one (.i .i64 (oc (Hop p n f ∧ Mod p n.toNat d g f) 1)) ∧ G = H :=
  ((s_l06Code1_ok B E (p := p) (n := n) (d := d) (f := f) (g := g)).emb (H := H) (H' := H) (args := [.ag [p, n] 1106 f, .sl k1 0 1 1]) [k1] rfl ⟨⟨_, h1, fun h => by cases h⟩, trivial⟩ (by simp [apart]) rfl (by simp [back])).r
def IQ (p n d : Int) (g f : By) : Prop := Hop p n f ∧ Mod p n.toNat d g f
end Hf
namespace Hf
open Go Classical
variable {P : Program} {ρ : Nat → FuncId}
theorem all_getD {L : List By} {q : By → Prop} : (∀ v ∈ L, q v) ↔ ∀ i, i < L.length → q (L.getD i z0) :=
  ⟨fun h i hi => h _ (getD_mem hi), fun h v hv => by
    obtain ⟨i, hi, rfl⟩ := List.mem_iff_getElem.1 hv
    have := h i hi
    rwa [List.getD_eq_getElem?_getD, List.getElem?_eq_getElem hi] at this⟩
theorem i_Module_vectorsCode_1_ok (B : Bs P ρ) (E : F_i_Module_vectorsCode_1 P ρ) {H : List Blk} {k1 k2 km kh : Nat} {r1 r2 rm rh : Bool} {p n d : Int} {f g v : By} (h1 : H[k1]? = some ⟨r1, .vr (.pt kh 0)⟩) (h2 : H[k2]? = some ⟨r2, .vr (.pt km 0)⟩) (hm : H[km]? = some ⟨rm, .by [d] 513 g⟩) (hh : H[kh]? = some ⟨rh, .by [p, n] 1106 f⟩) :
    CallR P ρ 174 [.ag [] 8 v, .pt k1 0, .pt k2 0] H (fun u G => u = .one (.b (!decide (Shp p d ∧ Vec p d v 0))) ∧ G = H) := by
  refine CallR.pure (call_of_q B.fn B.mo E.1 rfl (fun hA hH => ?_) (by simp [At.lt, lt_of h1, lt_of h2])) rfl
  refine ⟨_, rfl, ?_⟩
  refine ⟨_, _, app_old h1, rfl, ?_⟩
  refine ⟨_, _, app_old hh, rfl, ?_⟩
  refine ⟨_, _, app_old h2, rfl, ?_⟩
  refine ⟨_, _, app_old hm, rfl, ?_⟩
  refine ⟨_, _, _, _, v, get_new, ⟨by simp, by omega⟩, fun x _ => congrArg _ (Nat.zero_add x).symm, ?_⟩
  refine ⟨_, i_IsVector_ok B E.2 , rfl, ?_⟩
  exact ⟨rfl, rfl, Ext.app⟩

theorem i_Module_vectorsCode_ok (B : Bs P ρ) (E : F_i_Module_vectorsCode P ρ) {H : List Blk} {km kh : Nat} {rm rh : Bool} {p n d : Int} {f g : By} {a : At} {L : List By} (hm : H[km]? = some ⟨rm, .by [d] 513 g⟩) (hh : H[kh]? = some ⟨rh, .by [p, n] 1106 f⟩) (hL : VS H a L) (hlen : L.length ≤ 1000000) :
    CallR P ρ 175 [.pt km 0, .pt kh 0, a] H (fun u G => u = .one (.i .i64 (oc (∀ v ∈ L, Shp p d ∧ Vec p d v 0) 1)) ∧ G = H) := by
  refine CallR.pure (call_of_q B.fn B.mo E.1 rfl (fun hA hH => ?_) (by simp only [List.all_cons, List.all_nil, hL.lt]; simp [At.lt, lt_of hm, lt_of hh])) rfl
  refine ⟨_, rfl, ?_⟩
  refine ⟨_, rfl, ?_⟩
  refine ⟨_, x_ContainsFunc_V2_ok B E.2.2.1 (q := fun i => !decide (Shp p d ∧ Vec p d (L.getD i z0) 0)) (hL.ext (Ext.app.trans Ext.app)) (by simp [At.lt]) hlen (fun i hi => i_Module_vectorsCode_1_ok B E.2.1 get_new (app_old get_new) (app_old (app_old hm)) (app_old (app_old hh))), ?_⟩
  rintro _ _ ⟨rfl, rfl⟩
  refine ⟨_, i_unless_ok B E.2.2.2 , rfl, ?_⟩
  refine ⟨rfl, ?_, Ext.app.trans Ext.app⟩
  have e : (if (!decide (∃ i, i < L.length ∧ (!decide (Shp p d ∧ Vec p d (L.getD i z0) 0)) = true)) = true then (0 : Int) else 1) = oc (∀ v ∈ L, Shp p d ∧ Vec p d v 0) 1 := by
    by_cases h : ∀ v ∈ L, Shp p d ∧ Vec p d v 0
    · rw [oc_t h, if_pos]
      simp only [Bool.not_eq_true', decide_eq_false_iff_not]
      rintro ⟨i, hi, hq⟩
      exact hq (h _ (getD_mem hi))
    · rw [oc_f h, if_neg]
      simp only [Bool.not_eq_true', decide_eq_false_iff_not, Classical.not_not]
      apply Classical.byContradiction
      intro hn
      exact h (all_getD.2 fun i hi => Classical.byContradiction fun q => hn ⟨i, hi, q⟩)
  rw [← e]; rfl

/-- a module and vectors of it -/
def SQ (p n d : Int) (g f : By) (L : List By) : Prop := IQ p n d g f ∧ ∀ v ∈ L, Vec p d v 0
theorem SQ.vp {p n : Int} {d : Nat} {g f : By} {L : List By} (h : SQ p n d g f L) (hz : ∀ v ∈ L, ∀ x, 8 ≤ x → v x = 0) : ∀ v ∈ L, Vp d p v := by
  intro v hv
  have hp2 := h.1.1.1.1.1.1
  have hd : d ≤ 8 := by have := h.1.2.1.1.2.2; omega
  refine ⟨fun x => ?_, fun x hx => ?_⟩
  · rcases Nat.lt_or_ge x 8 with h8 | h8
    · have := (h.2 v hv x h8).1; rwa [Nat.zero_add] at this
    · rw [bz_eq0.2 (hz v hv x h8)]; omega
  · rcases Nat.lt_or_ge x 8 with h8 | h8
    · have := (h.2 v hv x h8).2 (by omega)
      rw [Nat.zero_add] at this
      exact bz_eq0.1 this
    · exact hz v hv x h8
end Hf
namespace Hf
open Go Classical
variable {P : Program} {ρ : Nat → FuncId}
/-- a list that the input brings along: its block may hold other things too -/
def VA (H : List Blk) (a : At) (L : List By) : Prop :=
  (a = .sn ∧ L = []) ∨ ∃ k off cap r cs fz, a = .sl k off L.length cap ∧ H[k]? = some ⟨r, .fo cs fz⟩ ∧ ∀ i x, i < L.length → x < 8 → cs[off + i * 8 + x]? = some (.int .u8 ((((L.getD i z0) x).toNat : Nat) : Int))
theorem VA.ext {H H' : List Blk} {a : At} {L : List By} (h : VA H a L) (e : Ext H H') : VA H' a L := by
  rcases h with h | ⟨k, off, cap, r, cs, fz, h1, h2, h3⟩
  · exact .inl h
  · exact .inr ⟨k, off, cap, r, cs, fz, h1, e k _ h2, h3⟩
theorem VA.lt {H : List Blk} {a : At} {L : List By} (h : VA H a L) : a.lt H.length = true := by
  rcases h with ⟨rfl, -⟩ | ⟨k, off, cap, r, cs, fz, rfl, h2, h3⟩
  · rfl
  · simp [At.lt, lt_of h2]
theorem VA.len {H : List Blk} {a : At} {L : List By} (h : VA H a L) : lenA a = some L.length := by
  rcases h with ⟨rfl, rfl⟩ | ⟨k, off, cap, r, cs, fz, rfl, -⟩ <;> rfl
theorem VA.at {H : List Blk} {a : At} {L : List By} (h : VA H a L) (i : Nat) (hi : i < L.length) :
    ∃ k off len cap q, a = .sl k off len cap ∧ i < len ∧ off + i * 8 = q ∧ ∃ r cs fz, H[k]? = some ⟨r, .fo cs fz⟩ ∧ ∀ y, y < 8 → cs[q + y]? = some (.int .u8 ((((L.getD i z0) y).toNat : Nat) : Int)) := by
  rcases h with ⟨rfl, rfl⟩ | ⟨k, off, cap, r, cs, fz, rfl, h2, h3⟩
  · simp at hi
  · exact ⟨k, off, L.length, cap, off + i * 8, rfl, hi, rfl, r, cs, fz, h2, fun y hy => h3 i y hi hy⟩
/-- room behind a list of n -/
def room (n : Nat) : Nat := if n % 6 = 5 then 0 else if n % 3 = 0 then 1 else n
def v201 : By := fun x => if x = 0 then 201 else 0
/-- a list and what stands behind it -/
def extL (L : List By) : List By := L ++ List.replicate (room L.length) v201
/-- an argument as the laws lay it: from the m-th block on, and room behind it -/
def VT (m : Nat) (H : List Blk) (a : At) (L : List By) : Prop :=
  ∃ k f, a = .sl k 0 L.length (L.length + room L.length) ∧ H[k]? = some ⟨false, .by [] ((L.length + room L.length) * 8) f⟩ ∧ m ≤ k ∧ ∀ i x, i < L.length + room L.length → x < 8 → f (i * 8 + x) = ((extL L).getD i z0) x
theorem VT.ext {m : Nat} {H H' : List Blk} {a : At} {L : List By} (h : VT m H a L) (e : Ext H H') : VT m H' a L := by
  obtain ⟨k, f, rfl, h2, h3, h4⟩ := h
  exact ⟨k, f, rfl, e _ _ h2, h3, h4⟩
end Hf
namespace Hf
open Go Classical
variable {P : Program} {ρ : Nat → FuncId}
/-- a module, an element and a vector -/
def AQ (p n d : Int) (f g a v : By) : Prop := IQ p n d g f ∧ Vec p n a 0 ∧ Vec p d v 0
theorem VS.at1 {H : List Blk} {k N : Nat} {r : Bool} {g v : By} (h : H[k]? = some ⟨r, .by [] N g⟩) (hN : 8 ≤ N) (hg : ∀ x, x < 8 → g x = v x) : VS H (.sl k 0 1 1) [v] := by
  refine .inr ⟨k, 0, 1, r, N, g, rfl, h, ⟨by omega, by simp⟩, fun i x hi hx => ?_⟩
  obtain rfl : i = 0 := by simpa using hi
  rw [show 0 + 0 * 8 + x = x by omega, hg x hx]; rfl
theorem first3_at {P : Program} {ρ : Nat → FuncId} (B : Bs P ρ) (E : E_i_first P ρ) {H : List Blk} {k : Nat} {r : Bool} {a b c : Int} (h : H[k]? = some ⟨r, .rw [.i .i64 a, .i .i64 b, .i .i64 c]⟩) : CallR P ρ 139 [.sl k 0 3 3] H fun u G => u = .one (.i .i64 (fz [a, b, c])) ∧ G = H :=
  ((i_first3_ok B E (a := a) (b := b) (c := c)).emb (H := H) (H' := H) (args := [.sl k 0 3 3]) [k] rfl ⟨⟨_, h, fun h => by cases h⟩, trivial⟩ (by simp [apart]) rfl (by simp [back])).r
theorem aq_fz {p n d : Int} {f g a v : By} : fz [oc (Hop p n f ∧ Mod p n.toNat d g f) 1, oc (Hop p n f ∧ ∀ i, i < 1 → Vec p n (spl (fun _ => 0) (0 * 8) 8 a) (i * 8)) 1, oc (∀ w ∈ [v], Shp p d ∧ Vec p d w 0) 1] = oc (AQ p n d f g a v) 1 := by
  rw [propext (QV_iff (p := p) (n := n) (f := f) (v := a))]
  by_cases h1 : Hop p n f ∧ Mod p n.toNat d g f
  · rw [oc_t h1]
    simp only [fz]
    by_cases h2 : Vec p n a 0
    · rw [oc_t (show QV p n f a from ⟨h1.1, h2⟩)]
      by_cases h3 : Vec p d v 0
      · rw [oc_t (show AQ p n d f g a v from ⟨h1, h2, h3⟩), oc_t (by simp; exact ⟨⟨h1.1.1.1.1, h1.2.1.1.2⟩, h3⟩)]; rfl
      · rw [oc_f (fun q : AQ p n d f g a v => h3 q.2.2), oc_f (by simp; exact fun _ => h3)]; rfl
    · rw [oc_f (fun q : AQ p n d f g a v => h2 q.2.1), oc_f (fun q : QV p n f a => h2 q.2)]; rfl
  · rw [oc_f h1, oc_f fun q : AQ p n d f g a v => h1 q.1]; rfl
theorem act_eq {p : Int} {n d : Nat} {g a v : By} (hp : 1 ≤ p) (hp2 : p ≤ 256) (hn : n ≤ 8) (hd : d ≤ 8) (ha : ∀ i, n ≤ i → i < 8 → bz a i = 0) :
    (vec 8 p fun y => sm d fun k => bz v k * bz (vec 64 p (actN 8 d g a)) (k * 8 + y)) = vec 8 p (acV n d g a v) := by
  refine vec_congr fun y hy => ?_
  refine cg.trans (cg_sm (y := fun k => bz v k * sm 8 fun i => bz a i * bz g (1 + i * 64 + (k * 8 + y))) fun k hk => ?_) (cg_of_eq ?_)
  · refine cg_mul cg.rfl' ((cg_vec hp hp2 (by omega)).trans (cg_of_eq ?_))
    unfold actN
    rw [if_pos (by omega)]
  · unfold acV
    rw [sm_congr fun k _ => (sm_mul (c := bz v k)).symm, sm_swap, sm_ext hn fun i h1 h2 => sm_zero fun k hk => by rw [ha i h1 h2, Int.zero_mul, Int.mul_zero]]
    refine sm_congr fun i hi => ?_
    rw [← sm_mul]
    exact sm_congr fun k hk => by rw [← Int.mul_assoc, Int.mul_comm (bz v k), Int.mul_assoc]
theorem act_eq' {p : Int} {n d : Nat} {g a v : By} (hp : 1 ≤ p) (hp2 : p ≤ 256) (hn : n ≤ 8) (hd : d ≤ 8) (ha : ∀ i, n ≤ i → i < 8 → bz a i = 0) :
    (vec 8 p fun y => sm d fun k => bz v k * bz (spl (fun _ => 0) 0 64 (vec 64 p (actN 8 d g a))) (0 + k * 8 + y)) = vec 8 p (acV n d g a v) := by
  rw [← act_eq hp hp2 hn hd ha]
  refine vec_congr fun y hy => cg_of_eq (sm_congr fun k hk => ?_)
  have : bz (spl (fun _ => 0) 0 64 (vec 64 p (actN 8 d g a))) (0 + k * 8 + y) = bz (vec 64 p (actN 8 d g a)) (k * 8 + y) := by
    unfold bz spl
    rw [if_pos (by omega), show 0 + k * 8 + y - 0 = k * 8 + y by omega]
  rw [this]
set_option maxHeartbeats 4000000 in
theorem i_ActOn_ok (B : Bs P ρ) (E : F_i_ActOn P ρ) {p n d : Int} {f g a v : By} :
    CallOK P ρ 169 [.ag [p, n] 1106 f, .ag [d] 513 g, .ag [] 8 a, .ag [] 8 v] [] (.tup [.ag [] 8 (if AQ p n d f g a v then vec 8 p (acV n.toNat d.toNat g a v) else z0), .i .i64 (oc (AQ p n d f g a v) 1)]) [] := by
  refine (CallR.pure (call_of_q B.fn B.mo E.1 rfl (fun _ _ => ?_) rfl) rfl).ok
  refine ⟨_, rfl, ?_⟩
  refine ⟨_, rfl, ?_⟩
  refine ⟨_, rfl, ?_⟩
  refine ⟨_, rfl, ?_⟩
  refine ⟨_, rfl, ?_⟩
  refine ⟨_, _, _, _, a, rfl, ⟨by simp, by omega⟩, fun x _ => congrArg _ (Nat.zero_add x).symm, ?_⟩
  refine ⟨_, _, _, _, v, rfl, ⟨by simp, by omega⟩, fun x _ => congrArg _ (Nat.zero_add x).symm, ?_⟩
  refine ⟨?_, ?_, ?_, trivial⟩
  · skip
    refine ⟨_, rfl, ?_⟩
    refine ⟨⟨rfl, rfl, trivial⟩, ?_⟩
    refine ⟨?_, ?_, ?_, trivial⟩
    · skip
      refine ⟨_, i_modulesCode1_at B E.2.1 (p := p) (n := n) (d := d) (f := f) (g := g) rfl rfl rfl, ?_⟩
      rintro _ _ ⟨rfl, rfl⟩
      refine ⟨⟨rfl, rfl, trivial⟩, ?_⟩
      refine ⟨?_, ?_, trivial⟩
      · skip
        refine ⟨_, rfl, ?_⟩
        refine ⟨⟨rfl, rfl, trivial⟩, ?_⟩
        refine ⟨?_, ?_, trivial⟩
        · skip
          refine ⟨_, CallOK.at2 rfl rfl (i_Hopf_code_ok B E.2.2.1 (p := p) (n := n) (f := f) (len := 1) (cap := 1) (l := spl (fun _ => 0) (0 * 8) 8 a) (N := 1 * 8) (Nat.le_refl _) (by omega)) rfl rfl, ?_⟩
          rintro _ _ ⟨rfl, rfl⟩
          refine ⟨⟨rfl, rfl, trivial⟩, ?_⟩
          refine ⟨?_, trivial⟩
          refine ⟨_, rfl, ?_⟩
          refine ⟨⟨rfl, rfl, trivial⟩, ?_⟩
          refine ⟨?_, trivial⟩
          refine ⟨_, i_Module_vectorsCode_ok B E.2.2.2.1 (p := p) (n := n) (d := d) (f := f) (g := g) (L := [v]) rfl rfl (VS.at1 rfl (by simp) fun x hx => by simp [spl, hx]) (by simp), ?_⟩
          rintro _ _ ⟨rfl, rfl⟩
          refine ⟨?_, trivial⟩
          refine ⟨_, rfl, ?_⟩
          refine ⟨?_, trivial⟩
          refine ⟨_, first3_at B E.2.2.2.2.1 rfl, ?_⟩
          rintro _ _ ⟨rfl, rfl⟩
          rw [aq_fz]
          refine ⟨?_, trivial⟩
          refine ⟨fun h23 => ?_, fun h23 => ?_⟩
          · replace h23 := bne_t h23
            have hq : ¬ AQ p n d f g a v := fun q => h23 (oc_t q)
            refine ⟨_, _, _, rfl, cputs_by (by simp) (by omega), eqBk_rfl, ?_⟩
            first
              | exact ⟨rfl, _, _, _, _, z0, rfl, ⟨by simp, by omega⟩, fun x hx => by simp [spl, hx, z0], by rw [if_neg hq, oc_f hq]; rfl, Ext.nil⟩
              | exact ⟨rfl, _, _, _, _, vec 8 p (acV n d g a v), rfl, ⟨by simp, by omega⟩, fun x hx => by simp [spl, hx], by rw [if_pos hq, oc_t hq, Int.toNat_natCast, Int.toNat_natCast]; rfl, Ext.nil⟩
          · replace h23 := bne_f h23
            have hq : AQ p n d f g a v := oc_0 h23
            obtain ⟨n, rfl⟩ : ∃ m : Nat, n = (m : Int) := ⟨n.toNat, by have := hq.1.1.1.1.2.1; omega⟩
            obtain ⟨d, rfl⟩ : ∃ m : Nat, d = (m : Int) := ⟨d.toNat, by have := hq.1.2.1.1.2.1; omega⟩
            have hp2 := hq.1.1.1.1.1.1
            have hp3 := hq.1.1.1.1.1.2.1
            have hn8 : n ≤ 8 := by have := hq.1.1.1.1.2.2; omega
            have hd8 : d ≤ 8 := by have := hq.1.2.1.1.2.2; omega
            have ha : ∀ i, n ≤ i → i < 8 → bz a i = 0 := fun i h1 h2 => by have := (hq.2.1 i h2).2 (by omega); rwa [Nat.zero_add] at this
            have hv : ∀ i, d ≤ i → i < 8 → bz v i = 0 := fun i h1 h2 => by have := (hq.2.2 i h2).2 (by omega); rwa [Nat.zero_add] at this
            refine ⟨_, _, _, _, a, rfl, ⟨by simp, by omega⟩, fun x _ => congrArg _ (Nat.zero_add x).symm, ?_⟩
            refine ⟨_, CallOK.at2 rfl rfl (i_Module_acts_ok B E.2.2.2.2.2.1 (p := p) (n := (n : Int)) (d := d) (f := f) (g := g) (a := a) (by omega) (by omega) hd8) rfl rfl, ?_⟩
            rintro _ _ ⟨rfl, rfl⟩
            refine ⟨_, rfl, ?_⟩
            refine ⟨_, _, _, rfl, cputs_by (by simp) (by omega), eqBk_rfl, ?_⟩
            refine ⟨_, _, _, _, v, rfl, ⟨by simp, by omega⟩, fun x _ => congrArg _ (Nat.zero_add x).symm, ?_⟩
            refine ⟨_, CallOK.at2 rfl rfl (i_Module_field_ok B E.2.2.2.2.2.2.1 (p := p) (n := (n : Int)) (d := (d : Int)) (f := f) (g := g)) rfl rfl, ?_⟩
            rintro _ _ ⟨rfl, rfl⟩
            refine ⟨⟨rfl, trivial⟩, ?_⟩
            refine ⟨_, CallOK.at1 rfl (i_field_apply_ok B E.2.2.2.2.2.2.2 (m := d) (p := p) (n := (d : Int)) (v := v) (f := spl (fun _ => 0) 0 64 (vec 64 p (actN 8 d g a))) (hd := []) (N := 64) (off := 0) (by omega) (by omega) (by simp) (by omega) hd8 hv) rfl rfl, ?_⟩
            rintro _ _ ⟨rfl, rfl⟩
            rw [act_eq' (n := n) (by omega) (by omega) hn8 hd8 ha]
            refine ⟨_, _, _, rfl, cputs_by (by simp) (by omega), eqBk_rfl, ?_⟩
            first
              | exact ⟨rfl, _, _, _, _, z0, rfl, ⟨by simp, by omega⟩, fun x hx => by simp [spl, hx, z0], by rw [if_neg hq, oc_f hq]; rfl, Ext.nil⟩
              | exact ⟨rfl, _, _, _, _, vec 8 p (acV n d g a v), rfl, ⟨by simp, by omega⟩, fun x hx => by simp [spl, hx], by rw [if_pos hq, oc_t hq, Int.toNat_natCast, Int.toNat_natCast]; rfl, Ext.nil⟩
        · skip
          refine ⟨_, rfl, ?_⟩
          refine ⟨⟨rfl, rfl, trivial⟩, ?_⟩
          refine ⟨?_, trivial⟩
          refine ⟨_, CallOK.at2 rfl rfl (i_Hopf_code_ok B E.2.2.1 (p := p) (n := n) (f := f) (len := 1) (cap := 1) (l := spl (fun _ => 0) (0 * 8) 8 a) (N := 1 * 8) (Nat.le_refl _) (by omega)) rfl rfl, ?_⟩
          rintro _ _ ⟨rfl, rfl⟩
          refine ⟨⟨rfl, rfl, trivial⟩, ?_⟩
          refine ⟨?_, trivial⟩
          refine ⟨_, i_Module_vectorsCode_ok B E.2.2.2.1 (p := p) (n := n) (d := d) (f := f) (g := g) (L := [v]) rfl rfl (VS.at1 rfl (by simp) fun x hx => by simp [spl, hx]) (by simp), ?_⟩
          rintro _ _ ⟨rfl, rfl⟩
          refine ⟨?_, trivial⟩
          refine ⟨_, rfl, ?_⟩
          refine ⟨?_, trivial⟩
          refine ⟨_, first3_at B E.2.2.2.2.1 rfl, ?_⟩
          rintro _ _ ⟨rfl, rfl⟩
          rw [aq_fz]
          refine ⟨?_, trivial⟩
          refine ⟨fun h23 => ?_, fun h23 => ?_⟩
          · replace h23 := bne_t h23
            have hq : ¬ AQ p n d f g a v := fun q => h23 (oc_t q)
            refine ⟨_, _, _, rfl, cputs_by (by simp) (by omega), eqBk_rfl, ?_⟩
            first
              | exact ⟨rfl, _, _, _, _, z0, rfl, ⟨by simp, by omega⟩, fun x hx => by simp [spl, hx, z0], by rw [if_neg hq, oc_f hq]; rfl, Ext.nil⟩
              | exact ⟨rfl, _, _, _, _, vec 8 p (acV n d g a v), rfl, ⟨by simp, by omega⟩, fun x hx => by simp [spl, hx], by rw [if_pos hq, oc_t hq, Int.toNat_natCast, Int.toNat_natCast]; rfl, Ext.nil⟩
          · replace h23 := bne_f h23
            have hq : AQ p n d f g a v := oc_0 h23
            obtain ⟨n, rfl⟩ : ∃ m : Nat, n = (m : Int) := ⟨n.toNat, by have := hq.1.1.1.1.2.1; omega⟩
            obtain ⟨d, rfl⟩ : ∃ m : Nat, d = (m : Int) := ⟨d.toNat, by have := hq.1.2.1.1.2.1; omega⟩
            have hp2 := hq.1.1.1.1.1.1
            have hp3 := hq.1.1.1.1.1.2.1
            have hn8 : n ≤ 8 := by have := hq.1.1.1.1.2.2; omega
            have hd8 : d ≤ 8 := by have := hq.1.2.1.1.2.2; omega
            have ha : ∀ i, n ≤ i → i < 8 → bz a i = 0 := fun i h1 h2 => by have := (hq.2.1 i h2).2 (by omega); rwa [Nat.zero_add] at this
            have hv : ∀ i, d ≤ i → i < 8 → bz v i = 0 := fun i h1 h2 => by have := (hq.2.2 i h2).2 (by omega); rwa [Nat.zero_add] at this
            refine ⟨_, _, _, _, a, rfl, ⟨by simp, by omega⟩, fun x _ => congrArg _ (Nat.zero_add x).symm, ?_⟩
            refine ⟨_, CallOK.at2 rfl rfl (i_Module_acts_ok B E.2.2.2.2.2.1 (p := p) (n := (n : Int)) (d := d) (f := f) (g := g) (a := a) (by omega) (by omega) hd8) rfl rfl, ?_⟩
            rintro _ _ ⟨rfl, rfl⟩
            refine ⟨_, rfl, ?_⟩
            refine ⟨_, _, _, rfl, cputs_by (by simp) (by omega), eqBk_rfl, ?_⟩
            refine ⟨_, _, _, _, v, rfl, ⟨by simp, by omega⟩, fun x _ => congrArg _ (Nat.zero_add x).symm, ?_⟩
            refine ⟨_, CallOK.at2 rfl rfl (i_Module_field_ok B E.2.2.2.2.2.2.1 (p := p) (n := (n : Int)) (d := (d : Int)) (f := f) (g := g)) rfl rfl, ?_⟩
            rintro _ _ ⟨rfl, rfl⟩
            refine ⟨⟨rfl, trivial⟩, ?_⟩
            refine ⟨_, CallOK.at1 rfl (i_field_apply_ok B E.2.2.2.2.2.2.2 (m := d) (p := p) (n := (d : Int)) (v := v) (f := spl (fun _ => 0) 0 64 (vec 64 p (actN 8 d g a))) (hd := []) (N := 64) (off := 0) (by omega) (by omega) (by simp) (by omega) hd8 hv) rfl rfl, ?_⟩
            rintro _ _ ⟨rfl, rfl⟩
            rw [act_eq' (n := n) (by omega) (by omega) hn8 hd8 ha]
            refine ⟨_, _, _, rfl, cputs_by (by simp) (by omega), eqBk_rfl, ?_⟩
            first
              | exact ⟨rfl, _, _, _, _, z0, rfl, ⟨by simp, by omega⟩, fun x hx => by simp [spl, hx, z0], by rw [if_neg hq, oc_f hq]; rfl, Ext.nil⟩
              | exact ⟨rfl, _, _, _, _, vec 8 p (acV n d g a v), rfl, ⟨by simp, by omega⟩, fun x hx => by simp [spl, hx], by rw [if_pos hq, oc_t hq, Int.toNat_natCast, Int.toNat_natCast]; rfl, Ext.nil⟩
      · skip
        refine ⟨_, rfl, ?_⟩
        refine ⟨⟨rfl, rfl, trivial⟩, ?_⟩
        refine ⟨?_, trivial⟩
        refine ⟨_, rfl, ?_⟩
        refine ⟨⟨rfl, rfl, trivial⟩, ?_⟩
        refine ⟨?_, trivial⟩
        refine ⟨_, CallOK.at2 rfl rfl (i_Hopf_code_ok B E.2.2.1 (p := p) (n := n) (f := f) (len := 1) (cap := 1) (l := spl (fun _ => 0) (0 * 8) 8 a) (N := 1 * 8) (Nat.le_refl _) (by omega)) rfl rfl, ?_⟩
        rintro _ _ ⟨rfl, rfl⟩
        refine ⟨⟨rfl, rfl, trivial⟩, ?_⟩
        refine ⟨?_, trivial⟩
        refine ⟨_, i_Module_vectorsCode_ok B E.2.2.2.1 (p := p) (n := n) (d := d) (f := f) (g := g) (L := [v]) rfl rfl (VS.at1 rfl (by simp) fun x hx => by simp [spl, hx]) (by simp), ?_⟩
        rintro _ _ ⟨rfl, rfl⟩
        refine ⟨?_, trivial⟩
        refine ⟨_, rfl, ?_⟩
        refine ⟨?_, trivial⟩
        refine ⟨_, first3_at B E.2.2.2.2.1 rfl, ?_⟩
        rintro _ _ ⟨rfl, rfl⟩
        rw [aq_fz]
        refine ⟨?_, trivial⟩
        refine ⟨fun h23 => ?_, fun h23 => ?_⟩
        · replace h23 := bne_t h23
          have hq : ¬ AQ p n d f g a v := fun q => h23 (oc_t q)
          refine ⟨_, _, _, rfl, cputs_by (by simp) (by omega), eqBk_rfl, ?_⟩
          first
            | exact ⟨rfl, _, _, _, _, z0, rfl, ⟨by simp, by omega⟩, fun x hx => by simp [spl, hx, z0], by rw [if_neg hq, oc_f hq]; rfl, Ext.nil⟩
            | exact ⟨rfl, _, _, _, _, vec 8 p (acV n d g a v), rfl, ⟨by simp, by omega⟩, fun x hx => by simp [spl, hx], by rw [if_pos hq, oc_t hq, Int.toNat_natCast, Int.toNat_natCast]; rfl, Ext.nil⟩
        · replace h23 := bne_f h23
          have hq : AQ p n d f g a v := oc_0 h23
          obtain ⟨n, rfl⟩ : ∃ m : Nat, n = (m : Int) := ⟨n.toNat, by have := hq.1.1.1.1.2.1; omega⟩
          obtain ⟨d, rfl⟩ : ∃ m : Nat, d = (m : Int) := ⟨d.toNat, by have := hq.1.2.1.1.2.1; omega⟩
          have hp2 := hq.1.1.1.1.1.1
          have hp3 := hq.1.1.1.1.1.2.1
          have hn8 : n ≤ 8 := by have := hq.1.1.1.1.2.2; omega
          have hd8 : d ≤ 8 := by have := hq.1.2.1.1.2.2; omega
          have ha : ∀ i, n ≤ i → i < 8 → bz a i = 0 := fun i h1 h2 => by have := (hq.2.1 i h2).2 (by omega); rwa [Nat.zero_add] at this
          have hv : ∀ i, d ≤ i → i < 8 → bz v i = 0 := fun i h1 h2 => by have := (hq.2.2 i h2).2 (by omega); rwa [Nat.zero_add] at this
          refine ⟨_, _, _, _, a, rfl, ⟨by simp, by omega⟩, fun x _ => congrArg _ (Nat.zero_add x).symm, ?_⟩
          refine ⟨_, CallOK.at2 rfl rfl (i_Module_acts_ok B E.2.2.2.2.2.1 (p := p) (n := (n : Int)) (d := d) (f := f) (g := g) (a := a) (by omega) (by omega) hd8) rfl rfl, ?_⟩
          rintro _ _ ⟨rfl, rfl⟩
          refine ⟨_, rfl, ?_⟩
          refine ⟨_, _, _, rfl, cputs_by (by simp) (by omega), eqBk_rfl, ?_⟩
          refine ⟨_, _, _, _, v, rfl, ⟨by simp, by omega⟩, fun x _ => congrArg _ (Nat.zero_add x).symm, ?_⟩
          refine ⟨_, CallOK.at2 rfl rfl (i_Module_field_ok B E.2.2.2.2.2.2.1 (p := p) (n := (n : Int)) (d := (d : Int)) (f := f) (g := g)) rfl rfl, ?_⟩
          rintro _ _ ⟨rfl, rfl⟩
          refine ⟨⟨rfl, trivial⟩, ?_⟩
          refine ⟨_, CallOK.at1 rfl (i_field_apply_ok B E.2.2.2.2.2.2.2 (m := d) (p := p) (n := (d : Int)) (v := v) (f := spl (fun _ => 0) 0 64 (vec 64 p (actN 8 d g a))) (hd := []) (N := 64) (off := 0) (by omega) (by omega) (by simp) (by omega) hd8 hv) rfl rfl, ?_⟩
          rintro _ _ ⟨rfl, rfl⟩
          rw [act_eq' (n := n) (by omega) (by omega) hn8 hd8 ha]
          refine ⟨_, _, _, rfl, cputs_by (by simp) (by omega), eqBk_rfl, ?_⟩
          first
            | exact ⟨rfl, _, _, _, _, z0, rfl, ⟨by simp, by omega⟩, fun x hx => by simp [spl, hx, z0], by rw [if_neg hq, oc_f hq]; rfl, Ext.nil⟩
            | exact ⟨rfl, _, _, _, _, vec 8 p (acV n d g a v), rfl, ⟨by simp, by omega⟩, fun x hx => by simp [spl, hx], by rw [if_pos hq, oc_t hq, Int.toNat_natCast, Int.toNat_natCast]; rfl, Ext.nil⟩
    · skip
      refine ⟨_, rfl, ?_⟩
      refine ⟨⟨rfl, rfl, trivial⟩, ?_⟩
      refine ⟨?_, ?_, trivial⟩
      · skip
        refine ⟨_, i_modulesCode1_at B E.2.1 (p := p) (n := n) (d := d) (f := f) (g := g) rfl rfl rfl, ?_⟩
        rintro _ _ ⟨rfl, rfl⟩
        refine ⟨⟨rfl, rfl, trivial⟩, ?_⟩
        refine ⟨?_, ?_, trivial⟩
        · skip
          refine ⟨_, CallOK.at2 rfl rfl (i_Hopf_code_ok B E.2.2.1 (p := p) (n := n) (f := f) (len := 1) (cap := 1) (l := spl (fun _ => 0) (0 * 8) 8 a) (N := 1 * 8) (Nat.le_refl _) (by omega)) rfl rfl, ?_⟩
          rintro _ _ ⟨rfl, rfl⟩
          refine ⟨⟨rfl, rfl, trivial⟩, ?_⟩
          refine ⟨?_, trivial⟩
          refine ⟨_, rfl, ?_⟩
          refine ⟨⟨rfl, rfl, trivial⟩, ?_⟩
          refine ⟨?_, trivial⟩
          refine ⟨_, i_Module_vectorsCode_ok B E.2.2.2.1 (p := p) (n := n) (d := d) (f := f) (g := g) (L := [v]) rfl rfl (VS.at1 rfl (by simp) fun x hx => by simp [spl, hx]) (by simp), ?_⟩
          rintro _ _ ⟨rfl, rfl⟩
          refine ⟨?_, trivial⟩
          refine ⟨_, rfl, ?_⟩
          refine ⟨?_, trivial⟩
          refine ⟨_, first3_at B E.2.2.2.2.1 rfl, ?_⟩
          rintro _ _ ⟨rfl, rfl⟩
          rw [aq_fz]
          refine ⟨?_, trivial⟩
          refine ⟨fun h23 => ?_, fun h23 => ?_⟩
          · replace h23 := bne_t h23
            have hq : ¬ AQ p n d f g a v := fun q => h23 (oc_t q)
            refine ⟨_, _, _, rfl, cputs_by (by simp) (by omega), eqBk_rfl, ?_⟩
            first
              | exact ⟨rfl, _, _, _, _, z0, rfl, ⟨by simp, by omega⟩, fun x hx => by simp [spl, hx, z0], by rw [if_neg hq, oc_f hq]; rfl, Ext.nil⟩
              | exact ⟨rfl, _, _, _, _, vec 8 p (acV n d g a v), rfl, ⟨by simp, by omega⟩, fun x hx => by simp [spl, hx], by rw [if_pos hq, oc_t hq, Int.toNat_natCast, Int.toNat_natCast]; rfl, Ext.nil⟩
          · replace h23 := bne_f h23
            have hq : AQ p n d f g a v := oc_0 h23
            obtain ⟨n, rfl⟩ : ∃ m : Nat, n = (m : Int) := ⟨n.toNat, by have := hq.1.1.1.1.2.1; omega⟩
            obtain ⟨d, rfl⟩ : ∃ m : Nat, d = (m : Int) := ⟨d.toNat, by have := hq.1.2.1.1.2.1; omega⟩
            have hp2 := hq.1.1.1.1.1.1
            have hp3 := hq.1.1.1.1.1.2.1
            have hn8 : n ≤ 8 := by have := hq.1.1.1.1.2.2; omega
            have hd8 : d ≤ 8 := by have := hq.1.2.1.1.2.2; omega
            have ha : ∀ i, n ≤ i → i < 8 → bz a i = 0 := fun i h1 h2 => by have := (hq.2.1 i h2).2 (by omega); rwa [Nat.zero_add] at this
            have hv : ∀ i, d ≤ i → i < 8 → bz v i = 0 := fun i h1 h2 => by have := (hq.2.2 i h2).2 (by omega); rwa [Nat.zero_add] at this
            refine ⟨_, _, _, _, a, rfl, ⟨by simp, by omega⟩, fun x _ => congrArg _ (Nat.zero_add x).symm, ?_⟩
            refine ⟨_, CallOK.at2 rfl rfl (i_Module_acts_ok B E.2.2.2.2.2.1 (p := p) (n := (n : Int)) (d := d) (f := f) (g := g) (a := a) (by omega) (by omega) hd8) rfl rfl, ?_⟩
            rintro _ _ ⟨rfl, rfl⟩
            refine ⟨_, rfl, ?_⟩
            refine ⟨_, _, _, rfl, cputs_by (by simp) (by omega), eqBk_rfl, ?_⟩
            refine ⟨_, _, _, _, v, rfl, ⟨by simp, by omega⟩, fun x _ => congrArg _ (Nat.zero_add x).symm, ?_⟩
            refine ⟨_, CallOK.at2 rfl rfl (i_Module_field_ok B E.2.2.2.2.2.2.1 (p := p) (n := (n : Int)) (d := (d : Int)) (f := f) (g := g)) rfl rfl, ?_⟩
            rintro _ _ ⟨rfl, rfl⟩
            refine ⟨⟨rfl, trivial⟩, ?_⟩
            refine ⟨_, CallOK.at1 rfl (i_field_apply_ok B E.2.2.2.2.2.2.2 (m := d) (p := p) (n := (d : Int)) (v := v) (f := spl (fun _ => 0) 0 64 (vec 64 p (actN 8 d g a))) (hd := []) (N := 64) (off := 0) (by omega) (by omega) (by simp) (by omega) hd8 hv) rfl rfl, ?_⟩
            rintro _ _ ⟨rfl, rfl⟩
            rw [act_eq' (n := n) (by omega) (by omega) hn8 hd8 ha]
            refine ⟨_, _, _, rfl, cputs_by (by simp) (by omega), eqBk_rfl, ?_⟩
            first
              | exact ⟨rfl, _, _, _, _, z0, rfl, ⟨by simp, by omega⟩, fun x hx => by simp [spl, hx, z0], by rw [if_neg hq, oc_f hq]; rfl, Ext.nil⟩
              | exact ⟨rfl, _, _, _, _, vec 8 p (acV n d g a v), rfl, ⟨by simp, by omega⟩, fun x hx => by simp [spl, hx], by rw [if_pos hq, oc_t hq, Int.toNat_natCast, Int.toNat_natCast]; rfl, Ext.nil⟩
        · skip
          refine ⟨_, rfl, ?_⟩
          refine ⟨⟨rfl, rfl, trivial⟩, ?_⟩
          refine ⟨?_, trivial⟩
          refine ⟨_, CallOK.at2 rfl rfl (i_Hopf_code_ok B E.2.2.1 (p := p) (n := n) (f := f) (len := 1) (cap := 1) (l := spl (fun _ => 0) (0 * 8) 8 a) (N := 1 * 8) (Nat.le_refl _) (by omega)) rfl rfl, ?_⟩
          rintro _ _ ⟨rfl, rfl⟩
          refine ⟨⟨rfl, rfl, trivial⟩, ?_⟩
          refine ⟨?_, trivial⟩
          refine ⟨_, i_Module_vectorsCode_ok B E.2.2.2.1 (p := p) (n := n) (d := d) (f := f) (g := g) (L := [v]) rfl rfl (VS.at1 rfl (by simp) fun x hx => by simp [spl, hx]) (by simp), ?_⟩
          rintro _ _ ⟨rfl, rfl⟩
          refine ⟨?_, trivial⟩
          refine ⟨_, rfl, ?_⟩
          refine ⟨?_, trivial⟩
          refine ⟨_, first3_at B E.2.2.2.2.1 rfl, ?_⟩
          rintro _ _ ⟨rfl, rfl⟩
          rw [aq_fz]
          refine ⟨?_, trivial⟩
          refine ⟨fun h23 => ?_, fun h23 => ?_⟩
          · replace h23 := bne_t h23
            have hq : ¬ AQ p n d f g a v := fun q => h23 (oc_t q)
            refine ⟨_, _, _, rfl, cputs_by (by simp) (by omega), eqBk_rfl, ?_⟩
            first
              | exact ⟨rfl, _, _, _, _, z0, rfl, ⟨by simp, by omega⟩, fun x hx => by simp [spl, hx, z0], by rw [if_neg hq, oc_f hq]; rfl, Ext.nil⟩
              | exact ⟨rfl, _, _, _, _, vec 8 p (acV n d g a v), rfl, ⟨by simp, by omega⟩, fun x hx => by simp [spl, hx], by rw [if_pos hq, oc_t hq, Int.toNat_natCast, Int.toNat_natCast]; rfl, Ext.nil⟩
          · replace h23 := bne_f h23
            have hq : AQ p n d f g a v := oc_0 h23
            obtain ⟨n, rfl⟩ : ∃ m : Nat, n = (m : Int) := ⟨n.toNat, by have := hq.1.1.1.1.2.1; omega⟩
            obtain ⟨d, rfl⟩ : ∃ m : Nat, d = (m : Int) := ⟨d.toNat, by have := hq.1.2.1.1.2.1; omega⟩
            have hp2 := hq.1.1.1.1.1.1
            have hp3 := hq.1.1.1.1.1.2.1
            have hn8 : n ≤ 8 := by have := hq.1.1.1.1.2.2; omega
            have hd8 : d ≤ 8 := by have := hq.1.2.1.1.2.2; omega
            have ha : ∀ i, n ≤ i → i < 8 → bz a i = 0 := fun i h1 h2 => by have := (hq.2.1 i h2).2 (by omega); rwa [Nat.zero_add] at this
            have hv : ∀ i, d ≤ i → i < 8 → bz v i = 0 := fun i h1 h2 => by have := (hq.2.2 i h2).2 (by omega); rwa [Nat.zero_add] at this
            refine ⟨_, _, _, _, a, rfl, ⟨by simp, by omega⟩, fun x _ => congrArg _ (Nat.zero_add x).symm, ?_⟩
            refine ⟨_, CallOK.at2 rfl rfl (i_Module_acts_ok B E.2.2.2.2.2.1 (p := p) (n := (n : Int)) (d := d) (f := f) (g := g) (a := a) (by omega) (by omega) hd8) rfl rfl, ?_⟩
            rintro _ _ ⟨rfl, rfl⟩
            refine ⟨_, rfl, ?_⟩
            refine ⟨_, _, _, rfl, cputs_by (by simp) (by omega), eqBk_rfl, ?_⟩
            refine ⟨_, _, _, _, v, rfl, ⟨by simp, by omega⟩, fun x _ => congrArg _ (Nat.zero_add x).symm, ?_⟩
            refine ⟨_, CallOK.at2 rfl rfl (i_Module_field_ok B E.2.2.2.2.2.2.1 (p := p) (n := (n : Int)) (d := (d : Int)) (f := f) (g := g)) rfl rfl, ?_⟩
            rintro _ _ ⟨rfl, rfl⟩
            refine ⟨⟨rfl, trivial⟩, ?_⟩
            refine ⟨_, CallOK.at1 rfl (i_field_apply_ok B E.2.2.2.2.2.2.2 (m := d) (p := p) (n := (d : Int)) (v := v) (f := spl (fun _ => 0) 0 64 (vec 64 p (actN 8 d g a))) (hd := []) (N := 64) (off := 0) (by omega) (by omega) (by simp) (by omega) hd8 hv) rfl rfl, ?_⟩
            rintro _ _ ⟨rfl, rfl⟩
            rw [act_eq' (n := n) (by omega) (by omega) hn8 hd8 ha]
            refine ⟨_, _, _, rfl, cputs_by (by simp) (by omega), eqBk_rfl, ?_⟩
            first
              | exact ⟨rfl, _, _, _, _, z0, rfl, ⟨by simp, by omega⟩, fun x hx => by simp [spl, hx, z0], by rw [if_neg hq, oc_f hq]; rfl, Ext.nil⟩
              | exact ⟨rfl, _, _, _, _, vec 8 p (acV n d g a v), rfl, ⟨by simp, by omega⟩, fun x hx => by simp [spl, hx], by rw [if_pos hq, oc_t hq, Int.toNat_natCast, Int.toNat_natCast]; rfl, Ext.nil⟩
      · skip
        refine ⟨_, rfl, ?_⟩
        refine ⟨⟨rfl, rfl, trivial⟩, ?_⟩
        refine ⟨?_, trivial⟩
        refine ⟨_, i_modulesCode1_at B E.2.1 (p := p) (n := n) (d := d) (f := f) (g := g) rfl rfl rfl, ?_⟩
        rintro _ _ ⟨rfl, rfl⟩
        refine ⟨⟨rfl, rfl, trivial⟩, ?_⟩
        refine ⟨?_, trivial⟩
        refine ⟨_, CallOK.at2 rfl rfl (i_Hopf_code_ok B E.2.2.1 (p := p) (n := n) (f := f) (len := 1) (cap := 1) (l := spl (fun _ => 0) (0 * 8) 8 a) (N := 1 * 8) (Nat.le_refl _) (by omega)) rfl rfl, ?_⟩
        rintro _ _ ⟨rfl, rfl⟩
        refine ⟨⟨rfl, rfl, trivial⟩, ?_⟩
        refine ⟨?_, trivial⟩
        refine ⟨_, i_Module_vectorsCode_ok B E.2.2.2.1 (p := p) (n := n) (d := d) (f := f) (g := g) (L := [v]) rfl rfl (VS.at1 rfl (by simp) fun x hx => by simp [spl, hx]) (by simp), ?_⟩
        rintro _ _ ⟨rfl, rfl⟩
        refine ⟨?_, trivial⟩
        refine ⟨_, rfl, ?_⟩
        refine ⟨?_, trivial⟩
        refine ⟨_, first3_at B E.2.2.2.2.1 rfl, ?_⟩
        rintro _ _ ⟨rfl, rfl⟩
        rw [aq_fz]
        refine ⟨?_, trivial⟩
        refine ⟨fun h23 => ?_, fun h23 => ?_⟩
        · replace h23 := bne_t h23
          have hq : ¬ AQ p n d f g a v := fun q => h23 (oc_t q)
          refine ⟨_, _, _, rfl, cputs_by (by simp) (by omega), eqBk_rfl, ?_⟩
          first
            | exact ⟨rfl, _, _, _, _, z0, rfl, ⟨by simp, by omega⟩, fun x hx => by simp [spl, hx, z0], by rw [if_neg hq, oc_f hq]; rfl, Ext.nil⟩
            | exact ⟨rfl, _, _, _, _, vec 8 p (acV n d g a v), rfl, ⟨by simp, by omega⟩, fun x hx => by simp [spl, hx], by rw [if_pos hq, oc_t hq, Int.toNat_natCast, Int.toNat_natCast]; rfl, Ext.nil⟩
        · replace h23 := bne_f h23
          have hq : AQ p n d f g a v := oc_0 h23
          obtain ⟨n, rfl⟩ : ∃ m : Nat, n = (m : Int) := ⟨n.toNat, by have := hq.1.1.1.1.2.1; omega⟩
          obtain ⟨d, rfl⟩ : ∃ m : Nat, d = (m : Int) := ⟨d.toNat, by have := hq.1.2.1.1.2.1; omega⟩
          have hp2 := hq.1.1.1.1.1.1
          have hp3 := hq.1.1.1.1.1.2.1
          have hn8 : n ≤ 8 := by have := hq.1.1.1.1.2.2; omega
          have hd8 : d ≤ 8 := by have := hq.1.2.1.1.2.2; omega
          have ha : ∀ i, n ≤ i → i < 8 → bz a i = 0 := fun i h1 h2 => by have := (hq.2.1 i h2).2 (by omega); rwa [Nat.zero_add] at this
          have hv : ∀ i, d ≤ i → i < 8 → bz v i = 0 := fun i h1 h2 => by have := (hq.2.2 i h2).2 (by omega); rwa [Nat.zero_add] at this
          refine ⟨_, _, _, _, a, rfl, ⟨by simp, by omega⟩, fun x _ => congrArg _ (Nat.zero_add x).symm, ?_⟩
          refine ⟨_, CallOK.at2 rfl rfl (i_Module_acts_ok B E.2.2.2.2.2.1 (p := p) (n := (n : Int)) (d := d) (f := f) (g := g) (a := a) (by omega) (by omega) hd8) rfl rfl, ?_⟩
          rintro _ _ ⟨rfl, rfl⟩
          refine ⟨_, rfl, ?_⟩
          refine ⟨_, _, _, rfl, cputs_by (by simp) (by omega), eqBk_rfl, ?_⟩
          refine ⟨_, _, _, _, v, rfl, ⟨by simp, by omega⟩, fun x _ => congrArg _ (Nat.zero_add x).symm, ?_⟩
          refine ⟨_, CallOK.at2 rfl rfl (i_Module_field_ok B E.2.2.2.2.2.2.1 (p := p) (n := (n : Int)) (d := (d : Int)) (f := f) (g := g)) rfl rfl, ?_⟩
          rintro _ _ ⟨rfl, rfl⟩
          refine ⟨⟨rfl, trivial⟩, ?_⟩
          refine ⟨_, CallOK.at1 rfl (i_field_apply_ok B E.2.2.2.2.2.2.2 (m := d) (p := p) (n := (d : Int)) (v := v) (f := spl (fun _ => 0) 0 64 (vec 64 p (actN 8 d g a))) (hd := []) (N := 64) (off := 0) (by omega) (by omega) (by simp) (by omega) hd8 hv) rfl rfl, ?_⟩
          rintro _ _ ⟨rfl, rfl⟩
          rw [act_eq' (n := n) (by omega) (by omega) hn8 hd8 ha]
          refine ⟨_, _, _, rfl, cputs_by (by simp) (by omega), eqBk_rfl, ?_⟩
          first
            | exact ⟨rfl, _, _, _, _, z0, rfl, ⟨by simp, by omega⟩, fun x hx => by simp [spl, hx, z0], by rw [if_neg hq, oc_f hq]; rfl, Ext.nil⟩
            | exact ⟨rfl, _, _, _, _, vec 8 p (acV n d g a v), rfl, ⟨by simp, by omega⟩, fun x hx => by simp [spl, hx], by rw [if_pos hq, oc_t hq, Int.toNat_natCast, Int.toNat_natCast]; rfl, Ext.nil⟩
    · skip
      refine ⟨_, rfl, ?_⟩
      refine ⟨⟨rfl, rfl, trivial⟩, ?_⟩
      refine ⟨?_, ?_, trivial⟩
      · skip
        refine ⟨_, i_modulesCode1_at B E.2.1 (p := p) (n := n) (d := d) (f := f) (g := g) rfl rfl rfl, ?_⟩
        rintro _ _ ⟨rfl, rfl⟩
        refine ⟨⟨rfl, rfl, trivial⟩, ?_⟩
        refine ⟨?_, trivial⟩
        refine ⟨_, rfl, ?_⟩
        refine ⟨⟨rfl, rfl, trivial⟩, ?_⟩
        refine ⟨?_, trivial⟩
        refine ⟨_, CallOK.at2 rfl rfl (i_Hopf_code_ok B E.2.2.1 (p := p) (n := n) (f := f) (len := 1) (cap := 1) (l := spl (fun _ => 0) (0 * 8) 8 a) (N := 1 * 8) (Nat.le_refl _) (by omega)) rfl rfl, ?_⟩
        rintro _ _ ⟨rfl, rfl⟩
        refine ⟨⟨rfl, rfl, trivial⟩, ?_⟩
        refine ⟨?_, trivial⟩
        refine ⟨_, i_Module_vectorsCode_ok B E.2.2.2.1 (p := p) (n := n) (d := d) (f := f) (g := g) (L := [v]) rfl rfl (VS.at1 rfl (by simp) fun x hx => by simp [spl, hx]) (by simp), ?_⟩
        rintro _ _ ⟨rfl, rfl⟩
        refine ⟨?_, trivial⟩
        refine ⟨_, rfl, ?_⟩
        refine ⟨?_, trivial⟩
        refine ⟨_, first3_at B E.2.2.2.2.1 rfl, ?_⟩
        rintro _ _ ⟨rfl, rfl⟩
        rw [aq_fz]
        refine ⟨?_, trivial⟩
        refine ⟨fun h23 => ?_, fun h23 => ?_⟩
        · replace h23 := bne_t h23
          have hq : ¬ AQ p n d f g a v := fun q => h23 (oc_t q)
          refine ⟨_, _, _, rfl, cputs_by (by simp) (by omega), eqBk_rfl, ?_⟩
          first
            | exact ⟨rfl, _, _, _, _, z0, rfl, ⟨by simp, by omega⟩, fun x hx => by simp [spl, hx, z0], by rw [if_neg hq, oc_f hq]; rfl, Ext.nil⟩
            | exact ⟨rfl, _, _, _, _, vec 8 p (acV n d g a v), rfl, ⟨by simp, by omega⟩, fun x hx => by simp [spl, hx], by rw [if_pos hq, oc_t hq, Int.toNat_natCast, Int.toNat_natCast]; rfl, Ext.nil⟩
        · replace h23 := bne_f h23
          have hq : AQ p n d f g a v := oc_0 h23
          obtain ⟨n, rfl⟩ : ∃ m : Nat, n = (m : Int) := ⟨n.toNat, by have := hq.1.1.1.1.2.1; omega⟩
          obtain ⟨d, rfl⟩ : ∃ m : Nat, d = (m : Int) := ⟨d.toNat, by have := hq.1.2.1.1.2.1; omega⟩
          have hp2 := hq.1.1.1.1.1.1
          have hp3 := hq.1.1.1.1.1.2.1
          have hn8 : n ≤ 8 := by have := hq.1.1.1.1.2.2; omega
          have hd8 : d ≤ 8 := by have := hq.1.2.1.1.2.2; omega
          have ha : ∀ i, n ≤ i → i < 8 → bz a i = 0 := fun i h1 h2 => by have := (hq.2.1 i h2).2 (by omega); rwa [Nat.zero_add] at this
          have hv : ∀ i, d ≤ i → i < 8 → bz v i = 0 := fun i h1 h2 => by have := (hq.2.2 i h2).2 (by omega); rwa [Nat.zero_add] at this
          refine ⟨_, _, _, _, a, rfl, ⟨by simp, by omega⟩, fun x _ => congrArg _ (Nat.zero_add x).symm, ?_⟩
          refine ⟨_, CallOK.at2 rfl rfl (i_Module_acts_ok B E.2.2.2.2.2.1 (p := p) (n := (n : Int)) (d := d) (f := f) (g := g) (a := a) (by omega) (by omega) hd8) rfl rfl, ?_⟩
          rintro _ _ ⟨rfl, rfl⟩
          refine ⟨_, rfl, ?_⟩
          refine ⟨_, _, _, rfl, cputs_by (by simp) (by omega), eqBk_rfl, ?_⟩
          refine ⟨_, _, _, _, v, rfl, ⟨by simp, by omega⟩, fun x _ => congrArg _ (Nat.zero_add x).symm, ?_⟩
          refine ⟨_, CallOK.at2 rfl rfl (i_Module_field_ok B E.2.2.2.2.2.2.1 (p := p) (n := (n : Int)) (d := (d : Int)) (f := f) (g := g)) rfl rfl, ?_⟩
          rintro _ _ ⟨rfl, rfl⟩
          refine ⟨⟨rfl, trivial⟩, ?_⟩
          refine ⟨_, CallOK.at1 rfl (i_field_apply_ok B E.2.2.2.2.2.2.2 (m := d) (p := p) (n := (d : Int)) (v := v) (f := spl (fun _ => 0) 0 64 (vec 64 p (actN 8 d g a))) (hd := []) (N := 64) (off := 0) (by omega) (by omega) (by simp) (by omega) hd8 hv) rfl rfl, ?_⟩
          rintro _ _ ⟨rfl, rfl⟩
          rw [act_eq' (n := n) (by omega) (by omega) hn8 hd8 ha]
          refine ⟨_, _, _, rfl, cputs_by (by simp) (by omega), eqBk_rfl, ?_⟩
          first
            | exact ⟨rfl, _, _, _, _, z0, rfl, ⟨by simp, by omega⟩, fun x hx => by simp [spl, hx, z0], by rw [if_neg hq, oc_f hq]; rfl, Ext.nil⟩
            | exact ⟨rfl, _, _, _, _, vec 8 p (acV n d g a v), rfl, ⟨by simp, by omega⟩, fun x hx => by simp [spl, hx], by rw [if_pos hq, oc_t hq, Int.toNat_natCast, Int.toNat_natCast]; rfl, Ext.nil⟩
      · skip
        refine ⟨_, rfl, ?_⟩
        refine ⟨⟨rfl, rfl, trivial⟩, ?_⟩
        refine ⟨?_, trivial⟩
        refine ⟨_, i_modulesCode1_at B E.2.1 (p := p) (n := n) (d := d) (f := f) (g := g) rfl rfl rfl, ?_⟩
        rintro _ _ ⟨rfl, rfl⟩
        refine ⟨⟨rfl, rfl, trivial⟩, ?_⟩
        refine ⟨?_, trivial⟩
        refine ⟨_, CallOK.at2 rfl rfl (i_Hopf_code_ok B E.2.2.1 (p := p) (n := n) (f := f) (len := 1) (cap := 1) (l := spl (fun _ => 0) (0 * 8) 8 a) (N := 1 * 8) (Nat.le_refl _) (by omega)) rfl rfl, ?_⟩
        rintro _ _ ⟨rfl, rfl⟩
        refine ⟨⟨rfl, rfl, trivial⟩, ?_⟩
        refine ⟨?_, trivial⟩
        refine ⟨_, i_Module_vectorsCode_ok B E.2.2.2.1 (p := p) (n := n) (d := d) (f := f) (g := g) (L := [v]) rfl rfl (VS.at1 rfl (by simp) fun x hx => by simp [spl, hx]) (by simp), ?_⟩
        rintro _ _ ⟨rfl, rfl⟩
        refine ⟨?_, trivial⟩
        refine ⟨_, rfl, ?_⟩
        refine ⟨?_, trivial⟩
        refine ⟨_, first3_at B E.2.2.2.2.1 rfl, ?_⟩
        rintro _ _ ⟨rfl, rfl⟩
        rw [aq_fz]
        refine ⟨?_, trivial⟩
        refine ⟨fun h23 => ?_, fun h23 => ?_⟩
        · replace h23 := bne_t h23
          have hq : ¬ AQ p n d f g a v := fun q => h23 (oc_t q)
          refine ⟨_, _, _, rfl, cputs_by (by simp) (by omega), eqBk_rfl, ?_⟩
          first
            | exact ⟨rfl, _, _, _, _, z0, rfl, ⟨by simp, by omega⟩, fun x hx => by simp [spl, hx, z0], by rw [if_neg hq, oc_f hq]; rfl, Ext.nil⟩
            | exact ⟨rfl, _, _, _, _, vec 8 p (acV n d g a v), rfl, ⟨by simp, by omega⟩, fun x hx => by simp [spl, hx], by rw [if_pos hq, oc_t hq, Int.toNat_natCast, Int.toNat_natCast]; rfl, Ext.nil⟩
        · replace h23 := bne_f h23
          have hq : AQ p n d f g a v := oc_0 h23
          obtain ⟨n, rfl⟩ : ∃ m : Nat, n = (m : Int) := ⟨n.toNat, by have := hq.1.1.1.1.2.1; omega⟩
          obtain ⟨d, rfl⟩ : ∃ m : Nat, d = (m : Int) := ⟨d.toNat, by have := hq.1.2.1.1.2.1; omega⟩
          have hp2 := hq.1.1.1.1.1.1
          have hp3 := hq.1.1.1.1.1.2.1
          have hn8 : n ≤ 8 := by have := hq.1.1.1.1.2.2; omega
          have hd8 : d ≤ 8 := by have := hq.1.2.1.1.2.2; omega
          have ha : ∀ i, n ≤ i → i < 8 → bz a i = 0 := fun i h1 h2 => by have := (hq.2.1 i h2).2 (by omega); rwa [Nat.zero_add] at this
          have hv : ∀ i, d ≤ i → i < 8 → bz v i = 0 := fun i h1 h2 => by have := (hq.2.2 i h2).2 (by omega); rwa [Nat.zero_add] at this
          refine ⟨_, _, _, _, a, rfl, ⟨by simp, by omega⟩, fun x _ => congrArg _ (Nat.zero_add x).symm, ?_⟩
          refine ⟨_, CallOK.at2 rfl rfl (i_Module_acts_ok B E.2.2.2.2.2.1 (p := p) (n := (n : Int)) (d := d) (f := f) (g := g) (a := a) (by omega) (by omega) hd8) rfl rfl, ?_⟩
          rintro _ _ ⟨rfl, rfl⟩
          refine ⟨_, rfl, ?_⟩
          refine ⟨_, _, _, rfl, cputs_by (by simp) (by omega), eqBk_rfl, ?_⟩
          refine ⟨_, _, _, _, v, rfl, ⟨by simp, by omega⟩, fun x _ => congrArg _ (Nat.zero_add x).symm, ?_⟩
          refine ⟨_, CallOK.at2 rfl rfl (i_Module_field_ok B E.2.2.2.2.2.2.1 (p := p) (n := (n : Int)) (d := (d : Int)) (f := f) (g := g)) rfl rfl, ?_⟩
          rintro _ _ ⟨rfl, rfl⟩
          refine ⟨⟨rfl, trivial⟩, ?_⟩
          refine ⟨_, CallOK.at1 rfl (i_field_apply_ok B E.2.2.2.2.2.2.2 (m := d) (p := p) (n := (d : Int)) (v := v) (f := spl (fun _ => 0) 0 64 (vec 64 p (actN 8 d g a))) (hd := []) (N := 64) (off := 0) (by omega) (by omega) (by simp) (by omega) hd8 hv) rfl rfl, ?_⟩
          rintro _ _ ⟨rfl, rfl⟩
          rw [act_eq' (n := n) (by omega) (by omega) hn8 hd8 ha]
          refine ⟨_, _, _, rfl, cputs_by (by simp) (by omega), eqBk_rfl, ?_⟩
          first
            | exact ⟨rfl, _, _, _, _, z0, rfl, ⟨by simp, by omega⟩, fun x hx => by simp [spl, hx, z0], by rw [if_neg hq, oc_f hq]; rfl, Ext.nil⟩
            | exact ⟨rfl, _, _, _, _, vec 8 p (acV n d g a v), rfl, ⟨by simp, by omega⟩, fun x hx => by simp [spl, hx], by rw [if_pos hq, oc_t hq, Int.toNat_natCast, Int.toNat_natCast]; rfl, Ext.nil⟩
  · skip
    refine ⟨_, rfl, ?_⟩
    refine ⟨⟨rfl, rfl, trivial⟩, ?_⟩
    refine ⟨?_, ?_, trivial⟩
    · skip
      refine ⟨_, rfl, ?_⟩
      refine ⟨⟨rfl, rfl, trivial⟩, ?_⟩
      refine ⟨?_, ?_, trivial⟩
      · skip
        refine ⟨_, i_modulesCode1_at B E.2.1 (p := p) (n := n) (d := d) (f := f) (g := g) rfl rfl rfl, ?_⟩
        rintro _ _ ⟨rfl, rfl⟩
        refine ⟨⟨rfl, rfl, trivial⟩, ?_⟩
        refine ⟨?_, ?_, trivial⟩
        · skip
          refine ⟨_, CallOK.at2 rfl rfl (i_Hopf_code_ok B E.2.2.1 (p := p) (n := n) (f := f) (len := 1) (cap := 1) (l := spl (fun _ => 0) (0 * 8) 8 a) (N := 1 * 8) (Nat.le_refl _) (by omega)) rfl rfl, ?_⟩
          rintro _ _ ⟨rfl, rfl⟩
          refine ⟨⟨rfl, rfl, trivial⟩, ?_⟩
          refine ⟨?_, trivial⟩
          refine ⟨_, rfl, ?_⟩
          refine ⟨⟨rfl, rfl, trivial⟩, ?_⟩
          refine ⟨?_, trivial⟩
          refine ⟨_, i_Module_vectorsCode_ok B E.2.2.2.1 (p := p) (n := n) (d := d) (f := f) (g := g) (L := [v]) rfl rfl (VS.at1 rfl (by simp) fun x hx => by simp [spl, hx]) (by simp), ?_⟩
          rintro _ _ ⟨rfl, rfl⟩
          refine ⟨?_, trivial⟩
          refine ⟨_, rfl, ?_⟩
          refine ⟨?_, trivial⟩
          refine ⟨_, first3_at B E.2.2.2.2.1 rfl, ?_⟩
          rintro _ _ ⟨rfl, rfl⟩
          rw [aq_fz]
          refine ⟨?_, trivial⟩
          refine ⟨fun h23 => ?_, fun h23 => ?_⟩
          · replace h23 := bne_t h23
            have hq : ¬ AQ p n d f g a v := fun q => h23 (oc_t q)
            refine ⟨_, _, _, rfl, cputs_by (by simp) (by omega), eqBk_rfl, ?_⟩
            first
              | exact ⟨rfl, _, _, _, _, z0, rfl, ⟨by simp, by omega⟩, fun x hx => by simp [spl, hx, z0], by rw [if_neg hq, oc_f hq]; rfl, Ext.nil⟩
              | exact ⟨rfl, _, _, _, _, vec 8 p (acV n d g a v), rfl, ⟨by simp, by omega⟩, fun x hx => by simp [spl, hx], by rw [if_pos hq, oc_t hq, Int.toNat_natCast, Int.toNat_natCast]; rfl, Ext.nil⟩
          · replace h23 := bne_f h23
            have hq : AQ p n d f g a v := oc_0 h23
            obtain ⟨n, rfl⟩ : ∃ m : Nat, n = (m : Int) := ⟨n.toNat, by have := hq.1.1.1.1.2.1; omega⟩
            obtain ⟨d, rfl⟩ : ∃ m : Nat, d = (m : Int) := ⟨d.toNat, by have := hq.1.2.1.1.2.1; omega⟩
            have hp2 := hq.1.1.1.1.1.1
            have hp3 := hq.1.1.1.1.1.2.1
            have hn8 : n ≤ 8 := by have := hq.1.1.1.1.2.2; omega
            have hd8 : d ≤ 8 := by have := hq.1.2.1.1.2.2; omega
            have ha : ∀ i, n ≤ i → i < 8 → bz a i = 0 := fun i h1 h2 => by have := (hq.2.1 i h2).2 (by omega); rwa [Nat.zero_add] at this
            have hv : ∀ i, d ≤ i → i < 8 → bz v i = 0 := fun i h1 h2 => by have := (hq.2.2 i h2).2 (by omega); rwa [Nat.zero_add] at this
            refine ⟨_, _, _, _, a, rfl, ⟨by simp, by omega⟩, fun x _ => congrArg _ (Nat.zero_add x).symm, ?_⟩
            refine ⟨_, CallOK.at2 rfl rfl (i_Module_acts_ok B E.2.2.2.2.2.1 (p := p) (n := (n : Int)) (d := d) (f := f) (g := g) (a := a) (by omega) (by omega) hd8) rfl rfl, ?_⟩
            rintro _ _ ⟨rfl, rfl⟩
            refine ⟨_, rfl, ?_⟩
            refine ⟨_, _, _, rfl, cputs_by (by simp) (by omega), eqBk_rfl, ?_⟩
            refine ⟨_, _, _, _, v, rfl, ⟨by simp, by omega⟩, fun x _ => congrArg _ (Nat.zero_add x).symm, ?_⟩
            refine ⟨_, CallOK.at2 rfl rfl (i_Module_field_ok B E.2.2.2.2.2.2.1 (p := p) (n := (n : Int)) (d := (d : Int)) (f := f) (g := g)) rfl rfl, ?_⟩
            rintro _ _ ⟨rfl, rfl⟩
            refine ⟨⟨rfl, trivial⟩, ?_⟩
            refine ⟨_, CallOK.at1 rfl (i_field_apply_ok B E.2.2.2.2.2.2.2 (m := d) (p := p) (n := (d : Int)) (v := v) (f := spl (fun _ => 0) 0 64 (vec 64 p (actN 8 d g a))) (hd := []) (N := 64) (off := 0) (by omega) (by omega) (by simp) (by omega) hd8 hv) rfl rfl, ?_⟩
            rintro _ _ ⟨rfl, rfl⟩
            rw [act_eq' (n := n) (by omega) (by omega) hn8 hd8 ha]
            refine ⟨_, _, _, rfl, cputs_by (by simp) (by omega), eqBk_rfl, ?_⟩
            first
              | exact ⟨rfl, _, _, _, _, z0, rfl, ⟨by simp, by omega⟩, fun x hx => by simp [spl, hx, z0], by rw [if_neg hq, oc_f hq]; rfl, Ext.nil⟩
              | exact ⟨rfl, _, _, _, _, vec 8 p (acV n d g a v), rfl, ⟨by simp, by omega⟩, fun x hx => by simp [spl, hx], by rw [if_pos hq, oc_t hq, Int.toNat_natCast, Int.toNat_natCast]; rfl, Ext.nil⟩
        · skip
          refine ⟨_, rfl, ?_⟩
          refine ⟨⟨rfl, rfl, trivial⟩, ?_⟩
          refine ⟨?_, trivial⟩
          refine ⟨_, CallOK.at2 rfl rfl (i_Hopf_code_ok B E.2.2.1 (p := p) (n := n) (f := f) (len := 1) (cap := 1) (l := spl (fun _ => 0) (0 * 8) 8 a) (N := 1 * 8) (Nat.le_refl _) (by omega)) rfl rfl, ?_⟩
          rintro _ _ ⟨rfl, rfl⟩
          refine ⟨⟨rfl, rfl, trivial⟩, ?_⟩
          refine ⟨?_, trivial⟩
          refine ⟨_, i_Module_vectorsCode_ok B E.2.2.2.1 (p := p) (n := n) (d := d) (f := f) (g := g) (L := [v]) rfl rfl (VS.at1 rfl (by simp) fun x hx => by simp [spl, hx]) (by simp), ?_⟩
          rintro _ _ ⟨rfl, rfl⟩
          refine ⟨?_, trivial⟩
          refine ⟨_, rfl, ?_⟩
          refine ⟨?_, trivial⟩
          refine ⟨_, first3_at B E.2.2.2.2.1 rfl, ?_⟩
          rintro _ _ ⟨rfl, rfl⟩
          rw [aq_fz]
          refine ⟨?_, trivial⟩
          refine ⟨fun h23 => ?_, fun h23 => ?_⟩
          · replace h23 := bne_t h23
            have hq : ¬ AQ p n d f g a v := fun q => h23 (oc_t q)
            refine ⟨_, _, _, rfl, cputs_by (by simp) (by omega), eqBk_rfl, ?_⟩
            first
              | exact ⟨rfl, _, _, _, _, z0, rfl, ⟨by simp, by omega⟩, fun x hx => by simp [spl, hx, z0], by rw [if_neg hq, oc_f hq]; rfl, Ext.nil⟩
              | exact ⟨rfl, _, _, _, _, vec 8 p (acV n d g a v), rfl, ⟨by simp, by omega⟩, fun x hx => by simp [spl, hx], by rw [if_pos hq, oc_t hq, Int.toNat_natCast, Int.toNat_natCast]; rfl, Ext.nil⟩
          · replace h23 := bne_f h23
            have hq : AQ p n d f g a v := oc_0 h23
            obtain ⟨n, rfl⟩ : ∃ m : Nat, n = (m : Int) := ⟨n.toNat, by have := hq.1.1.1.1.2.1; omega⟩
            obtain ⟨d, rfl⟩ : ∃ m : Nat, d = (m : Int) := ⟨d.toNat, by have := hq.1.2.1.1.2.1; omega⟩
            have hp2 := hq.1.1.1.1.1.1
            have hp3 := hq.1.1.1.1.1.2.1
            have hn8 : n ≤ 8 := by have := hq.1.1.1.1.2.2; omega
            have hd8 : d ≤ 8 := by have := hq.1.2.1.1.2.2; omega
            have ha : ∀ i, n ≤ i → i < 8 → bz a i = 0 := fun i h1 h2 => by have := (hq.2.1 i h2).2 (by omega); rwa [Nat.zero_add] at this
            have hv : ∀ i, d ≤ i → i < 8 → bz v i = 0 := fun i h1 h2 => by have := (hq.2.2 i h2).2 (by omega); rwa [Nat.zero_add] at this
            refine ⟨_, _, _, _, a, rfl, ⟨by simp, by omega⟩, fun x _ => congrArg _ (Nat.zero_add x).symm, ?_⟩
            refine ⟨_, CallOK.at2 rfl rfl (i_Module_acts_ok B E.2.2.2.2.2.1 (p := p) (n := (n : Int)) (d := d) (f := f) (g := g) (a := a) (by omega) (by omega) hd8) rfl rfl, ?_⟩
            rintro _ _ ⟨rfl, rfl⟩
            refine ⟨_, rfl, ?_⟩
            refine ⟨_, _, _, rfl, cputs_by (by simp) (by omega), eqBk_rfl, ?_⟩
            refine ⟨_, _, _, _, v, rfl, ⟨by simp, by omega⟩, fun x _ => congrArg _ (Nat.zero_add x).symm, ?_⟩
            refine ⟨_, CallOK.at2 rfl rfl (i_Module_field_ok B E.2.2.2.2.2.2.1 (p := p) (n := (n : Int)) (d := (d : Int)) (f := f) (g := g)) rfl rfl, ?_⟩
            rintro _ _ ⟨rfl, rfl⟩
            refine ⟨⟨rfl, trivial⟩, ?_⟩
            refine ⟨_, CallOK.at1 rfl (i_field_apply_ok B E.2.2.2.2.2.2.2 (m := d) (p := p) (n := (d : Int)) (v := v) (f := spl (fun _ => 0) 0 64 (vec 64 p (actN 8 d g a))) (hd := []) (N := 64) (off := 0) (by omega) (by omega) (by simp) (by omega) hd8 hv) rfl rfl, ?_⟩
            rintro _ _ ⟨rfl, rfl⟩
            rw [act_eq' (n := n) (by omega) (by omega) hn8 hd8 ha]
            refine ⟨_, _, _, rfl, cputs_by (by simp) (by omega), eqBk_rfl, ?_⟩
            first
              | exact ⟨rfl, _, _, _, _, z0, rfl, ⟨by simp, by omega⟩, fun x hx => by simp [spl, hx, z0], by rw [if_neg hq, oc_f hq]; rfl, Ext.nil⟩
              | exact ⟨rfl, _, _, _, _, vec 8 p (acV n d g a v), rfl, ⟨by simp, by omega⟩, fun x hx => by simp [spl, hx], by rw [if_pos hq, oc_t hq, Int.toNat_natCast, Int.toNat_natCast]; rfl, Ext.nil⟩
      · skip
        refine ⟨_, rfl, ?_⟩
        refine ⟨⟨rfl, rfl, trivial⟩, ?_⟩
        refine ⟨?_, trivial⟩
        refine ⟨_, i_modulesCode1_at B E.2.1 (p := p) (n := n) (d := d) (f := f) (g := g) rfl rfl rfl, ?_⟩
        rintro _ _ ⟨rfl, rfl⟩
        refine ⟨⟨rfl, rfl, trivial⟩, ?_⟩
        refine ⟨?_, trivial⟩
        refine ⟨_, CallOK.at2 rfl rfl (i_Hopf_code_ok B E.2.2.1 (p := p) (n := n) (f := f) (len := 1) (cap := 1) (l := spl (fun _ => 0) (0 * 8) 8 a) (N := 1 * 8) (Nat.le_refl _) (by omega)) rfl rfl, ?_⟩
        rintro _ _ ⟨rfl, rfl⟩
        refine ⟨⟨rfl, rfl, trivial⟩, ?_⟩
        refine ⟨?_, trivial⟩
        refine ⟨_, i_Module_vectorsCode_ok B E.2.2.2.1 (p := p) (n := n) (d := d) (f := f) (g := g) (L := [v]) rfl rfl (VS.at1 rfl (by simp) fun x hx => by simp [spl, hx]) (by simp), ?_⟩
        rintro _ _ ⟨rfl, rfl⟩
        refine ⟨?_, trivial⟩
        refine ⟨_, rfl, ?_⟩
        refine ⟨?_, trivial⟩
        refine ⟨_, first3_at B E.2.2.2.2.1 rfl, ?_⟩
        rintro _ _ ⟨rfl, rfl⟩
        rw [aq_fz]
        refine ⟨?_, trivial⟩
        refine ⟨fun h23 => ?_, fun h23 => ?_⟩
        · replace h23 := bne_t h23
          have hq : ¬ AQ p n d f g a v := fun q => h23 (oc_t q)
          refine ⟨_, _, _, rfl, cputs_by (by simp) (by omega), eqBk_rfl, ?_⟩
          first
            | exact ⟨rfl, _, _, _, _, z0, rfl, ⟨by simp, by omega⟩, fun x hx => by simp [spl, hx, z0], by rw [if_neg hq, oc_f hq]; rfl, Ext.nil⟩
            | exact ⟨rfl, _, _, _, _, vec 8 p (acV n d g a v), rfl, ⟨by simp, by omega⟩, fun x hx => by simp [spl, hx], by rw [if_pos hq, oc_t hq, Int.toNat_natCast, Int.toNat_natCast]; rfl, Ext.nil⟩
        · replace h23 := bne_f h23
          have hq : AQ p n d f g a v := oc_0 h23
          obtain ⟨n, rfl⟩ : ∃ m : Nat, n = (m : Int) := ⟨n.toNat, by have := hq.1.1.1.1.2.1; omega⟩
          obtain ⟨d, rfl⟩ : ∃ m : Nat, d = (m : Int) := ⟨d.toNat, by have := hq.1.2.1.1.2.1; omega⟩
          have hp2 := hq.1.1.1.1.1.1
          have hp3 := hq.1.1.1.1.1.2.1
          have hn8 : n ≤ 8 := by have := hq.1.1.1.1.2.2; omega
          have hd8 : d ≤ 8 := by have := hq.1.2.1.1.2.2; omega
          have ha : ∀ i, n ≤ i → i < 8 → bz a i = 0 := fun i h1 h2 => by have := (hq.2.1 i h2).2 (by omega); rwa [Nat.zero_add] at this
          have hv : ∀ i, d ≤ i → i < 8 → bz v i = 0 := fun i h1 h2 => by have := (hq.2.2 i h2).2 (by omega); rwa [Nat.zero_add] at this
          refine ⟨_, _, _, _, a, rfl, ⟨by simp, by omega⟩, fun x _ => congrArg _ (Nat.zero_add x).symm, ?_⟩
          refine ⟨_, CallOK.at2 rfl rfl (i_Module_acts_ok B E.2.2.2.2.2.1 (p := p) (n := (n : Int)) (d := d) (f := f) (g := g) (a := a) (by omega) (by omega) hd8) rfl rfl, ?_⟩
          rintro _ _ ⟨rfl, rfl⟩
          refine ⟨_, rfl, ?_⟩
          refine ⟨_, _, _, rfl, cputs_by (by simp) (by omega), eqBk_rfl, ?_⟩
          refine ⟨_, _, _, _, v, rfl, ⟨by simp, by omega⟩, fun x _ => congrArg _ (Nat.zero_add x).symm, ?_⟩
          refine ⟨_, CallOK.at2 rfl rfl (i_Module_field_ok B E.2.2.2.2.2.2.1 (p := p) (n := (n : Int)) (d := (d : Int)) (f := f) (g := g)) rfl rfl, ?_⟩
          rintro _ _ ⟨rfl, rfl⟩
          refine ⟨⟨rfl, trivial⟩, ?_⟩
          refine ⟨_, CallOK.at1 rfl (i_field_apply_ok B E.2.2.2.2.2.2.2 (m := d) (p := p) (n := (d : Int)) (v := v) (f := spl (fun _ => 0) 0 64 (vec 64 p (actN 8 d g a))) (hd := []) (N := 64) (off := 0) (by omega) (by omega) (by simp) (by omega) hd8 hv) rfl rfl, ?_⟩
          rintro _ _ ⟨rfl, rfl⟩
          rw [act_eq' (n := n) (by omega) (by omega) hn8 hd8 ha]
          refine ⟨_, _, _, rfl, cputs_by (by simp) (by omega), eqBk_rfl, ?_⟩
          first
            | exact ⟨rfl, _, _, _, _, z0, rfl, ⟨by simp, by omega⟩, fun x hx => by simp [spl, hx, z0], by rw [if_neg hq, oc_f hq]; rfl, Ext.nil⟩
            | exact ⟨rfl, _, _, _, _, vec 8 p (acV n d g a v), rfl, ⟨by simp, by omega⟩, fun x hx => by simp [spl, hx], by rw [if_pos hq, oc_t hq, Int.toNat_natCast, Int.toNat_natCast]; rfl, Ext.nil⟩
    · skip
      refine ⟨_, rfl, ?_⟩
      refine ⟨⟨rfl, rfl, trivial⟩, ?_⟩
      refine ⟨?_, trivial⟩
      refine ⟨_, rfl, ?_⟩
      refine ⟨⟨rfl, rfl, trivial⟩, ?_⟩
      refine ⟨?_, trivial⟩
      refine ⟨_, i_modulesCode1_at B E.2.1 (p := p) (n := n) (d := d) (f := f) (g := g) rfl rfl rfl, ?_⟩
      rintro _ _ ⟨rfl, rfl⟩
      refine ⟨⟨rfl, rfl, trivial⟩, ?_⟩
      refine ⟨?_, trivial⟩
      refine ⟨_, CallOK.at2 rfl rfl (i_Hopf_code_ok B E.2.2.1 (p := p) (n := n) (f := f) (len := 1) (cap := 1) (l := spl (fun _ => 0) (0 * 8) 8 a) (N := 1 * 8) (Nat.le_refl _) (by omega)) rfl rfl, ?_⟩
      rintro _ _ ⟨rfl, rfl⟩
      refine ⟨⟨rfl, rfl, trivial⟩, ?_⟩
      refine ⟨?_, trivial⟩
      refine ⟨_, i_Module_vectorsCode_ok B E.2.2.2.1 (p := p) (n := n) (d := d) (f := f) (g := g) (L := [v]) rfl rfl (VS.at1 rfl (by simp) fun x hx => by simp [spl, hx]) (by simp), ?_⟩
      rintro _ _ ⟨rfl, rfl⟩
      refine ⟨?_, trivial⟩
      refine ⟨_, rfl, ?_⟩
      refine ⟨?_, trivial⟩
      refine ⟨_, first3_at B E.2.2.2.2.1 rfl, ?_⟩
      rintro _ _ ⟨rfl, rfl⟩
      rw [aq_fz]
      refine ⟨?_, trivial⟩
      refine ⟨fun h23 => ?_, fun h23 => ?_⟩
      · replace h23 := bne_t h23
        have hq : ¬ AQ p n d f g a v := fun q => h23 (oc_t q)
        refine ⟨_, _, _, rfl, cputs_by (by simp) (by omega), eqBk_rfl, ?_⟩
        first
          | exact ⟨rfl, _, _, _, _, z0, rfl, ⟨by simp, by omega⟩, fun x hx => by simp [spl, hx, z0], by rw [if_neg hq, oc_f hq]; rfl, Ext.nil⟩
          | exact ⟨rfl, _, _, _, _, vec 8 p (acV n d g a v), rfl, ⟨by simp, by omega⟩, fun x hx => by simp [spl, hx], by rw [if_pos hq, oc_t hq, Int.toNat_natCast, Int.toNat_natCast]; rfl, Ext.nil⟩
      · replace h23 := bne_f h23
        have hq : AQ p n d f g a v := oc_0 h23
        obtain ⟨n, rfl⟩ : ∃ m : Nat, n = (m : Int) := ⟨n.toNat, by have := hq.1.1.1.1.2.1; omega⟩
        obtain ⟨d, rfl⟩ : ∃ m : Nat, d = (m : Int) := ⟨d.toNat, by have := hq.1.2.1.1.2.1; omega⟩
        have hp2 := hq.1.1.1.1.1.1
        have hp3 := hq.1.1.1.1.1.2.1
        have hn8 : n ≤ 8 := by have := hq.1.1.1.1.2.2; omega
        have hd8 : d ≤ 8 := by have := hq.1.2.1.1.2.2; omega
        have ha : ∀ i, n ≤ i → i < 8 → bz a i = 0 := fun i h1 h2 => by have := (hq.2.1 i h2).2 (by omega); rwa [Nat.zero_add] at this
        have hv : ∀ i, d ≤ i → i < 8 → bz v i = 0 := fun i h1 h2 => by have := (hq.2.2 i h2).2 (by omega); rwa [Nat.zero_add] at this
        refine ⟨_, _, _, _, a, rfl, ⟨by simp, by omega⟩, fun x _ => congrArg _ (Nat.zero_add x).symm, ?_⟩
        refine ⟨_, CallOK.at2 rfl rfl (i_Module_acts_ok B E.2.2.2.2.2.1 (p := p) (n := (n : Int)) (d := d) (f := f) (g := g) (a := a) (by omega) (by omega) hd8) rfl rfl, ?_⟩
        rintro _ _ ⟨rfl, rfl⟩
        refine ⟨_, rfl, ?_⟩
        refine ⟨_, _, _, rfl, cputs_by (by simp) (by omega), eqBk_rfl, ?_⟩
        refine ⟨_, _, _, _, v, rfl, ⟨by simp, by omega⟩, fun x _ => congrArg _ (Nat.zero_add x).symm, ?_⟩
        refine ⟨_, CallOK.at2 rfl rfl (i_Module_field_ok B E.2.2.2.2.2.2.1 (p := p) (n := (n : Int)) (d := (d : Int)) (f := f) (g := g)) rfl rfl, ?_⟩
        rintro _ _ ⟨rfl, rfl⟩
        refine ⟨⟨rfl, trivial⟩, ?_⟩
        refine ⟨_, CallOK.at1 rfl (i_field_apply_ok B E.2.2.2.2.2.2.2 (m := d) (p := p) (n := (d : Int)) (v := v) (f := spl (fun _ => 0) 0 64 (vec 64 p (actN 8 d g a))) (hd := []) (N := 64) (off := 0) (by omega) (by omega) (by simp) (by omega) hd8 hv) rfl rfl, ?_⟩
        rintro _ _ ⟨rfl, rfl⟩
        rw [act_eq' (n := n) (by omega) (by omega) hn8 hd8 ha]
        refine ⟨_, _, _, rfl, cputs_by (by simp) (by omega), eqBk_rfl, ?_⟩
        first
          | exact ⟨rfl, _, _, _, _, z0, rfl, ⟨by simp, by omega⟩, fun x hx => by simp [spl, hx, z0], by rw [if_neg hq, oc_f hq]; rfl, Ext.nil⟩
          | exact ⟨rfl, _, _, _, _, vec 8 p (acV n d g a v), rfl, ⟨by simp, by omega⟩, fun x hx => by simp [spl, hx], by rw [if_pos hq, oc_t hq, Int.toNat_natCast, Int.toNat_natCast]; rfl, Ext.nil⟩
  · skip
    refine ⟨_, rfl, ?_⟩
    refine ⟨⟨rfl, rfl, trivial⟩, ?_⟩
    refine ⟨?_, ?_, trivial⟩
    · skip
      refine ⟨_, rfl, ?_⟩
      refine ⟨⟨rfl, rfl, trivial⟩, ?_⟩
      refine ⟨?_, ?_, trivial⟩
      · skip
        refine ⟨_, i_modulesCode1_at B E.2.1 (p := p) (n := n) (d := d) (f := f) (g := g) rfl rfl rfl, ?_⟩
        rintro _ _ ⟨rfl, rfl⟩
        refine ⟨⟨rfl, rfl, trivial⟩, ?_⟩
        refine ⟨?_, trivial⟩
        refine ⟨_, rfl, ?_⟩
        refine ⟨⟨rfl, rfl, trivial⟩, ?_⟩
        refine ⟨?_, trivial⟩
        refine ⟨_, CallOK.at2 rfl rfl (i_Hopf_code_ok B E.2.2.1 (p := p) (n := n) (f := f) (len := 1) (cap := 1) (l := spl (fun _ => 0) (0 * 8) 8 a) (N := 1 * 8) (Nat.le_refl _) (by omega)) rfl rfl, ?_⟩
        rintro _ _ ⟨rfl, rfl⟩
        refine ⟨⟨rfl, rfl, trivial⟩, ?_⟩
        refine ⟨?_, trivial⟩
        refine ⟨_, i_Module_vectorsCode_ok B E.2.2.2.1 (p := p) (n := n) (d := d) (f := f) (g := g) (L := [v]) rfl rfl (VS.at1 rfl (by simp) fun x hx => by simp [spl, hx]) (by simp), ?_⟩
        rintro _ _ ⟨rfl, rfl⟩
        refine ⟨?_, trivial⟩
        refine ⟨_, rfl, ?_⟩
        refine ⟨?_, trivial⟩
        refine ⟨_, first3_at B E.2.2.2.2.1 rfl, ?_⟩
        rintro _ _ ⟨rfl, rfl⟩
        rw [aq_fz]
        refine ⟨?_, trivial⟩
        refine ⟨fun h23 => ?_, fun h23 => ?_⟩
        · replace h23 := bne_t h23
          have hq : ¬ AQ p n d f g a v := fun q => h23 (oc_t q)
          refine ⟨_, _, _, rfl, cputs_by (by simp) (by omega), eqBk_rfl, ?_⟩
          first
            | exact ⟨rfl, _, _, _, _, z0, rfl, ⟨by simp, by omega⟩, fun x hx => by simp [spl, hx, z0], by rw [if_neg hq, oc_f hq]; rfl, Ext.nil⟩
            | exact ⟨rfl, _, _, _, _, vec 8 p (acV n d g a v), rfl, ⟨by simp, by omega⟩, fun x hx => by simp [spl, hx], by rw [if_pos hq, oc_t hq, Int.toNat_natCast, Int.toNat_natCast]; rfl, Ext.nil⟩
        · replace h23 := bne_f h23
          have hq : AQ p n d f g a v := oc_0 h23
          obtain ⟨n, rfl⟩ : ∃ m : Nat, n = (m : Int) := ⟨n.toNat, by have := hq.1.1.1.1.2.1; omega⟩
          obtain ⟨d, rfl⟩ : ∃ m : Nat, d = (m : Int) := ⟨d.toNat, by have := hq.1.2.1.1.2.1; omega⟩
          have hp2 := hq.1.1.1.1.1.1
          have hp3 := hq.1.1.1.1.1.2.1
          have hn8 : n ≤ 8 := by have := hq.1.1.1.1.2.2; omega
          have hd8 : d ≤ 8 := by have := hq.1.2.1.1.2.2; omega
          have ha : ∀ i, n ≤ i → i < 8 → bz a i = 0 := fun i h1 h2 => by have := (hq.2.1 i h2).2 (by omega); rwa [Nat.zero_add] at this
          have hv : ∀ i, d ≤ i → i < 8 → bz v i = 0 := fun i h1 h2 => by have := (hq.2.2 i h2).2 (by omega); rwa [Nat.zero_add] at this
          refine ⟨_, _, _, _, a, rfl, ⟨by simp, by omega⟩, fun x _ => congrArg _ (Nat.zero_add x).symm, ?_⟩
          refine ⟨_, CallOK.at2 rfl rfl (i_Module_acts_ok B E.2.2.2.2.2.1 (p := p) (n := (n : Int)) (d := d) (f := f) (g := g) (a := a) (by omega) (by omega) hd8) rfl rfl, ?_⟩
          rintro _ _ ⟨rfl, rfl⟩
          refine ⟨_, rfl, ?_⟩
          refine ⟨_, _, _, rfl, cputs_by (by simp) (by omega), eqBk_rfl, ?_⟩
          refine ⟨_, _, _, _, v, rfl, ⟨by simp, by omega⟩, fun x _ => congrArg _ (Nat.zero_add x).symm, ?_⟩
          refine ⟨_, CallOK.at2 rfl rfl (i_Module_field_ok B E.2.2.2.2.2.2.1 (p := p) (n := (n : Int)) (d := (d : Int)) (f := f) (g := g)) rfl rfl, ?_⟩
          rintro _ _ ⟨rfl, rfl⟩
          refine ⟨⟨rfl, trivial⟩, ?_⟩
          refine ⟨_, CallOK.at1 rfl (i_field_apply_ok B E.2.2.2.2.2.2.2 (m := d) (p := p) (n := (d : Int)) (v := v) (f := spl (fun _ => 0) 0 64 (vec 64 p (actN 8 d g a))) (hd := []) (N := 64) (off := 0) (by omega) (by omega) (by simp) (by omega) hd8 hv) rfl rfl, ?_⟩
          rintro _ _ ⟨rfl, rfl⟩
          rw [act_eq' (n := n) (by omega) (by omega) hn8 hd8 ha]
          refine ⟨_, _, _, rfl, cputs_by (by simp) (by omega), eqBk_rfl, ?_⟩
          first
            | exact ⟨rfl, _, _, _, _, z0, rfl, ⟨by simp, by omega⟩, fun x hx => by simp [spl, hx, z0], by rw [if_neg hq, oc_f hq]; rfl, Ext.nil⟩
            | exact ⟨rfl, _, _, _, _, vec 8 p (acV n d g a v), rfl, ⟨by simp, by omega⟩, fun x hx => by simp [spl, hx], by rw [if_pos hq, oc_t hq, Int.toNat_natCast, Int.toNat_natCast]; rfl, Ext.nil⟩
      · skip
        refine ⟨_, rfl, ?_⟩
        refine ⟨⟨rfl, rfl, trivial⟩, ?_⟩
        refine ⟨?_, trivial⟩
        refine ⟨_, i_modulesCode1_at B E.2.1 (p := p) (n := n) (d := d) (f := f) (g := g) rfl rfl rfl, ?_⟩
        rintro _ _ ⟨rfl, rfl⟩
        refine ⟨⟨rfl, rfl, trivial⟩, ?_⟩
        refine ⟨?_, trivial⟩
        refine ⟨_, CallOK.at2 rfl rfl (i_Hopf_code_ok B E.2.2.1 (p := p) (n := n) (f := f) (len := 1) (cap := 1) (l := spl (fun _ => 0) (0 * 8) 8 a) (N := 1 * 8) (Nat.le_refl _) (by omega)) rfl rfl, ?_⟩
        rintro _ _ ⟨rfl, rfl⟩
        refine ⟨⟨rfl, rfl, trivial⟩, ?_⟩
        refine ⟨?_, trivial⟩
        refine ⟨_, i_Module_vectorsCode_ok B E.2.2.2.1 (p := p) (n := n) (d := d) (f := f) (g := g) (L := [v]) rfl rfl (VS.at1 rfl (by simp) fun x hx => by simp [spl, hx]) (by simp), ?_⟩
        rintro _ _ ⟨rfl, rfl⟩
        refine ⟨?_, trivial⟩
        refine ⟨_, rfl, ?_⟩
        refine ⟨?_, trivial⟩
        refine ⟨_, first3_at B E.2.2.2.2.1 rfl, ?_⟩
        rintro _ _ ⟨rfl, rfl⟩
        rw [aq_fz]
        refine ⟨?_, trivial⟩
        refine ⟨fun h23 => ?_, fun h23 => ?_⟩
        · replace h23 := bne_t h23
          have hq : ¬ AQ p n d f g a v := fun q => h23 (oc_t q)
          refine ⟨_, _, _, rfl, cputs_by (by simp) (by omega), eqBk_rfl, ?_⟩
          first
            | exact ⟨rfl, _, _, _, _, z0, rfl, ⟨by simp, by omega⟩, fun x hx => by simp [spl, hx, z0], by rw [if_neg hq, oc_f hq]; rfl, Ext.nil⟩
            | exact ⟨rfl, _, _, _, _, vec 8 p (acV n d g a v), rfl, ⟨by simp, by omega⟩, fun x hx => by simp [spl, hx], by rw [if_pos hq, oc_t hq, Int.toNat_natCast, Int.toNat_natCast]; rfl, Ext.nil⟩
        · replace h23 := bne_f h23
          have hq : AQ p n d f g a v := oc_0 h23
          obtain ⟨n, rfl⟩ : ∃ m : Nat, n = (m : Int) := ⟨n.toNat, by have := hq.1.1.1.1.2.1; omega⟩
          obtain ⟨d, rfl⟩ : ∃ m : Nat, d = (m : Int) := ⟨d.toNat, by have := hq.1.2.1.1.2.1; omega⟩
          have hp2 := hq.1.1.1.1.1.1
          have hp3 := hq.1.1.1.1.1.2.1
          have hn8 : n ≤ 8 := by have := hq.1.1.1.1.2.2; omega
          have hd8 : d ≤ 8 := by have := hq.1.2.1.1.2.2; omega
          have ha : ∀ i, n ≤ i → i < 8 → bz a i = 0 := fun i h1 h2 => by have := (hq.2.1 i h2).2 (by omega); rwa [Nat.zero_add] at this
          have hv : ∀ i, d ≤ i → i < 8 → bz v i = 0 := fun i h1 h2 => by have := (hq.2.2 i h2).2 (by omega); rwa [Nat.zero_add] at this
          refine ⟨_, _, _, _, a, rfl, ⟨by simp, by omega⟩, fun x _ => congrArg _ (Nat.zero_add x).symm, ?_⟩
          refine ⟨_, CallOK.at2 rfl rfl (i_Module_acts_ok B E.2.2.2.2.2.1 (p := p) (n := (n : Int)) (d := d) (f := f) (g := g) (a := a) (by omega) (by omega) hd8) rfl rfl, ?_⟩
          rintro _ _ ⟨rfl, rfl⟩
          refine ⟨_, rfl, ?_⟩
          refine ⟨_, _, _, rfl, cputs_by (by simp) (by omega), eqBk_rfl, ?_⟩
          refine ⟨_, _, _, _, v, rfl, ⟨by simp, by omega⟩, fun x _ => congrArg _ (Nat.zero_add x).symm, ?_⟩
          refine ⟨_, CallOK.at2 rfl rfl (i_Module_field_ok B E.2.2.2.2.2.2.1 (p := p) (n := (n : Int)) (d := (d : Int)) (f := f) (g := g)) rfl rfl, ?_⟩
          rintro _ _ ⟨rfl, rfl⟩
          refine ⟨⟨rfl, trivial⟩, ?_⟩
          refine ⟨_, CallOK.at1 rfl (i_field_apply_ok B E.2.2.2.2.2.2.2 (m := d) (p := p) (n := (d : Int)) (v := v) (f := spl (fun _ => 0) 0 64 (vec 64 p (actN 8 d g a))) (hd := []) (N := 64) (off := 0) (by omega) (by omega) (by simp) (by omega) hd8 hv) rfl rfl, ?_⟩
          rintro _ _ ⟨rfl, rfl⟩
          rw [act_eq' (n := n) (by omega) (by omega) hn8 hd8 ha]
          refine ⟨_, _, _, rfl, cputs_by (by simp) (by omega), eqBk_rfl, ?_⟩
          first
            | exact ⟨rfl, _, _, _, _, z0, rfl, ⟨by simp, by omega⟩, fun x hx => by simp [spl, hx, z0], by rw [if_neg hq, oc_f hq]; rfl, Ext.nil⟩
            | exact ⟨rfl, _, _, _, _, vec 8 p (acV n d g a v), rfl, ⟨by simp, by omega⟩, fun x hx => by simp [spl, hx], by rw [if_pos hq, oc_t hq, Int.toNat_natCast, Int.toNat_natCast]; rfl, Ext.nil⟩
    · skip
      refine ⟨_, rfl, ?_⟩
      refine ⟨⟨rfl, rfl, trivial⟩, ?_⟩
      refine ⟨?_, trivial⟩
      refine ⟨_, rfl, ?_⟩
      refine ⟨⟨rfl, rfl, trivial⟩, ?_⟩
      refine ⟨?_, trivial⟩
      refine ⟨_, i_modulesCode1_at B E.2.1 (p := p) (n := n) (d := d) (f := f) (g := g) rfl rfl rfl, ?_⟩
      rintro _ _ ⟨rfl, rfl⟩
      refine ⟨⟨rfl, rfl, trivial⟩, ?_⟩
      refine ⟨?_, trivial⟩
      refine ⟨_, CallOK.at2 rfl rfl (i_Hopf_code_ok B E.2.2.1 (p := p) (n := n) (f := f) (len := 1) (cap := 1) (l := spl (fun _ => 0) (0 * 8) 8 a) (N := 1 * 8) (Nat.le_refl _) (by omega)) rfl rfl, ?_⟩
      rintro _ _ ⟨rfl, rfl⟩
      refine ⟨⟨rfl, rfl, trivial⟩, ?_⟩
      refine ⟨?_, trivial⟩
      refine ⟨_, i_Module_vectorsCode_ok B E.2.2.2.1 (p := p) (n := n) (d := d) (f := f) (g := g) (L := [v]) rfl rfl (VS.at1 rfl (by simp) fun x hx => by simp [spl, hx]) (by simp), ?_⟩
      rintro _ _ ⟨rfl, rfl⟩
      refine ⟨?_, trivial⟩
      refine ⟨_, rfl, ?_⟩
      refine ⟨?_, trivial⟩
      refine ⟨_, first3_at B E.2.2.2.2.1 rfl, ?_⟩
      rintro _ _ ⟨rfl, rfl⟩
      rw [aq_fz]
      refine ⟨?_, trivial⟩
      refine ⟨fun h23 => ?_, fun h23 => ?_⟩
      · replace h23 := bne_t h23
        have hq : ¬ AQ p n d f g a v := fun q => h23 (oc_t q)
        refine ⟨_, _, _, rfl, cputs_by (by simp) (by omega), eqBk_rfl, ?_⟩
        first
          | exact ⟨rfl, _, _, _, _, z0, rfl, ⟨by simp, by omega⟩, fun x hx => by simp [spl, hx, z0], by rw [if_neg hq, oc_f hq]; rfl, Ext.nil⟩
          | exact ⟨rfl, _, _, _, _, vec 8 p (acV n d g a v), rfl, ⟨by simp, by omega⟩, fun x hx => by simp [spl, hx], by rw [if_pos hq, oc_t hq, Int.toNat_natCast, Int.toNat_natCast]; rfl, Ext.nil⟩
      · replace h23 := bne_f h23
        have hq : AQ p n d f g a v := oc_0 h23
        obtain ⟨n, rfl⟩ : ∃ m : Nat, n = (m : Int) := ⟨n.toNat, by have := hq.1.1.1.1.2.1; omega⟩
        obtain ⟨d, rfl⟩ : ∃ m : Nat, d = (m : Int) := ⟨d.toNat, by have := hq.1.2.1.1.2.1; omega⟩
        have hp2 := hq.1.1.1.1.1.1
        have hp3 := hq.1.1.1.1.1.2.1
        have hn8 : n ≤ 8 := by have := hq.1.1.1.1.2.2; omega
        have hd8 : d ≤ 8 := by have := hq.1.2.1.1.2.2; omega
        have ha : ∀ i, n ≤ i → i < 8 → bz a i = 0 := fun i h1 h2 => by have := (hq.2.1 i h2).2 (by omega); rwa [Nat.zero_add] at this
        have hv : ∀ i, d ≤ i → i < 8 → bz v i = 0 := fun i h1 h2 => by have := (hq.2.2 i h2).2 (by omega); rwa [Nat.zero_add] at this
        refine ⟨_, _, _, _, a, rfl, ⟨by simp, by omega⟩, fun x _ => congrArg _ (Nat.zero_add x).symm, ?_⟩
        refine ⟨_, CallOK.at2 rfl rfl (i_Module_acts_ok B E.2.2.2.2.2.1 (p := p) (n := (n : Int)) (d := d) (f := f) (g := g) (a := a) (by omega) (by omega) hd8) rfl rfl, ?_⟩
        rintro _ _ ⟨rfl, rfl⟩
        refine ⟨_, rfl, ?_⟩
        refine ⟨_, _, _, rfl, cputs_by (by simp) (by omega), eqBk_rfl, ?_⟩
        refine ⟨_, _, _, _, v, rfl, ⟨by simp, by omega⟩, fun x _ => congrArg _ (Nat.zero_add x).symm, ?_⟩
        refine ⟨_, CallOK.at2 rfl rfl (i_Module_field_ok B E.2.2.2.2.2.2.1 (p := p) (n := (n : Int)) (d := (d : Int)) (f := f) (g := g)) rfl rfl, ?_⟩
        rintro _ _ ⟨rfl, rfl⟩
        refine ⟨⟨rfl, trivial⟩, ?_⟩
        refine ⟨_, CallOK.at1 rfl (i_field_apply_ok B E.2.2.2.2.2.2.2 (m := d) (p := p) (n := (d : Int)) (v := v) (f := spl (fun _ => 0) 0 64 (vec 64 p (actN 8 d g a))) (hd := []) (N := 64) (off := 0) (by omega) (by omega) (by simp) (by omega) hd8 hv) rfl rfl, ?_⟩
        rintro _ _ ⟨rfl, rfl⟩
        rw [act_eq' (n := n) (by omega) (by omega) hn8 hd8 ha]
        refine ⟨_, _, _, rfl, cputs_by (by simp) (by omega), eqBk_rfl, ?_⟩
        first
          | exact ⟨rfl, _, _, _, _, z0, rfl, ⟨by simp, by omega⟩, fun x hx => by simp [spl, hx, z0], by rw [if_neg hq, oc_f hq]; rfl, Ext.nil⟩
          | exact ⟨rfl, _, _, _, _, vec 8 p (acV n d g a v), rfl, ⟨by simp, by omega⟩, fun x hx => by simp [spl, hx], by rw [if_pos hq, oc_t hq, Int.toNat_natCast, Int.toNat_natCast]; rfl, Ext.nil⟩

theorem s_ActOn_ok (B : Bs P ρ) (E : F_s_ActOn P ρ) {p n d : Int} {f g a v : By} :
    CallOK P ρ 168 [.ag [p, n] 1106 f, .ag [d] 513 g, .ag [] 8 a, .ag [] 8 v] [] (.tup [.ag [] 8 (if AQ p n d f g a v then vec 8 p (acV n.toNat d.toNat g a v) else z0), .i .i64 (oc (AQ p n d f g a v) 1)]) [] := by
  refine (CallR.pure (call_of_q B.fn B.mo E.1 rfl (fun _ _ => ?_) rfl) rfl).ok
  refine ⟨_, rfl, ?_⟩
  refine ⟨_, rfl, ?_⟩
  refine ⟨_, rfl, ?_⟩
  refine ⟨_, rfl, ?_⟩
  refine ⟨_, rfl, ?_⟩
  refine .inl ⟨_, _, _, _, rfl, ⟨rfl, by omega⟩, ?_⟩
  refine .inl ⟨_, _, _, _, rfl, ⟨rfl, by omega⟩, ?_⟩
  refine ⟨_, rfl, ?_⟩
  refine ⟨_, s_l06Code1_at B E.2.1 (p := p) (n := n) (d := d) (f := f) (g := g) rfl, ?_⟩
  rintro _ _ ⟨rfl, rfl⟩
  refine ⟨fun h17 => ?_, fun h17 => ?_⟩
  · replace h17 := bne_t h17
    have hq : ¬ AQ p n d f g a v := fun q => h17 (oc_t q.1)
    refine brB_t ?_
    refine brB_t ?_
    refine brB_t ?_
    refine brB_t ?_
    refine brB_t ?_
    refine brB_t ?_
    refine brB_t ?_
    refine brB_t ?_
    refine brB_t ?_
    refine brB_t ?_
    refine brB_t ?_
    refine brB_t ?_
    refine brB_t ?_
    refine brB_t ?_
    refine brB_t ?_
    refine brB_t ?_
    refine ⟨_, _, _, rfl, cputs_by (by simp) (by omega), eqBk_rfl, ?_⟩
    first
      | exact ⟨rfl, _, _, _, _, z0, rfl, ⟨by simp, by omega⟩, fun x hx => by simp [spl, hx, z0], by rw [if_neg hq, oc_f hq]; rfl, Ext.nil⟩
      | exact ⟨rfl, _, _, _, _, vec 8 p (acV n d g a v), rfl, ⟨by simp, by omega⟩, fun x hx => by simp [spl, hx], by rw [if_pos hq, oc_t hq, Int.toNat_natCast, Int.toNat_natCast]; rfl, Ext.nil⟩
  · replace h17 := bne_f h17
    have hI : IQ p n d g f := oc_0 h17
    refine brB_f ?_
    refine ⟨_, _, rfl, rfl, ?_⟩
    refine brB_f ?_
    refine brB_f ?_
    refine ⟨_, _, rfl, rfl, ?_⟩
    refine brB_f ?_
    refine ⟨_, _, _, _, a, rfl, ⟨by simp, by omega⟩, fun x _ => congrArg _ (Nat.zero_add x).symm, ?_⟩
    refine brB_f ?_
    refine ⟨_, s_l01Vector_ok B E.2.2.1 , rfl, ?_⟩
    refine brB_f ?_
    refine brB_f ?_
    refine ⟨fun h26 => ?_, fun h26 => ?_⟩
    · skip
      have hq : ¬ AQ p n d f g a v := fun q => by rw [decide_eq_true q.2.1] at h26; cases h26
      refine brB_t ?_
      refine brB_t ?_
      refine brB_t ?_
      refine brB_t ?_
      refine brB_t ?_
      refine brB_t ?_
      refine brB_t ?_
      refine brB_t ?_
      refine ⟨_, _, _, rfl, cputs_by (by simp) (by omega), eqBk_rfl, ?_⟩
      first
        | exact ⟨rfl, _, _, _, _, z0, rfl, ⟨by simp, by omega⟩, fun x hx => by simp [spl, hx, z0], by rw [if_neg hq, oc_f hq]; rfl, Ext.nil⟩
        | exact ⟨rfl, _, _, _, _, vec 8 p (acV n d g a v), rfl, ⟨by simp, by omega⟩, fun x hx => by simp [spl, hx], by rw [if_pos hq, oc_t hq, Int.toNat_natCast, Int.toNat_natCast]; rfl, Ext.nil⟩
    · skip
      have hA : Vec p n a 0 := by simpa using h26
      refine brB_f ?_
      refine ⟨_, _, rfl, rfl, ?_⟩
      refine brB_f ?_
      refine brB_f ?_
      refine ⟨_, _, rfl, rfl, ?_⟩
      refine brB_f ?_
      refine ⟨_, _, _, _, v, rfl, ⟨by simp, by omega⟩, fun x _ => congrArg _ (Nat.zero_add x).symm, ?_⟩
      refine brB_f ?_
      refine ⟨_, s_l01Vector_ok B E.2.2.1 , rfl, ?_⟩
      refine brB_f ?_
      refine brB_f ?_
      refine ⟨fun h34 => ?_, fun h34 => ?_⟩
      · skip
        have hq : ¬ AQ p n d f g a v := fun q => by rw [decide_eq_true q.2.2] at h34; cases h34
        refine ⟨_, _, _, rfl, cputs_by (by simp) (by omega), eqBk_rfl, ?_⟩
        first
          | exact ⟨rfl, _, _, _, _, z0, rfl, ⟨by simp, by omega⟩, fun x hx => by simp [spl, hx, z0], by rw [if_neg hq, oc_f hq]; rfl, Ext.nil⟩
          | exact ⟨rfl, _, _, _, _, vec 8 p (acV n d g a v), rfl, ⟨by simp, by omega⟩, fun x hx => by simp [spl, hx], by rw [if_pos hq, oc_t hq, Int.toNat_natCast, Int.toNat_natCast]; rfl, Ext.nil⟩
      · skip
        have hq : AQ p n d f g a v := ⟨hI, hA, by simpa using h34⟩
        obtain ⟨n, rfl⟩ : ∃ m : Nat, n = (m : Int) := ⟨n.toNat, by have := hq.1.1.1.1.2.1; omega⟩
        obtain ⟨d, rfl⟩ : ∃ m : Nat, d = (m : Int) := ⟨d.toNat, by have := hq.1.2.1.1.2.1; omega⟩
        have hp2 := hq.1.1.1.1.1.1
        have hp3 := hq.1.1.1.1.1.2.1
        have hn8 : n ≤ 8 := by have := hq.1.1.1.1.2.2; omega
        have hd8 : d ≤ 8 := by have := hq.1.2.1.1.2.2; omega
        refine .inl ⟨_, _, _, _, rfl, ⟨rfl, by omega⟩, ?_⟩
        refine .inl ⟨_, _, _, _, rfl, ⟨rfl, by omega⟩, ?_⟩
        refine ⟨_, _, _, _, a, rfl, ⟨by simp, by omega⟩, fun x _ => congrArg _ (Nat.zero_add x).symm, ?_⟩
        refine ⟨_, _, _, _, v, rfl, ⟨by simp, by omega⟩, fun x _ => congrArg _ (Nat.zero_add x).symm, ?_⟩
        refine ⟨_, s_l06Act_ok B E.2.2.2 (p := p) (n := n) (d := d) (f := f) (g := g) (a := a) (v := v) (by omega) (by omega) hn8 hd8, rfl, ?_⟩
        refine ⟨_, _, _, rfl, cputs_by (by simp) (by omega), eqBk_rfl, ?_⟩
        first
          | exact ⟨rfl, _, _, _, _, z0, rfl, ⟨by simp, by omega⟩, fun x hx => by simp [spl, hx, z0], by rw [if_neg hq, oc_f hq]; rfl, Ext.nil⟩
          | exact ⟨rfl, _, _, _, _, vec 8 p (acV n d g a v), rfl, ⟨by simp, by omega⟩, fun x hx => by simp [spl, hx], by rw [if_pos hq, oc_t hq, Int.toNat_natCast, Int.toNat_natCast]; rfl, Ext.nil⟩

theorem l_FnExactActOn_ok (B : Bs P ρ) (E : F_l_FnExactActOn P ρ) {p n d : Int} {f g a v : By} :
    CallOK P ρ 170 [.ag [p, n] 1106 f, .ag [d] 513 g, .ag [] 8 a, .ag [] 8 v] [] (.one (.b true)) [] := by
  refine (CallR.pure (call_of_q B.fn B.mo E.1 rfl (fun _ _ => ?_) rfl) rfl).ok
  refine ⟨_, rfl, ?_⟩
  refine ⟨_, rfl, ?_⟩
  refine ⟨_, rfl, ?_⟩
  refine ⟨_, rfl, ?_⟩
  refine .inl ⟨_, _, _, _, rfl, ⟨rfl, by omega⟩, ?_⟩
  refine ⟨_, l_toHopf_ok B E.2.1 , rfl, ?_⟩
  refine .inl ⟨_, _, _, _, rfl, ⟨rfl, by omega⟩, ?_⟩
  refine ⟨_, l_toModule_ok B E.2.2.1 , rfl, ?_⟩
  refine ⟨_, _, _, _, a, rfl, ⟨by simp, by omega⟩, fun x _ => congrArg _ (Nat.zero_add x).symm, ?_⟩
  refine ⟨_, l_toVector_ok B E.2.2.2.1 , rfl, ?_⟩
  refine ⟨_, _, _, _, v, rfl, ⟨by simp, by omega⟩, fun x _ => congrArg _ (Nat.zero_add x).symm, ?_⟩
  refine ⟨_, l_toVector_ok B E.2.2.2.1 , rfl, ?_⟩
  refine ⟨_, s_ActOn_ok B E.2.2.2.2.1 (p := p) (n := n) (d := d) (f := f) (g := g) (a := a) (v := v), rfl, ?_⟩
  refine ⟨_, rfl, ?_⟩
  refine ⟨⟨rfl, rfl, rfl, rfl, trivial⟩, ?_⟩
  refine ⟨_, _, _, rfl, cputs_by (by simp) (by omega), eqBk_rfl, ?_⟩
  refine .inl ⟨_, _, _, _, rfl, ⟨rfl, by omega⟩, ?_⟩
  refine ⟨_, l_toHopf_ok B E.2.1 , rfl, ?_⟩
  refine .inl ⟨_, _, _, _, rfl, ⟨rfl, by omega⟩, ?_⟩
  refine ⟨_, l_toModule_ok B E.2.2.1 , rfl, ?_⟩
  refine ⟨_, _, _, _, a, rfl, ⟨by simp, by omega⟩, fun x _ => congrArg _ (Nat.zero_add x).symm, ?_⟩
  refine ⟨_, l_toVector_ok B E.2.2.2.1 , rfl, ?_⟩
  refine ⟨_, _, _, _, v, rfl, ⟨by simp, by omega⟩, fun x _ => congrArg _ (Nat.zero_add x).symm, ?_⟩
  refine ⟨_, l_toVector_ok B E.2.2.2.1 , rfl, ?_⟩
  refine ⟨_, i_ActOn_ok B E.2.2.2.2.2.1 (p := p) (n := n) (d := d) (f := f) (g := g) (a := a) (v := v), rfl, ?_⟩
  refine ⟨_, rfl, ?_⟩
  refine ⟨⟨rfl, rfl, rfl, rfl, trivial⟩, ?_⟩
  refine ⟨_, _, _, rfl, cputs_by (by simp) (by omega), eqBk_rfl, ?_⟩
  refine ⟨_, _, _, _, _, rfl, ⟨by simp, by omega⟩, fun _ _ => rfl, ?_⟩
  refine ⟨_, _, _, _, _, rfl, ⟨by simp, by omega⟩, fun _ _ => rfl, ?_⟩
  refine ⟨_, l_eqVector_ok B E.2.2.2.2.2.2 , rfl, ?_⟩
  refine brB_f ?_
  refine brB_f ?_
  refine brB_f ?_
  refine brB_f ?_
  refine brB_f' (by simp) ?_
  exact ⟨rfl, rfl, Ext.nil⟩

end Hf
