/- Contracts of the functions that the law reaches. -/
import Derived.Test.YtnfgffimhflnbaaGreatC1
set_option linter.unusedVariables false
set_option linter.unusedSimpArgs false
namespace Hf
open Go Classical
variable {P : Program} {ρ : Nat → FuncId}
theorem byt_mod_inj {p a b : Int} (hp : 1 ≤ p) (hp2 : p ≤ 256) (h : byt (a % p) = byt (b % p)) : a % p = b % p := by
  have h1 := byt_toNat (a % p)
  have h2 := byt_toNat (b % p)
  rw [h] at h1
  have := Int.emod_nonneg a (show p ≠ 0 by omega)
  have := Int.emod_lt_of_pos a (show 0 < p by omega)
  have := Int.emod_nonneg b (show p ≠ 0 by omega)
  have := Int.emod_lt_of_pos b (show 0 < p by omega)
  omega

theorem s_l02Sums_ok (B : Bs P ρ) (E : E_s_l02Sums P ρ) {n : Nat} {p : Int} {f : By} {i j k l : Nat} (hp : 1 ≤ p) (hp2 : p ≤ 256) (hn : n ≤ 8) (hi : i < 8) (hj : j < 8) (hk : k < 8) (hl : l < 8) :
    CallOK P ρ 115 [.ag [p, (n : Int)] 522 f, .i .i64 (i : Int), .i .i64 (j : Int), .i .i64 (k : Int), .i .i64 (l : Int)] [] (.tup [.u (byt (coL n f i j k l % p)), .u (byt (coR n f i j k l % p))]) [] := by
  refine call_of_vc B.fn B.mo E.1 rfl rfl ?_
  refine ⟨0, rfl, ?_⟩   -- .box 5
  refine ⟨(fun a1 a2 a3 a4 b0 i0 => St.mk [(1, a1), (2, a2), (3, a3), (4, a4), (5, .one (.pt 0 0)), (12, .one (.i .i64 (coL i0 f i j k l))), (13, .one (.i .i64 (coR i0 f i j k l))), (14, .one (.i .i64 ((i0 : Nat) : Int)))] [b0]) _ _ _ _ _ , fun i0 => True, n, trivial, ⟨⟨rfl, rfl, rfl, rfl, rfl, rfl, rfl, rfl, trivial⟩, ⟨rfl, trivial⟩, rfl⟩, fun i0 hi0 _ => ?_⟩
  have q1 := bz2 f f (10 + i * 64 + i0 * 8 + l) (10 + i0 * 64 + j * 8 + k)
  have q2 := bz2 f f (10 + i * 64 + j * 8 + i0) (10 + i0 * 64 + k * 8 + l)
  have q3 := coL_bd (m := i0) (f := f) (i := i) (j := j) (k := k) (l := l)
  have q4 := coR_bd (m := i0) (f := f) (i := i) (j := j) (k := k) (l := l)
  refine ⟨fun h18 => ?_, fun h18 => ?_⟩
  · replace h18 := of_decide_eq_true h18
    refine ⟨i, 10 + i * 64, rfl, by omega, by omega, ?_⟩   -- 26
    refine ⟨i0, 10 + i * 64 + i0 * 8, rfl, by omega, by omega, ?_⟩   -- 27
    refine ⟨l, 10 + i * 64 + i0 * 8 + l, rfl, by omega, by omega, ?_⟩   -- 28
    refine ⟨⟨by first | omega | (simp <;> omega), by first | omega | (simp <;> omega)⟩, ?_⟩   -- 29 := ld8 ['.t', 28]
    refine ⟨i0, 10 + i0 * 64, rfl, by omega, by omega, ?_⟩   -- 35
    refine ⟨j, 10 + i0 * 64 + j * 8, rfl, by omega, by omega, ?_⟩   -- 36
    refine ⟨k, 10 + i0 * 64 + j * 8 + k, rfl, by omega, by omega, ?_⟩   -- 37
    refine ⟨⟨by first | omega | (simp <;> omega), by first | omega | (simp <;> omega)⟩, ?_⟩   -- 38 := ld8 ['.t', 37]
    refine ⟨bz f (10 + i * 64 + i0 * 8 + l) * bz f (10 + i0 * 64 + j * 8 + k), w64_id (bz f (10 + i * 64 + i0 * 8 + l) * bz f (10 + i0 * 64 + j * 8 + k)) (by omega) (by omega), ?_⟩
    refine ⟨coL i0 f i j k l + bz f (10 + i * 64 + i0 * 8 + l) * bz f (10 + i0 * 64 + j * 8 + k), w64_id (coL i0 f i j k l + bz f (10 + i * 64 + i0 * 8 + l) * bz f (10 + i0 * 64 + j * 8 + k)) (by omega) (by omega), ?_⟩
    refine ⟨i, 10 + i * 64, rfl, by omega, by omega, ?_⟩   -- 47
    refine ⟨j, 10 + i * 64 + j * 8, rfl, by omega, by omega, ?_⟩   -- 48
    refine ⟨i0, 10 + i * 64 + j * 8 + i0, rfl, by omega, by omega, ?_⟩   -- 49
    refine ⟨⟨by first | omega | (simp <;> omega), by first | omega | (simp <;> omega)⟩, ?_⟩   -- 50 := ld8 ['.t', 49]
    refine ⟨i0, 10 + i0 * 64, rfl, by omega, by omega, ?_⟩   -- 56
    refine ⟨k, 10 + i0 * 64 + k * 8, rfl, by omega, by omega, ?_⟩   -- 57
    refine ⟨l, 10 + i0 * 64 + k * 8 + l, rfl, by omega, by omega, ?_⟩   -- 58
    refine ⟨⟨by first | omega | (simp <;> omega), by first | omega | (simp <;> omega)⟩, ?_⟩   -- 59 := ld8 ['.t', 58]
    refine ⟨bz f (10 + i * 64 + j * 8 + i0) * bz f (10 + i0 * 64 + k * 8 + l), w64_id (bz f (10 + i * 64 + j * 8 + i0) * bz f (10 + i0 * 64 + k * 8 + l)) (by omega) (by omega), ?_⟩
    refine ⟨coR i0 f i j k l + bz f (10 + i * 64 + j * 8 + i0) * bz f (10 + i0 * 64 + k * 8 + l), w64_id (coR i0 f i j k l + bz f (10 + i * 64 + j * 8 + i0) * bz f (10 + i0 * 64 + k * 8 + l)) (by omega) (by omega), ?_⟩
    refine ⟨((i0 + 1 : Nat) : Int), w64_id _ (by omega) (by omega), ?_⟩   -- 20
    exact ⟨by omega, trivial, ⟨rfl, rfl, rfl, rfl, rfl, rfl, rfl, rfl, trivial⟩, ⟨rfl, trivial⟩, rfl⟩
  · replace h18 := of_decide_eq_false h18
    have e0 : n = i0 := by omega
    subst e0
    refine ⟨1, [], _, _, _, _, [_], rfl, s_l01Mod_ok B E.2 hp (by omega), rfl, trivial, rfl, rfl, rfl, ?_⟩   -- 66
    refine ⟨1, [], _, _, _, _, [_], rfl, s_l01Mod_ok B E.2 hp (by omega), rfl, trivial, rfl, rfl, ?_⟩   -- 70
    exact ⟨rfl, [], rfl, rfl, trivial, rfl, rfl⟩

theorem s_l02Fault_t_ok (B : Bs P ρ) (E : E_s_l02Fault P ρ) {n : Nat} {p : Int} {f : By} (hp : 1 ≤ p) (hp2 : p ≤ 256) (hn : n ≤ 8) (hA : ∀ t : Nat, t < n * n * n * n → CoaT p n f t) :
    CallOK P ρ 99 [.ag [p, (n : Int)] 522 f] [] (.tup [.sn, .b false]) [] := by
  refine call_of_vc B.fn B.mo E.1 rfl rfl ?_
  have hpw := pw hn
  refine ⟨0, rfl, ?_⟩   -- .box 1
  refine ⟨(fun a4 b0 i0 => St.mk [(1, .one (.pt 0 0)), (4, a4), (5, .one (.i .i64 ((i0 : Nat) : Int)))] [b0]) _ _ , fun i0 => True, n * n * n * n, trivial, ⟨⟨rfl, rfl, rfl, trivial⟩, ⟨rfl, trivial⟩, rfl⟩, fun i0 hi0 _ => ?_⟩
  refine ⟨((n * n : Nat) : Int), ml (by omega), ?_⟩
  refine ⟨((n * n * n : Nat) : Int), ml (by omega), ?_⟩
  refine ⟨((n * n * n * n : Nat) : Int), ml (by omega), ?_⟩
  refine ⟨fun h22 => ?_, fun h22 => ?_⟩
  · replace h22 := of_decide_eq_true h22
    have hlt : i0 < n * n * n * n := by omega
    have hd := dig hlt
    refine ⟨((n * n : Nat) : Int), ml (by omega), ?_⟩
    refine ⟨((n * n * n : Nat) : Int), ml (by omega), ?_⟩
    refine ⟨by have : n * n * n ≠ 0 := Nat.ne_of_gt (Nat.mul_pos (Nat.mul_pos hd.1 hd.1) hd.1); omega, ((i0 / (n * n * n) : Nat) : Int), qd (by omega), ?_⟩
    refine ⟨((n * n : Nat) : Int), ml (by omega), ?_⟩
    refine ⟨by have : n * n ≠ 0 := Nat.ne_of_gt (Nat.mul_pos hd.1 hd.1); omega, ((i0 / (n * n) : Nat) : Int), qd (by omega), ?_⟩
    refine ⟨by omega, ((i0 / (n * n) % n : Nat) : Int), rm, ?_⟩
    refine ⟨by omega, ((i0 / n : Nat) : Int), qd (by omega), ?_⟩
    refine ⟨by omega, ((i0 / n % n : Nat) : Int), rm, ?_⟩
    refine ⟨by omega, ((i0 % n : Nat) : Int), rm, ?_⟩
    refine ⟨1, [], _, _, _, _, [_], rfl, s_l02Sums_ok B E.2 hp hp2 hn (i := i0 / (n * n * n)) (j := i0 / (n * n) % n) (k := i0 / n % n) (l := i0 % n) (by omega) (by omega) (by omega) (by omega), rfl, trivial, rfl, rfl, ?_⟩   -- 53
    refine ⟨fun h58 => ?_, fun h58 => ?_⟩
    · replace h58 := bne_t h58
      exact (h58 (congrArg byt (hA i0 hlt))).elim
    · replace h58 := bne_f h58
      refine ⟨((i0 + 1 : Nat) : Int), w64_id _ (by omega) (by omega), ?_⟩   -- 24
      exact ⟨by omega, trivial, ⟨rfl, rfl, rfl, trivial⟩, ⟨rfl, trivial⟩, rfl⟩
  · replace h22 := of_decide_eq_false h22
    have e0 : n * n * n * n = i0 := by omega
    exact ⟨rfl, [], rfl, rfl, trivial, rfl, rfl⟩

theorem s_l02Fault_f_ok (B : Bs P ρ) (E : E_s_l02Fault P ρ) {n : Nat} {p : Int} {f : By} {a : Nat} (hp : 1 ≤ p) (hp2 : p ≤ 256) (hn : n ≤ 8) (ha : a < n * n * n * n) (hA : ¬ CoaT p n f a) (hL : ∀ t, t < a → CoaT p n f t) :
    CallOK P ρ 99 [.ag [p, (n : Int)] 522 f] [] (.tup [.sl 0 0 4 4, .b true]) [⟨false, .rw [.i .i64 ((a / (n * n * n) : Nat) : Int), .i .i64 ((a / (n * n) % n : Nat) : Int), .i .i64 ((a / n % n : Nat) : Int), .i .i64 ((a % n : Nat) : Int)]⟩] := by
  refine call_of_vc B.fn B.mo E.1 rfl rfl ?_
  have hpw := pw hn
  refine ⟨0, rfl, ?_⟩   -- .box 1
  refine ⟨(fun a4 b0 i0 => St.mk [(1, .one (.pt 0 0)), (4, a4), (5, .one (.i .i64 ((i0 : Nat) : Int)))] [b0]) _ _ , fun i0 => ∀ t, t < i0 → CoaT p n f t, n * n * n * n, fun _ _ => by omega, ⟨⟨rfl, rfl, rfl, trivial⟩, ⟨rfl, trivial⟩, rfl⟩, fun i0 hi0 hF0 => ?_⟩
  refine ⟨((n * n : Nat) : Int), ml (by omega), ?_⟩
  refine ⟨((n * n * n : Nat) : Int), ml (by omega), ?_⟩
  refine ⟨((n * n * n * n : Nat) : Int), ml (by omega), ?_⟩
  refine ⟨fun h22 => ?_, fun h22 => ?_⟩
  · replace h22 := of_decide_eq_true h22
    have hlt : i0 < n * n * n * n := by omega
    have hd := dig hlt
    refine ⟨((n * n : Nat) : Int), ml (by omega), ?_⟩
    refine ⟨((n * n * n : Nat) : Int), ml (by omega), ?_⟩
    refine ⟨by have : n * n * n ≠ 0 := Nat.ne_of_gt (Nat.mul_pos (Nat.mul_pos hd.1 hd.1) hd.1); omega, ((i0 / (n * n * n) : Nat) : Int), qd (by omega), ?_⟩
    refine ⟨((n * n : Nat) : Int), ml (by omega), ?_⟩
    refine ⟨by have : n * n ≠ 0 := Nat.ne_of_gt (Nat.mul_pos hd.1 hd.1); omega, ((i0 / (n * n) : Nat) : Int), qd (by omega), ?_⟩
    refine ⟨by omega, ((i0 / (n * n) % n : Nat) : Int), rm, ?_⟩
    refine ⟨by omega, ((i0 / n : Nat) : Int), qd (by omega), ?_⟩
    refine ⟨by omega, ((i0 / n % n : Nat) : Int), rm, ?_⟩
    refine ⟨by omega, ((i0 % n : Nat) : Int), rm, ?_⟩
    refine ⟨1, [], _, _, _, _, [_], rfl, s_l02Sums_ok B E.2 hp hp2 hn (i := i0 / (n * n * n)) (j := i0 / (n * n) % n) (k := i0 / n % n) (l := i0 % n) (by omega) (by omega) (by omega) (by omega), rfl, trivial, rfl, rfl, ?_⟩   -- 53
    refine ⟨fun h58 => ?_, fun h58 => ?_⟩
    · replace h58 := bne_t h58
      have q : ¬ CoaT p n f i0 := fun q => h58 (congrArg byt q)
      have e : i0 = a := by
        rcases Nat.lt_trichotomy i0 a with e | e | e
        · exact (q (hL i0 e)).elim
        · exact e
        · exact (hA (hF0 a e)).elim
      refine ⟨1, rfl, ?_⟩   -- .bsa 63
      refine ⟨rfl, [1], rfl, rfl, ⟨?_, trivial⟩, rfl, rfl⟩
      show some (Blk.mk false (.rw [.i .i64 ((i0 / (n * n * n) : Nat) : Int), .i .i64 ((i0 / (n * n) % n : Nat) : Int), .i .i64 ((i0 / n % n : Nat) : Int), .i .i64 ((i0 % n : Nat) : Int)])) = some (Blk.mk false (.rw [.i .i64 ((a / (n * n * n) : Nat) : Int), .i .i64 ((a / (n * n) % n : Nat) : Int), .i .i64 ((a / n % n : Nat) : Int), .i .i64 ((a % n : Nat) : Int)]))
      rw [e]
    · replace h58 := bne_f h58
      have q : CoaT p n f i0 := byt_mod_inj hp hp2 h58
      refine ⟨((i0 + 1 : Nat) : Int), w64_id _ (by omega) (by omega), ?_⟩   -- 24
      refine ⟨by omega, ?_, ⟨rfl, rfl, rfl, trivial⟩, ⟨rfl, trivial⟩, rfl⟩
      intro t ht
      by_cases e : t = i0
      · rw [e]; exact q
      · exact hF0 t (by omega)
  · replace h22 := of_decide_eq_false h22
    have e0 : n * n * n * n = i0 := by omega
    exact (hA (hF0 a (by omega))).elim

theorem s_l02Counits_ok (B : Bs P ρ) (E : E_s_l02Counits P ρ) {n : Nat} {p : Int} {f : By} (hp : 1 ≤ p) (hp2 : p ≤ 256) (hn : n ≤ 8) :
    CallOK P ρ 100 [.ag [p, (n : Int)] 522 f] [] (.one (.b (decide (∀ i, i < n → Cou p n f i)))) [] := by
  refine call_of_vc B.fn B.mo E.1 rfl rfl ?_
  refine ⟨0, rfl, ?_⟩   -- .box 1
  refine ⟨(fun b0 i0 => St.mk [(1, .one (.pt 0 0)), (3, .one (.i .i64 ((i0 : Nat) : Int)))] [b0]) _ , fun i0 => ∀ i, i < i0 → Cou p n f i, n, fun _ _ => by omega, ⟨⟨rfl, rfl, trivial⟩, ⟨rfl, trivial⟩, rfl⟩, fun i0 hi0 hF0 => ?_⟩
  refine ⟨fun h12 => ?_, fun h12 => ?_⟩
  · replace h12 := of_decide_eq_true h12
    refine ⟨1, rfl, ?_⟩   -- .alo 4
    refine ⟨2, rfl, ?_⟩   -- .alo 5
    refine ⟨⟨rfl, by first | omega | (simp <;> omega), by first | omega | (simp <;> omega)⟩, ?_⟩   -- sta ['.t', 4] ['.t', 15] 8
    refine ⟨⟨rfl, by first | omega | (simp <;> omega), by first | omega | (simp <;> omega)⟩, ?_⟩   -- sta ['.t', 5] ['.t', 16] 8
    refine ⟨(fun a3 b0 i1 => St.mk [(1, .one (.pt 0 0)), (3, a3), (4, .one (.pt 1 0)), (5, .one (.pt 2 0)), (6, .one (.i .i64 ((i1 : Nat) : Int)))] [b0, Blk.mk false (.by [] 8 (vec 8 p fun x => cuL i1 f i0 x)), Blk.mk false (.by [] 8 (vec i1 p (cuR n f i0)))]) _ _ , fun i1 => True, n, trivial, ⟨⟨rfl, rfl, rfl, rfl, rfl, trivial⟩, ⟨rfl, ?_, ?_, trivial⟩, rfl⟩, fun i1 hi1 _ => ?_⟩
    · refine blk_by ?_
      rw [z_sta]
      exact vec_0.symm
    · refine blk_by ?_
      rw [z_sta]
      rfl
    have q0 := bz_nn f (2 + i1)
    have q1 := bz_le f (2 + i1)
    refine ⟨fun h20 => ?_, fun h20 => ?_⟩
    · replace h20 := of_decide_eq_true h20
      refine ⟨⟨by first | omega | (simp <;> omega), by first | omega | (simp <;> omega)⟩, ?_⟩   -- 25 := lda [['.t', 4], 0, 8]
      refine ⟨i0, 10 + i0 * 64, rfl, by omega, by omega, ?_⟩   -- 29
      refine ⟨i1, 10 + i0 * 64 + i1 * 8, rfl, by omega, by omega, ?_⟩   -- 30
      refine ⟨⟨by first | omega | (simp <;> omega), by first | omega | (simp <;> omega)⟩, ?_⟩   -- 31 := lda [['.t', 30], 0, 8]
      refine ⟨i1, 2 + i1, rfl, by omega, by omega, ?_⟩   -- 34
      refine ⟨⟨by first | omega | (simp <;> omega), by first | omega | (simp <;> omega)⟩, ?_⟩   -- 35 := ld8 ['.t', 34]
      refine ⟨3, [], _, _, _, _, [_, _, _], rfl, s_l01Add_ok B E.2.1 (k := bz f (2 + i1)) hp (by omega) (by omega) (by omega), rfl, trivial, rfl, rfl, ?_⟩   -- 37
      refine ⟨⟨rfl, by first | omega | (simp <;> omega), by first | omega | (simp <;> omega)⟩, ?_⟩   -- sta ['.t', 4] ['.t', 37] 8
      refine ⟨(fun a3 a6 b0 b1 b2 i2 => St.mk [(1, .one (.pt 0 0)), (3, a3), (4, .one (.pt 1 0)), (5, .one (.pt 2 0)), (6, a6), (7, .one (.i .i64 (cuR i2 f i0 i1))), (8, .one (.i .i64 ((i2 : Nat) : Int)))] [b0, b1, b2]) _ _ _ _ _ , fun i2 => True, n, trivial, ⟨⟨rfl, rfl, rfl, rfl, rfl, rfl, rfl, trivial⟩, ⟨rfl, rfl, rfl, trivial⟩, rfl⟩, fun i2 hi2 _ => ?_⟩
      have q2 := bz2 f f (2 + i2) (10 + i0 * 64 + i1 * 8 + i2)
      have q3 := sm_bd (n := i2) (x := fun k => bz f (2 + k) * bz f (10 + i0 * 64 + i1 * 8 + k)) (A := 65025) fun k _ => bz2 f f _ _
      have q4 : sm i2 (fun k => bz f (2 + k) * bz f (10 + i0 * 64 + i1 * 8 + k)) = cuR i2 f i0 i1 := rfl
      refine ⟨fun h41 => ?_, fun h41 => ?_⟩
      · replace h41 := of_decide_eq_true h41
        refine ⟨i2, 2 + i2, rfl, by omega, by omega, ?_⟩   -- 47
        refine ⟨⟨by first | omega | (simp <;> omega), by first | omega | (simp <;> omega)⟩, ?_⟩   -- 48 := ld8 ['.t', 47]
        refine ⟨i0, 10 + i0 * 64, rfl, by omega, by omega, ?_⟩   -- 54
        refine ⟨i1, 10 + i0 * 64 + i1 * 8, rfl, by omega, by omega, ?_⟩   -- 55
        refine ⟨i2, 10 + i0 * 64 + i1 * 8 + i2, rfl, by omega, by omega, ?_⟩   -- 56
        refine ⟨⟨by first | omega | (simp <;> omega), by first | omega | (simp <;> omega)⟩, ?_⟩   -- 57 := ld8 ['.t', 56]
        refine ⟨bz f (2 + i2) * bz f (10 + i0 * 64 + i1 * 8 + i2), w64_id (bz f (2 + i2) * bz f (10 + i0 * 64 + i1 * 8 + i2)) (by omega) (by omega), ?_⟩
        refine ⟨cuR i2 f i0 i1 + bz f (2 + i2) * bz f (10 + i0 * 64 + i1 * 8 + i2), w64_id (cuR i2 f i0 i1 + bz f (2 + i2) * bz f (10 + i0 * 64 + i1 * 8 + i2)) (by omega) (by omega), ?_⟩
        refine ⟨((i2 + 1 : Nat) : Int), w64_id _ (by omega) (by omega), ?_⟩   -- 43
        exact ⟨by omega, trivial, ⟨rfl, rfl, rfl, rfl, rfl, rfl, rfl, trivial⟩, ⟨rfl, rfl, rfl, trivial⟩, rfl⟩
      · replace h41 := of_decide_eq_false h41
        have e2 : n = i2 := by omega
        subst e2
        refine ⟨3, [], _, _, _, _, [_, _, _], rfl, s_l01Mod_ok B E.2.2.1 hp (by omega), rfl, trivial, rfl, rfl, ?_⟩   -- 65
        refine ⟨i1, i1, rfl, by omega, by omega, ?_⟩   -- 66
        refine ⟨⟨by first | omega | (simp <;> omega), by first | omega | (simp <;> omega)⟩, ?_⟩   -- st8 ['.t', 66] ['.t', 65]
        refine ⟨((i1 + 1 : Nat) : Int), w64_id _ (by omega) (by omega), ?_⟩   -- 22
        refine ⟨by omega, trivial, ⟨rfl, rfl, rfl, rfl, rfl, trivial⟩, ⟨rfl, ?_, ?_, trivial⟩, rfl⟩
        · refine blk_by ?_
          rw [spl_plsN, pl_vec0 hp hp2]
          exact vec_congr fun y _ => cg_of_eq rfl
        · exact blk_by (upd_vec rfl).symm
    · replace h20 := of_decide_eq_false h20
      have e1 : n = i1 := by omega
      subst e1
      refine ⟨⟨by first | omega | (simp <;> omega), by first | omega | (simp <;> omega)⟩, ?_⟩   -- 67 := lda [['.t', 4], 0, 8]
      refine ⟨3, [], _, _, _, _, [_, _, _], rfl, s_l01Basis_ok B E.2.2.2 (i := i0) (by omega), rfl, trivial, rfl, rfl, rfl, ?_⟩   -- 69
      refine ⟨fun h71 => ?_, fun h71 => ?_⟩
      · skip
        have z61 := neB_t h71
        rw [sh_zero] at z61
        refine brB_t ?_
        refine brB_t ?_
        refine brB_t ?_
        refine brB_t ?_
        refine brB_t ?_
        refine ⟨rfl, [], ?_, rfl, trivial, rfl, rfl⟩
        exact one_b (dec_f fun q => z61 fun x _ => congrFun (q i0 (by omega)).1 x)
      · skip
        have z61 := neB_f h71
        rw [sh_zero] at z61
        refine ⟨⟨by first | omega | (simp <;> omega), by first | omega | (simp <;> omega)⟩, ?_⟩   -- 72 := lda [['.t', 5], 0, 8]
        refine brB_f ?_
        refine brB_f ?_
        refine ⟨3, [], _, _, _, _, [_, _, _], rfl, s_l01Basis_ok B E.2.2.2 (i := i0) (by omega), rfl, trivial, rfl, rfl, rfl, ?_⟩   -- 74
        refine brB_f ?_
        refine brB_f ?_
        refine ⟨fun h76 => ?_, fun h76 => ?_⟩
        · skip
          have z66 := neB_t h76
          rw [sh_zero] at z66
          refine ⟨rfl, [], ?_, rfl, trivial, rfl, rfl⟩
          exact one_b (dec_f fun q => z66 fun x _ => congrFun (q i0 (by omega)).2 x)
        · skip
          have z66 := neB_f h76
          rw [sh_zero] at z66
          refine ⟨((i0 + 1 : Nat) : Int), w64_id _ (by omega) (by omega), ?_⟩   -- 14
          refine ⟨by omega, ?_, ⟨rfl, rfl, trivial⟩, ⟨rfl, trivial⟩, rfl⟩
          intro k hk
          by_cases e : k = i0
          · subst e
            refine ⟨vec_ext (bas_out (by omega)) z61, ?_⟩
            funext x
            by_cases hx : x < 8
            · exact z66 x hx
            · rw [vec_out (by omega), bas_out (by omega) x (by omega)]
          · exact hF0 k (by omega)
  · replace h12 := of_decide_eq_false h12
    have e0 : n = i0 := by omega
    subst e0
    refine ⟨rfl, [], ?_, rfl, trivial, rfl, rfl⟩
    exact one_b (dec_t hF0)

theorem s_l02Is_s_ok (B : Bs P ρ) (E : E_s_l02Is P ρ) {n : Int} {p : Int} {f : By} (hS : ¬ CShp p n f) :
    CallOK P ρ 77 [.ag [p, n] 522 f] [] (.one (.b false)) [] := by
  refine call_of_vc B.fn B.mo E.1 rfl rfl ?_
  refine ⟨0, rfl, ?_⟩   -- .box 1
  refine ⟨1, [], _, _, _, _, [_], rfl, s_l02Shape_ok B E.2.1 , rfl, trivial, rfl, rfl, ?_⟩   -- 6
  refine ⟨fun h7 => ?_, fun h7 => ?_⟩
  · skip
    exact ⟨rfl, [], rfl, rfl, trivial, rfl, rfl⟩
  · skip
    exact (hS (dec_elim_t (not_f h7))).elim

theorem s_l02Is_t_ok (B : Bs P ρ) (E : E_s_l02Is P ρ) {n : Nat} {p : Int} {f : By} (hS : CShp p n f) (hA : ∀ t : Nat, t < n * n * n * n → CoaT p n f t) :
    CallOK P ρ 77 [.ag [p, (n : Int)] 522 f] [] (.one (.b (decide (∀ i, i < n → Cou p n f i)))) [] := by
  refine call_of_vc B.fn B.mo E.1 rfl rfl ?_
  have hb := AShp.p1 hS
  refine ⟨0, rfl, ?_⟩   -- .box 1
  refine ⟨1, [], _, _, _, _, [_], rfl, s_l02Shape_ok B E.2.1 , rfl, trivial, rfl, rfl, ?_⟩   -- 6
  refine ⟨fun h7 => ?_, fun h7 => ?_⟩
  · skip
    exact (dec_elim_t' (not_t h7) hS).elim
  · skip
    refine ⟨1, [], _, _, _, _, [_], rfl, s_l02Fault_t_ok B E.2.2.1 (by omega) (by omega) (by omega) hA, rfl, trivial, rfl, rfl, ?_⟩   -- 10
    refine ⟨fun h15 => ?_, fun h15 => ?_⟩
    · skip
      refine brB_t ?_
      refine ⟨1, [], _, _, _, _, [_], rfl, s_l02Counits_ok B E.2.2.2 (by omega) (by omega) (by omega), rfl, trivial, rfl, rfl, ?_⟩   -- 17
      refine brB_t ?_
      exact ⟨rfl, [], rfl, rfl, trivial, rfl, rfl⟩
    · skip
      exact absurd h15 (by decide)

theorem s_l02Is_f_ok (B : Bs P ρ) (E : E_s_l02Is P ρ) {n : Nat} {p : Int} {f : By} {a : Nat} (hS : CShp p n f) (ha : a < n * n * n * n) (hA : ¬ CoaT p n f a) (hL : ∀ t, t < a → CoaT p n f t) :
    CallOK P ρ 77 [.ag [p, (n : Int)] 522 f] [] (.one (.b false)) [] := by
  refine call_of_vc B.fn B.mo E.1 rfl rfl ?_
  have hb := AShp.p1 hS
  refine ⟨0, rfl, ?_⟩   -- .box 1
  refine ⟨1, [], _, _, _, _, [_], rfl, s_l02Shape_ok B E.2.1 , rfl, trivial, rfl, rfl, ?_⟩   -- 6
  refine ⟨fun h7 => ?_, fun h7 => ?_⟩
  · skip
    exact (dec_elim_t' (not_t h7) hS).elim
  · skip
    refine ⟨1, [], _, _, _, _, [_, _], rfl, s_l02Fault_f_ok B E.2.2.1 (by omega) (by omega) (by omega) ha hA hL, rfl, trivial, rfl, rfl, ?_⟩   -- 10
    refine ⟨fun h15 => ?_, fun h15 => ?_⟩
    · skip
      exact absurd h15 (by decide)
    · skip
      refine brB_f ?_
      refine brB_f ?_
      exact ⟨rfl, [], rfl, rfl, trivial, rfl, rfl⟩

theorem s_l02Is_ok (B : Bs P ρ) (E : E_s_l02Is P ρ) {n : Int} {p : Int} {f : By} :
    CallOK P ρ 77 [.ag [p, n] 522 f] [] (.one (.b (decide (Cog p n f)))) [] := by
  by_cases hS : CShp p n f
  · obtain ⟨m, rfl⟩ : ∃ m : Nat, n = (m : Int) := ⟨n.toNat, by have := hS.1.2.1; omega⟩
    by_cases hA : ∀ t : Nat, t < m * m * m * m → CoaT p m f t
    · have e : decide (Cog p m f) = decide (∀ i, i < m → Cou p m f i) :=
        decide_eq_decide.2 ⟨fun q i hi => q.2.1 i (by omega), fun q => ⟨hS, fun i hi => q i (by omega), hA⟩⟩
      rw [e]; exact s_l02Is_t_ok B E hS hA
    · rw [decide_eq_false fun q : Cog p m f => hA q.2.2]
      obtain ⟨a, ⟨h1, h2⟩, h3⟩ := least (q := fun t => t < m * m * m * m ∧ ¬ CoaT p m f t) (by
        simp only [Classical.not_forall] at hA
        obtain ⟨t, ht, h⟩ := hA
        exact ⟨t, ht, h⟩)
      exact s_l02Is_f_ok B E hS h1 h2 fun t ht => Classical.byContradiction fun q => h3 t ht ⟨by omega, q⟩
  · rw [decide_eq_false fun q : Cog p n f => hS q.1]
    exact s_l02Is_s_ok B E hS
end Hf
namespace Hf
open Go Classical
variable {P : Program} {ρ : Nat → FuncId}
theorem bz_own {f g : By} {y : Nat} (h : y < 8) : bz (sh (spl f 0 8 g) 0) y = bz g y := by
  rw [sh_zero]; simp only [bz, spl]; rw [if_pos (by omega)]; rfl
theorem ctu_bd {n : Nat} {f v : By} : 0 ≤ ctu n f v ∧ ctu n f v ≤ n * 65025 := sm_bd fun k _ => bz2 f v _ _

theorem s_l01Zero_ok (B : Bs P ρ) (E : E_s_l01Zero P ρ) {v : By} :
    CallOK P ρ 101 [.ag [] 8 v] [] (.one (.b (eqB 8 v fun _ => 0))) [] := by
  refine call_of_vc B.fn B.mo E rfl rfl ?_
  refine ⟨0, rfl, ?_⟩   -- .box 1
  refine ⟨⟨by first | omega | (simp <;> omega), by first | omega | (simp <;> omega)⟩, ?_⟩   -- 3 := lda [['.t', 1], 0, 8]
  exact ⟨rfl, [], rfl, rfl, trivial, rfl, rfl⟩

theorem s_l03Coproduct_ok (B : Bs P ρ) (E : E_s_l03Coproduct P ρ) {n : Nat} {p : Int} {f v : By} (hp : 1 ≤ p) (hp2 : p ≤ 256) (hn : n ≤ 8) :
    CallOK P ρ 54 [.ag [p, (n : Int)] 1106 f, .ag [] 8 v] [] (.one (.ag [] 64 (vec 64 p (cop n f 530 v)))) [] := by
  refine call_of_vc B.fn B.mo E.1 rfl rfl ?_
  refine ⟨0, rfl, ?_⟩   -- .box 2
  refine ⟨1, rfl, ?_⟩   -- .box 3
  refine ⟨2, rfl, ?_⟩   -- .alo 4
  refine ⟨3, rfl, ?_⟩   -- .alo 5
  refine ⟨⟨rfl, by first | omega | (simp <;> omega), by first | omega | (simp <;> omega)⟩, ?_⟩   -- sta ['.t', 5] ['.t', 8] 64
  refine ⟨(fun b0 b1 b2 i0 => St.mk [(2, .one (.pt 0 0)), (3, .one (.pt 1 0)), (4, .one (.pt 2 0)), (5, .one (.pt 3 0)), (6, .one (.i .i64 ((i0 : Nat) : Int)))] [b0, b1, b2, Blk.mk false (.by [] 64 (vec 64 p fun y => if y / 8 < n then sm i0 fun i => bz v i * bz f (530 + i * 64 + y) else 0))]) _ _ _ , fun i0 => True, n, trivial, ⟨⟨rfl, rfl, rfl, rfl, rfl, trivial⟩, ⟨rfl, rfl, rfl, ?_, trivial⟩, rfl⟩, fun i0 hi0 _ => ?_⟩
  · refine blk_by ?_
    rw [z_sta]
    exact vec_zero fun k hk => by simp [sm]
  have q0 := bz_nn v i0
  have q1 := bz_le v i0
  refine ⟨fun h12 => ?_, fun h12 => ?_⟩
  · replace h12 := of_decide_eq_true h12
    refine ⟨(fun a6 b0 b1 b2 i1 => St.mk [(2, .one (.pt 0 0)), (3, .one (.pt 1 0)), (4, .one (.pt 2 0)), (5, .one (.pt 3 0)), (6, a6), (7, .one (.i .i64 ((i1 : Nat) : Int)))] [b0, b1, b2, Blk.mk false (.by [] 64 (vec 64 p fun y => (if y / 8 < n then sm i0 fun i => bz v i * bz f (530 + i * 64 + y) else 0) + if y / 8 < i1 then bz v i0 * bz f (530 + i0 * 64 + y) else 0))]) _ _ _ _ , fun i1 => True, n, trivial, ⟨⟨rfl, rfl, rfl, rfl, rfl, rfl, trivial⟩, ⟨rfl, rfl, rfl, ?_, trivial⟩, rfl⟩, fun i1 hi1 _ => ?_⟩
    · refine blk_by (vec_congr fun y _ => cg_of_eq ?_)
      simp
    refine ⟨fun h19 => ?_, fun h19 => ?_⟩
    · replace h19 := of_decide_eq_true h19
      refine brB_t ?_
      refine ⟨i0, i0, rfl, by omega, by omega, ?_⟩   -- 21
      refine brB_t ?_
      refine ⟨⟨by first | omega | (simp <;> omega), by first | omega | (simp <;> omega)⟩, ?_⟩   -- 22 := ld8 ['.t', 21]
      refine brB_t ?_
      refine brB_t ?_
      refine ⟨fun h24 => ?_, fun h24 => ?_⟩
      · replace h24 := bne_t h24
        refine ⟨i1, i1 * 8, rfl, by omega, by omega, ?_⟩   -- 31
        refine ⟨⟨by first | omega | (simp <;> omega), by first | omega | (simp <;> omega)⟩, ?_⟩   -- 32 := lda [['.t', 31], 0, 8]
        refine ⟨i0, 530 + i0 * 64, rfl, by omega, by omega, ?_⟩   -- 36
        refine ⟨i1, 530 + i0 * 64 + i1 * 8, rfl, by omega, by omega, ?_⟩   -- 37
        refine ⟨⟨by first | omega | (simp <;> omega), by first | omega | (simp <;> omega)⟩, ?_⟩   -- 38 := lda [['.t', 37], 0, 8]
        refine ⟨i0, i0, rfl, by omega, by omega, ?_⟩   -- 40
        refine ⟨⟨by first | omega | (simp <;> omega), by first | omega | (simp <;> omega)⟩, ?_⟩   -- 41 := ld8 ['.t', 40]
        refine ⟨4, [], _, _, _, _, [_, _, _, _], rfl, s_l01Add_ok B E.2 (k := bz v i0) hp (by omega) (by omega) (by omega), rfl, trivial, rfl, rfl, rfl, ?_⟩   -- 43
        refine ⟨i1, i1 * 8, rfl, by omega, by omega, ?_⟩   -- 44
        refine ⟨⟨rfl, by first | omega | (simp <;> omega), by first | omega | (simp <;> omega)⟩, ?_⟩   -- sta ['.t', 44] ['.t', 43] 8
        refine ⟨((i1 + 1 : Nat) : Int), w64_id _ (by omega) (by omega), ?_⟩   -- 26
        refine ⟨by omega, trivial, ⟨rfl, rfl, rfl, rfl, rfl, rfl, trivial⟩, ⟨rfl, rfl, rfl, ?_, trivial⟩, rfl⟩
        refine blk_by ?_
        rw [spl_plsN, pl_vec hp hp2 (by omega)]
        refine vec_congr fun y hy => cg_of_eq ?_
        rw [Int.add_assoc]
        congr 1
        by_cases e1 : i1 * 8 ≤ y ∧ y < i1 * 8 + 8
        · rw [if_pos (by omega), if_neg (by omega), if_pos e1, bz_sh, Int.zero_add, show 530 + i0 * 64 + i1 * 8 + (y - i1 * 8) = 530 + i0 * 64 + y by omega]
        · rw [if_neg e1, Int.add_zero]
          by_cases e2 : y / 8 < i1
          · rw [if_pos (by omega), if_pos e2]
          · rw [if_neg (by omega), if_neg e2]
      · replace h24 := bne_f h24
        refine ⟨((i0 + 1 : Nat) : Int), w64_id _ (by omega) (by omega), ?_⟩   -- 14
        refine ⟨by omega, trivial, ⟨rfl, rfl, rfl, rfl, rfl, trivial⟩, ⟨rfl, rfl, rfl, ?_, trivial⟩, rfl⟩
        refine blk_by (vec_congr fun y hy => cg_of_eq ?_)
        simp only [z0_of h24, Int.zero_mul, sm, Int.add_zero, ite_self]
    · replace h19 := of_decide_eq_false h19
      have e1 : n = i1 := by omega
      subst e1
      refine brB_f ?_
      refine brB_f ?_
      refine brB_f ?_
      refine brB_f ?_
      refine brB_f ?_
      refine ⟨((i0 + 1 : Nat) : Int), w64_id _ (by omega) (by omega), ?_⟩   -- 14
      refine ⟨by omega, trivial, ⟨rfl, rfl, rfl, rfl, rfl, trivial⟩, ⟨rfl, rfl, rfl, ?_, trivial⟩, rfl⟩
      refine blk_by (vec_congr fun y hy => cg_of_eq ?_)
      by_cases e1 : y / 8 < n
      · rw [if_pos e1, if_pos e1, if_pos e1]; rfl
      · rw [if_neg e1, if_neg e1, if_neg e1]; rfl
  · replace h12 := of_decide_eq_false h12
    have e0 : n = i0 := by omega
    subst e0
    refine ⟨⟨by first | omega | (simp <;> omega), by first | omega | (simp <;> omega)⟩, ?_⟩   -- 45 := lda [['.t', 5], 0, 64]
    refine ⟨⟨rfl, by first | omega | (simp <;> omega), by first | omega | (simp <;> omega)⟩, ?_⟩   -- sta ['.t', 4] ['.t', 45] 64
    refine ⟨rfl, ⟨by first | omega | (simp <;> omega), by first | omega | (simp <;> omega)⟩, [], ?_, rfl, trivial, rfl, rfl⟩
    exact one_ag (out_vec.trans rfl)

theorem s_l03Counit_ok (B : Bs P ρ) (E : E_s_l03Counit P ρ) {n : Nat} {p : Int} {f v : By} (hp : 1 ≤ p) (hp2 : p ≤ 256) (hn : n ≤ 8) :
    CallOK P ρ 79 [.ag [p, (n : Int)] 1106 f, .ag [] 8 v] [] (.one (.i .i64 (ctu n f v % p))) [] := by
  refine call_of_vc B.fn B.mo E rfl rfl ?_
  refine ⟨0, rfl, ?_⟩   -- .box 2
  refine ⟨1, rfl, ?_⟩   -- .box 3
  refine ⟨(fun b0 b1 i0 => St.mk [(2, .one (.pt 0 0)), (3, .one (.pt 1 0)), (5, .one (.i .i64 (ctu i0 f v))), (6, .one (.i .i64 ((i0 : Nat) : Int)))] [b0, b1]) _ _ , fun i0 => True, n, trivial, ⟨⟨rfl, rfl, rfl, rfl, trivial⟩, ⟨rfl, rfl, trivial⟩, rfl⟩, fun i0 hi0 _ => ?_⟩
  have q1 := bz2 v f i0 (522 + i0)
  have q2 := ctu_bd (n := i0) (f := f) (v := v)
  refine ⟨fun h10 => ?_, fun h10 => ?_⟩
  · replace h10 := of_decide_eq_true h10
    refine ⟨i0, i0, rfl, by omega, by omega, ?_⟩   -- 15
    refine ⟨⟨by first | omega | (simp <;> omega), by first | omega | (simp <;> omega)⟩, ?_⟩   -- 16 := ld8 ['.t', 15]
    refine ⟨i0, 522 + i0, rfl, by omega, by omega, ?_⟩   -- 20
    refine ⟨⟨by first | omega | (simp <;> omega), by first | omega | (simp <;> omega)⟩, ?_⟩   -- 21 := ld8 ['.t', 20]
    refine ⟨bz v i0 * bz f (522 + i0), w64_id (bz v i0 * bz f (522 + i0)) (by omega) (by omega), ?_⟩
    refine ⟨ctu (i0 + 1) f v, ?_, ?_⟩
    · show w64 (ctu i0 f v + bz v i0 * bz f (522 + i0)) = ctu i0 f v + bz f (522 + i0) * bz v i0
      rw [Int.mul_comm (bz f (522 + i0))]
      exact w64_id _ (by omega) (by omega)
    refine ⟨((i0 + 1 : Nat) : Int), w64_id _ (by omega) (by omega), ?_⟩   -- 12
    exact ⟨by omega, trivial, ⟨rfl, rfl, rfl, rfl, trivial⟩, ⟨rfl, rfl, trivial⟩, rfl⟩
  · replace h10 := of_decide_eq_false h10
    have e0 : n = i0 := by omega
    subst e0
    refine ⟨by omega, ctu n f v % p, Int.tmod_eq_emod_of_nonneg ctu_bd.1, ?_⟩
    exact ⟨rfl, [], rfl, rfl, trivial, rfl, rfl⟩

/-- one share of a product of tables -/
def tr (n : Nat) (f fa fb : By) (a b z : Nat) : Int := mu f a b (z / 8) * prd n f 10 (sh fa (a * 8)) (sh fb (b * 8)) (z % 8)
def trs (n : Nat) (f fa fb : By) (z : Nat) : Int := sm n fun a => sm n fun b => tr n f fa fb a b z
theorem trs_eq {n : Nat} {f fa fb : By} {oa ob z : Nat} : trs n f (sh fa oa) (sh fb ob) z = tns n f fa fb oa ob z := by
  simp only [trs, tr, tns, sh_sh]
theorem row0 {p k : Int} {X : Nat → Int} (hp : 1 ≤ p) (hp2 : p ≤ 256) (h : ∀ x, x < 8 → vec 8 p X x = 0) {y : Nat} (hy : y < 8) : cg p (k * X y) 0 := by
  have h1 := cg_vec (N := 8) (x := X) hp hp2 hy
  have h2 : bz (vec 8 p X) y = 0 := z0_of (h y hy)
  rw [h2] at h1
  exact (cg_mul rfl h1.symm).trans (cg_of_eq (Int.mul_zero k))

theorem s_l03Pairs_ok (B : Bs P ρ) (E : E_s_l03Pairs P ρ) {n : Nat} {p : Int} {f fa fb : By} (h : HShp p n f) (hp : 1 ≤ p) (hp2 : p ≤ 256) (hn : n ≤ 8) :
    CallOK P ρ 78 [.ag [p, (n : Int)] 1106 f, .ag [] 64 fa, .ag [] 64 fb] [] (.one (.ag [] 64 (vec 64 p (trs n f fa fb)))) [] := by
  refine call_of_vc B.fn B.mo E.1 rfl rfl ?_
  refine ⟨0, rfl, ?_⟩   -- .box 3
  refine ⟨1, rfl, ?_⟩   -- .box 4
  refine ⟨2, rfl, ?_⟩   -- .box 5
  refine ⟨3, rfl, ?_⟩   -- .alo 6
  refine ⟨4, rfl, ?_⟩   -- .new 9
  refine ⟨⟨rfl, by first | omega | (simp <;> omega), by first | omega | (simp <;> omega)⟩, ?_⟩   -- sta ['.t', 9] ['.t', 19] 64
  refine ⟨(fun a7 a8 b0 b1 b2 b3 i0 => St.mk [(3, .one (.pt 0 0)), (4, .one (.pt 1 0)), (5, .one (.pt 2 0)), (6, .one (.pt 3 0)), (7, a7), (8, a8), (9, .one (.pt 4 0)), (10, .one (.i .i64 ((i0 : Nat) : Int)))] [b0, b1, b2, b3, Blk.mk false (.by [] 64 (vec 64 p fun z => sm i0 fun a => sm n fun b => tr n f fa fb a b z))]) _ _ _ _ _ _ , fun i0 => True, n, trivial, ⟨⟨rfl, rfl, rfl, rfl, rfl, rfl, rfl, rfl, trivial⟩, ⟨rfl, rfl, rfl, rfl, ?_, trivial⟩, rfl⟩, fun i0 hi0 _ => ?_⟩
  · refine blk_by ?_
    rw [z_sta]
    exact vec_zero fun k hk => rfl
  refine ⟨fun h22 => ?_, fun h22 => ?_⟩
  · replace h22 := of_decide_eq_true h22
    refine ⟨(fun a7 a8 a10 b0 b1 b2 b3 i1 => St.mk [(3, .one (.pt 0 0)), (4, .one (.pt 1 0)), (5, .one (.pt 2 0)), (6, .one (.pt 3 0)), (7, a7), (8, a8), (9, .one (.pt 4 0)), (10, a10), (11, .one (.i .i64 ((i1 : Nat) : Int)))] [b0, b1, b2, b3, Blk.mk false (.by [] 64 (vec 64 p fun z => sm i0 (fun a => sm n fun b => tr n f fa fb a b z) + sm i1 fun b => tr n f fa fb i0 b z))]) _ _ _ _ _ _ _ , fun i1 => True, n, trivial, ⟨⟨rfl, rfl, rfl, rfl, rfl, rfl, rfl, rfl, rfl, trivial⟩, ⟨rfl, rfl, rfl, rfl, ?_, trivial⟩, rfl⟩, fun i1 hi1 _ => ?_⟩
    · refine blk_by (vec_congr fun y _ => cg_of_eq ?_)
      simp only [sm, Int.add_zero]
    refine ⟨fun h27 => ?_, fun h27 => ?_⟩
    · replace h27 := of_decide_eq_true h27
      refine ⟨5, [], _, _, _, _, [_, _, _, _, _], rfl, s_l03Algebra_ok B E.2.1 , rfl, trivial, rfl, rfl, rfl, ?_⟩   -- 31
      refine ⟨i0, i0 * 8, rfl, by omega, by omega, ?_⟩   -- 33
      refine ⟨⟨by first | omega | (simp <;> omega), by first | omega | (simp <;> omega)⟩, ?_⟩   -- 34 := lda [['.t', 33], 0, 8]
      refine ⟨i1, i1 * 8, rfl, by omega, by omega, ?_⟩   -- 36
      refine ⟨⟨by first | omega | (simp <;> omega), by first | omega | (simp <;> omega)⟩, ?_⟩   -- 37 := lda [['.t', 36], 0, 8]
      refine ⟨5, [], _, _, _, _, [_, _, _, _, _], rfl, s_l01Times_ok B E.2.2.1 hp hp2 hn, rfl, trivial, rfl, rfl, rfl, ?_⟩   -- 38
      refine ⟨5, rfl, ?_⟩   -- .new 12
      refine ⟨⟨rfl, by first | omega | (simp <;> omega), by first | omega | (simp <;> omega)⟩, ?_⟩   -- sta ['.t', 12] ['.t', 38] 8
      refine ⟨⟨by first | omega | (simp <;> omega), by first | omega | (simp <;> omega)⟩, ?_⟩   -- 39 := lda [['.t', 12], 0, 8]
      refine ⟨6, [], _, _, _, _, [_, _, _, _, _, _], rfl, s_l01Zero_ok B E.2.2.2.1 , rfl, trivial, rfl, rfl, ?_⟩   -- 40
      refine ⟨fun h40 => ?_, fun h40 => ?_⟩
      · skip
        have z40 := eqB_iff.1 h40
        refine ⟨((i1 + 1 : Nat) : Int), w64_id _ (by omega) (by omega), ?_⟩   -- 29
        refine ⟨by omega, trivial, ⟨rfl, rfl, rfl, rfl, rfl, rfl, rfl, rfl, rfl, trivial⟩, ⟨rfl, rfl, rfl, rfl, ?_, trivial⟩, rfl⟩
        refine blk_by (vec_congr fun z hz => cg_add rfl ?_)
        refine cg.symm ((cg_of_eq (Int.add_zero _).symm).trans (cg_add rfl (row0 hp hp2 (fun x hx => ?_) (Nat.mod_lt _ (by omega))).symm))
        have := z40 x hx
        rw [sh_zero, z_spl _ _ (fun _ h => vec_out h)] at this
        exact this
      · skip
        refine ⟨(fun a7 a8 a10 a11 b0 b1 b2 b3 i2 => St.mk [(3, .one (.pt 0 0)), (4, .one (.pt 1 0)), (5, .one (.pt 2 0)), (6, .one (.pt 3 0)), (7, a7), (8, a8), (9, .one (.pt 4 0)), (10, a10), (11, a11), (12, .one (.pt 5 0)), (13, .one (.i .i64 ((i2 : Nat) : Int)))] [b0, b1, b2, b3, Blk.mk false (.by [] 64 (vec 64 p fun z => (sm i0 (fun a => sm n fun b => tr n f fa fb a b z) + sm i1 fun b => tr n f fa fb i0 b z) + if z / 8 < i2 then tr n f fa fb i0 i1 z else 0)), Blk.mk false (.by [] 8 (vec 8 p (prd n f 10 (sh fa (i0 * 8)) (sh fb (i1 * 8)))))]) _ _ _ _ _ _ _ _ , fun i2 => True, n, trivial, ⟨⟨rfl, rfl, rfl, rfl, rfl, rfl, rfl, rfl, rfl, rfl, rfl, trivial⟩, ⟨rfl, rfl, rfl, rfl, ?_, ?_, trivial⟩, rfl⟩, fun i2 hi2 _ => ?_⟩
        · refine blk_by (vec_congr fun y _ => cg_of_eq ?_)
          simp
        · exact blk_by (z_spl _ _ fun _ h => vec_out h).symm
        have q0 := bz_nn f (10 + i0 * 64 + i1 * 8 + i2)
        have q1 := bz_le f (10 + i0 * 64 + i1 * 8 + i2)
        refine ⟨fun h43 => ?_, fun h43 => ?_⟩
        · replace h43 := of_decide_eq_true h43
          refine ⟨i0, 10 + i0 * 64, rfl, by omega, by omega, ?_⟩   -- 50
          refine ⟨i1, 10 + i0 * 64 + i1 * 8, rfl, by omega, by omega, ?_⟩   -- 51
          refine ⟨i2, 10 + i0 * 64 + i1 * 8 + i2, rfl, by omega, by omega, ?_⟩   -- 52
          refine ⟨⟨by first | omega | (simp <;> omega), by first | omega | (simp <;> omega)⟩, ?_⟩   -- 53 := ld8 ['.t', 52]
          refine ⟨fun h55 => ?_, fun h55 => ?_⟩
          · replace h55 := bne_t h55
            refine ⟨i2, i2 * 8, rfl, by omega, by omega, ?_⟩   -- 59
            refine ⟨⟨by first | omega | (simp <;> omega), by first | omega | (simp <;> omega)⟩, ?_⟩   -- 60 := lda [['.t', 59], 0, 8]
            refine ⟨⟨by first | omega | (simp <;> omega), by first | omega | (simp <;> omega)⟩, ?_⟩   -- 61 := lda [['.t', 12], 0, 8]
            refine ⟨6, [], _, _, _, _, [_, _, _, _, _, _], rfl, s_l01Add_ok B E.2.2.2.2 (k := bz f (10 + i0 * 64 + i1 * 8 + i2)) hp (by omega) (by omega) (by omega), rfl, trivial, rfl, rfl, rfl, ?_⟩   -- 64
            refine ⟨i2, i2 * 8, rfl, by omega, by omega, ?_⟩   -- 65
            refine ⟨⟨rfl, by first | omega | (simp <;> omega), by first | omega | (simp <;> omega)⟩, ?_⟩   -- sta ['.t', 65] ['.t', 64] 8
            refine ⟨((i2 + 1 : Nat) : Int), w64_id _ (by omega) (by omega), ?_⟩   -- 45
            refine ⟨by omega, trivial, ⟨rfl, rfl, rfl, rfl, rfl, rfl, rfl, rfl, rfl, rfl, rfl, trivial⟩, ⟨rfl, rfl, rfl, rfl, ?_, rfl, trivial⟩, rfl⟩
            refine blk_by ?_
            rw [spl_plsN, pl_vec hp hp2 (by omega)]
            refine vec_congr fun z hz => cg.trans (cg_add rfl ?_) (cg_of_eq (Int.add_assoc _ _ _).symm)
            by_cases e1 : i2 * 8 ≤ z ∧ z < i2 * 8 + 8
            · rw [if_pos (by omega), if_neg (by omega), if_pos e1, Int.zero_add, sh_zero, show z - i2 * 8 = z % 8 by omega]
              have e2 : z / 8 = i2 := by omega
              unfold tr mu
              rw [e2]
              exact (cg_mul rfl (cg_vec hp hp2 (Nat.mod_lt _ (by omega)))).symm
            · rw [if_neg e1, Int.add_zero]
              by_cases e2 : z / 8 < i2
              · rw [if_pos (by omega), if_pos e2]; rfl
              · rw [if_neg (by omega), if_neg e2]; rfl
          · replace h55 := bne_f h55
            refine ⟨((i2 + 1 : Nat) : Int), w64_id _ (by omega) (by omega), ?_⟩   -- 45
            refine ⟨by omega, trivial, ⟨rfl, rfl, rfl, rfl, rfl, rfl, rfl, rfl, rfl, rfl, rfl, trivial⟩, ⟨rfl, rfl, rfl, rfl, ?_, rfl, trivial⟩, rfl⟩
            refine blk_by (vec_congr fun z hz => cg_add rfl (cg_of_eq ?_))
            by_cases e1 : z / 8 = i2
            · rw [if_pos (by omega), if_neg (by omega)]
              unfold tr mu
              rw [e1, z0_of h55, Int.zero_mul]
            · by_cases e2 : z / 8 < i2
              · rw [if_pos (by omega), if_pos e2]
              · rw [if_neg (by omega), if_neg e2]
        · replace h43 := of_decide_eq_false h43
          have e2 : n = i2 := by omega
          subst e2
          refine ⟨((i1 + 1 : Nat) : Int), w64_id _ (by omega) (by omega), ?_⟩   -- 29
          refine ⟨by omega, trivial, ⟨rfl, rfl, rfl, rfl, rfl, rfl, rfl, rfl, rfl, trivial⟩, ⟨rfl, rfl, rfl, rfl, ?_, trivial⟩, rfl⟩
          refine blk_by (vec_congr fun z hz => cg_of_eq ?_)
          have e0 : (if z / 8 < n then tr n f fa fb i0 i1 z else 0) = tr n f fa fb i0 i1 z := by
            by_cases e : z / 8 < n
            · rw [if_pos e]
            · rw [if_neg e]
              unfold tr mu
              rw [h.mul (by omega) (by omega) (by omega) (.inr (.inr (by omega))), Int.zero_mul]
          rw [e0, Int.add_assoc]
          rfl
    · replace h27 := of_decide_eq_false h27
      have e1 : n = i1 := by omega
      subst e1
      refine ⟨((i0 + 1 : Nat) : Int), w64_id _ (by omega) (by omega), ?_⟩   -- 24
      exact ⟨by omega, trivial, ⟨rfl, rfl, rfl, rfl, rfl, rfl, rfl, rfl, trivial⟩, ⟨rfl, rfl, rfl, rfl, rfl, trivial⟩, rfl⟩
  · replace h22 := of_decide_eq_false h22
    have e0 : n = i0 := by omega
    subst e0
    refine ⟨⟨by first | omega | (simp <;> omega), by first | omega | (simp <;> omega)⟩, ?_⟩   -- 66 := lda [['.t', 9], 0, 64]
    refine ⟨⟨rfl, by first | omega | (simp <;> omega), by first | omega | (simp <;> omega)⟩, ?_⟩   -- sta ['.t', 6] ['.t', 66] 64
    refine ⟨rfl, ⟨by first | omega | (simp <;> omega), by first | omega | (simp <;> omega)⟩, [], ?_, rfl, trivial, rfl, rfl⟩
    exact one_ag (out_vec.trans rfl)

def prT (n : Nat) (f s : By) (b : Bool) (j k : Nat) : Nat → Int := if b = true then prd n f 10 (bas j) (sh s (k * 8)) else prd n f 10 (sh s (j * 8)) (bas k)
def fldT (n : Nat) (f s : By) (b : Bool) (i y : Nat) : Int := sm n fun j => sm n fun k => bz f (530 + i * 64 + j * 8 + k) * prT n f s b j k y
def AxT (p : Int) (n : Nat) (f s : By) (b : Bool) (i : Nat) : Prop := vec 8 p (fldT n f s b i) = vec 8 p fun y => bz f (522 + i) * bz f (2 + y)
theorem AxT_eq {p : Int} {n : Nat} {f : By} {b : Bool} {i : Nat} : AxT p n f (sh f 1042) b i ↔ AxS p n f (!b) i := by
  have : fldT n f (sh f 1042) b i = fld n f (!b) i := by
    funext y
    simp only [fldT, fld, prT, prS, sh_sh]
    cases b <;> rfl
  unfold AxT AxS
  rw [this]

theorem s_l03Folded_ok (B : Bs P ρ) (E : E_s_l03Folded P ρ) {n i : Nat} {p : Int} {f s : By} {b : Bool} (hp : 1 ≤ p) (hp2 : p ≤ 256) (hn : n ≤ 8) (hi : i < 8) :
    CallOK P ρ 80 [.ag [p, (n : Int)] 1106 f, .i .i64 (i : Int), .ag [] 64 s, .b b] [] (.one (.ag [] 8 (vec 8 p (fldT n f s b i)))) [] := by
  refine call_of_vc B.fn B.mo E.1 rfl rfl ?_
  refine ⟨0, rfl, ?_⟩   -- .box 4
  refine ⟨1, rfl, ?_⟩   -- .box 6
  refine ⟨2, rfl, ?_⟩   -- .alo 8
  refine ⟨3, [], _, _, _, _, [_, _, _], rfl, s_l03Algebra_ok B E.2.1 , rfl, trivial, rfl, rfl, ?_⟩   -- 17
  refine ⟨3, rfl, ?_⟩   -- .alo 9
  refine ⟨4, rfl, ?_⟩   -- .alo 10
  refine ⟨⟨rfl, by first | omega | (simp <;> omega), by first | omega | (simp <;> omega)⟩, ?_⟩   -- sta ['.t', 9] ['.t', 15] 8
  refine ⟨(fun a1 a3 b0 b1 b2 i0 => St.mk [(1, a1), (3, a3), (4, .one (.pt 0 0)), (6, .one (.pt 1 0)), (8, .one (.pt 2 0)), (9, .one (.pt 3 0)), (10, .one (.pt 4 0)), (11, .one (.i .i64 ((i0 : Nat) : Int)))] [b0, b1, b2, Blk.mk false (.by [] 8 (vec 8 p fun y => sm i0 fun j => sm n fun k => bz f (530 + i * 64 + j * 8 + k) * prT n f s b j k y)), Blk.mk false (.by [p, (n : Int)] 522 f)]) _ _ _ _ _ , fun i0 => True, n, trivial, ⟨⟨rfl, rfl, rfl, rfl, rfl, rfl, rfl, rfl, trivial⟩, ⟨rfl, rfl, rfl, ?_, rfl, trivial⟩, rfl⟩, fun i0 hi0 _ => ?_⟩
  · refine blk_by ?_
    rw [z_sta]
    exact vec_0.symm
  refine ⟨fun h21 => ?_, fun h21 => ?_⟩
  · replace h21 := of_decide_eq_true h21
    refine ⟨(fun a1 a3 a11 b0 b1 b2 b4 i1 => St.mk [(1, a1), (3, a3), (4, .one (.pt 0 0)), (6, .one (.pt 1 0)), (8, .one (.pt 2 0)), (9, .one (.pt 3 0)), (10, .one (.pt 4 0)), (11, a11), (12, .one (.i .i64 ((i1 : Nat) : Int)))] [b0, b1, b2, Blk.mk false (.by [] 8 (vec 8 p fun y => sm i0 (fun j => sm n fun k => bz f (530 + i * 64 + j * 8 + k) * prT n f s b j k y) + sm i1 fun k => bz f (530 + i * 64 + i0 * 8 + k) * prT n f s b i0 k y)), b4]) _ _ _ _ _ _ _ , fun i1 => True, n, trivial, ⟨⟨rfl, rfl, rfl, rfl, rfl, rfl, rfl, rfl, rfl, trivial⟩, ⟨rfl, rfl, rfl, ?_, rfl, trivial⟩, rfl⟩, fun i1 hi1 _ => ?_⟩
    · refine blk_by (vec_congr fun y _ => cg_of_eq ?_)
      simp only [sm, Int.add_zero]
    have q0 := bz_nn f (530 + i * 64 + i0 * 8 + i1)
    have q1 := bz_le f (530 + i * 64 + i0 * 8 + i1)
    refine ⟨fun h27 => ?_, fun h27 => ?_⟩
    · replace h27 := of_decide_eq_true h27
      refine ⟨i, 530 + i * 64, rfl, by omega, by omega, ?_⟩   -- 34
      refine ⟨i0, 530 + i * 64 + i0 * 8, rfl, by omega, by omega, ?_⟩   -- 35
      refine ⟨i1, 530 + i * 64 + i0 * 8 + i1, rfl, by omega, by omega, ?_⟩   -- 36
      refine ⟨⟨by first | omega | (simp <;> omega), by first | omega | (simp <;> omega)⟩, ?_⟩   -- 37 := ld8 ['.t', 36]
      refine ⟨fun h40 => ?_, fun h40 => ?_⟩
      · replace h40 := bne_t h40
        refine ⟨i0, i0 * 8, rfl, by omega, by omega, ?_⟩   -- 43
        refine ⟨⟨by first | omega | (simp <;> omega), by first | omega | (simp <;> omega)⟩, ?_⟩   -- 44 := lda [['.t', 43], 0, 8]
        refine ⟨5, [], _, _, _, _, [_, _, _, _, _], rfl, s_l01Basis_ok B E.2.2.1 (i := i1) (by omega), rfl, trivial, rfl, rfl, rfl, ?_⟩   -- 46
        refine ⟨5, [], _, _, _, _, [_, _, _, _, _], rfl, s_l01Times_ok B E.2.2.2.1 hp hp2 hn, rfl, trivial, rfl, rfl, rfl, ?_⟩   -- 47
        refine ⟨5, rfl, ?_⟩   -- .new 14
        refine ⟨⟨rfl, by first | omega | (simp <;> omega), by first | omega | (simp <;> omega)⟩, ?_⟩   -- sta ['.t', 14] ['.t', 47] 8
        refine ⟨fun h48 => ?_, fun h48 => ?_⟩
        · skip
          refine ⟨6, [], _, _, _, _, [_, _, _, _, _, _], rfl, s_l01Basis_ok B E.2.2.1 (i := i0) (by omega), rfl, trivial, rfl, rfl, rfl, ?_⟩   -- 51
          refine ⟨i1, i1 * 8, rfl, by omega, by omega, ?_⟩   -- 53
          refine ⟨⟨by first | omega | (simp <;> omega), by first | omega | (simp <;> omega)⟩, ?_⟩   -- 54 := lda [['.t', 53], 0, 8]
          refine ⟨6, [], _, _, _, _, [_, _, _, _, _, _], rfl, s_l01Times_ok B E.2.2.2.1 hp hp2 hn, rfl, trivial, rfl, rfl, ?_⟩   -- 55
          refine ⟨⟨rfl, by first | omega | (simp <;> omega), by first | omega | (simp <;> omega)⟩, ?_⟩   -- sta ['.t', 14] ['.t', 55] 8
          refine ⟨⟨by first | omega | (simp <;> omega), by first | omega | (simp <;> omega)⟩, ?_⟩   -- 58 := lda [['.t', 9], 0, 8]
          refine ⟨⟨by first | omega | (simp <;> omega), by first | omega | (simp <;> omega)⟩, ?_⟩   -- 59 := lda [['.t', 14], 0, 8]
          refine ⟨6, [], _, _, _, _, [_, _, _, _, _, _], rfl, s_l01Add_ok B E.2.2.2.2 (k := bz f (530 + i * 64 + i0 * 8 + i1)) hp (by omega) (by omega) (by omega), rfl, trivial, rfl, rfl, ?_⟩   -- 61
          refine ⟨⟨rfl, by first | omega | (simp <;> omega), by first | omega | (simp <;> omega)⟩, ?_⟩   -- sta ['.t', 9] ['.t', 61] 8
          refine ⟨((i1 + 1 : Nat) : Int), w64_id _ (by omega) (by omega), ?_⟩   -- 29
          refine ⟨by omega, trivial, ⟨rfl, rfl, rfl, rfl, rfl, rfl, rfl, rfl, rfl, trivial⟩, ⟨rfl, rfl, rfl, ?_, rfl, trivial⟩, rfl⟩
          refine blk_by ?_
          rw [spl_plsN, pl_vec0 hp hp2]
          refine vec_congr fun y hy => cg.symm ((cg_of_eq (Int.add_assoc _ _ _)).trans (cg_add rfl (cg_add rfl (cg_mul rfl ?_))))
          rw [bz_own hy, prT, if_pos h48]
          exact cg_vec hp hp2 hy
        · skip
          refine ⟨⟨by first | omega | (simp <;> omega), by first | omega | (simp <;> omega)⟩, ?_⟩   -- 58 := lda [['.t', 9], 0, 8]
          refine ⟨⟨by first | omega | (simp <;> omega), by first | omega | (simp <;> omega)⟩, ?_⟩   -- 59 := lda [['.t', 14], 0, 8]
          refine ⟨6, [], _, _, _, _, [_, _, _, _, _, _], rfl, s_l01Add_ok B E.2.2.2.2 (k := bz f (530 + i * 64 + i0 * 8 + i1)) hp (by omega) (by omega) (by omega), rfl, trivial, rfl, rfl, ?_⟩   -- 61
          refine ⟨⟨rfl, by first | omega | (simp <;> omega), by first | omega | (simp <;> omega)⟩, ?_⟩   -- sta ['.t', 9] ['.t', 61] 8
          refine ⟨((i1 + 1 : Nat) : Int), w64_id _ (by omega) (by omega), ?_⟩   -- 29
          refine ⟨by omega, trivial, ⟨rfl, rfl, rfl, rfl, rfl, rfl, rfl, rfl, rfl, trivial⟩, ⟨rfl, rfl, rfl, ?_, rfl, trivial⟩, rfl⟩
          refine blk_by ?_
          rw [spl_plsN, pl_vec0 hp hp2]
          refine vec_congr fun y hy => cg.symm ((cg_of_eq (Int.add_assoc _ _ _)).trans (cg_add rfl (cg_add rfl (cg_mul rfl ?_))))
          rw [bz_own hy, prT, if_neg (by simp [h48])]
          exact cg_vec hp hp2 hy
      · replace h40 := bne_f h40
        refine ⟨((i1 + 1 : Nat) : Int), w64_id _ (by omega) (by omega), ?_⟩   -- 29
        refine ⟨by omega, trivial, ⟨rfl, rfl, rfl, rfl, rfl, rfl, rfl, rfl, rfl, trivial⟩, ⟨rfl, rfl, rfl, ?_, rfl, trivial⟩, rfl⟩
        refine blk_by (vec_congr fun y _ => cg_add rfl (cg_of_eq ?_))
        simp only [sm]
        rw [show bz f (530 + i * 64 + i0 * 8 + i1) = 0 from h40, Int.zero_mul, Int.add_zero]
    · replace h27 := of_decide_eq_false h27
      have e1 : n = i1 := by omega
      subst e1
      refine ⟨((i0 + 1 : Nat) : Int), w64_id _ (by omega) (by omega), ?_⟩   -- 23
      exact ⟨by omega, trivial, ⟨rfl, rfl, rfl, rfl, rfl, rfl, rfl, rfl, trivial⟩, ⟨rfl, rfl, rfl, rfl, rfl, trivial⟩, rfl⟩
  · replace h21 := of_decide_eq_false h21
    have e0 : n = i0 := by omega
    subst e0
    refine ⟨⟨by first | omega | (simp <;> omega), by first | omega | (simp <;> omega)⟩, ?_⟩   -- 62 := lda [['.t', 9], 0, 8]
    refine ⟨⟨rfl, by first | omega | (simp <;> omega), by first | omega | (simp <;> omega)⟩, ?_⟩   -- sta ['.t', 8] ['.t', 62] 8
    refine ⟨rfl, ⟨by first | omega | (simp <;> omega), by first | omega | (simp <;> omega)⟩, [], ?_, rfl, trivial, rfl, rfl⟩
    exact one_ag (out_vec.trans rfl)

theorem s_l03Antipode_ok (B : Bs P ρ) (E : E_s_l03Antipode P ρ) {n : Nat} {p : Int} {f s : By} {b : Bool} (hp : 1 ≤ p) (hp2 : p ≤ 256) (hn : n ≤ 8) :
    CallOK P ρ 66 [.ag [p, (n : Int)] 1106 f, .ag [] 64 s, .b b] [] (.one (.b (decide (∀ i, i < n → AxT p n f s b i)))) [] := by
  refine call_of_vc B.fn B.mo E.1 rfl rfl ?_
  refine ⟨0, rfl, ?_⟩   -- .box 3
  refine ⟨1, rfl, ?_⟩   -- .box 4
  refine ⟨(fun a2 b0 b1 i0 => St.mk [(2, a2), (3, .one (.pt 0 0)), (4, .one (.pt 1 0)), (7, .one (.i .i64 ((i0 : Nat) : Int)))] [b0, b1]) _ _ _ , fun i0 => ∀ i, i < i0 → AxT p n f s b i, n, fun _ _ => by omega, ⟨⟨rfl, rfl, rfl, rfl, trivial⟩, ⟨rfl, rfl, trivial⟩, rfl⟩, fun i0 hi0 hF0 => ?_⟩
  have q0 := bz_nn f (522 + i0)
  have q1 := bz_le f (522 + i0)
  refine ⟨fun h11 => ?_, fun h11 => ?_⟩
  · replace h11 := of_decide_eq_true h11
    refine ⟨⟨by first | omega | (simp <;> omega), by first | omega | (simp <;> omega)⟩, ?_⟩   -- 16 := lda [['.t', 4], 0, 64]
    refine ⟨2, [], _, _, _, _, [_, _], rfl, s_l03Folded_ok B E.2.1 (i := i0) hp hp2 hn (by omega), rfl, trivial, rfl, rfl, rfl, ?_⟩   -- 18
    refine ⟨⟨by first | omega | (simp <;> omega), by first | omega | (simp <;> omega)⟩, ?_⟩   -- 23 := lda [['.t', 22], 0, 8]
    refine ⟨i0, 522 + i0, rfl, by omega, by omega, ?_⟩   -- 26
    refine ⟨⟨by first | omega | (simp <;> omega), by first | omega | (simp <;> omega)⟩, ?_⟩   -- 27 := ld8 ['.t', 26]
    refine ⟨2, [], _, _, _, _, [_, _], rfl, s_l01Add_ok B E.2.2 (k := bz f (522 + i0)) hp (by omega) (by omega) (by omega), rfl, trivial, rfl, rfl, ?_⟩   -- 29
    have e30 : (vec 8 p fun y => bz (fun _ => 0) y + bz f (522 + i0) * bz (sh f 2) y) = vec 8 p fun y => bz f (522 + i0) * bz f (2 + y) := vec_congr fun y _ => cg_of_eq (Int.zero_add _)
    refine ⟨fun h30 => ?_, fun h30 => ?_⟩
    · skip
      have z30 := neB_t h30
      rw [sh_zero s] at z30
      refine ⟨rfl, [], ?_, rfl, trivial, rfl, rfl⟩
      exact one_b (dec_f fun q => z30 fun x _ => congrFun ((q i0 (by omega)).trans e30.symm) x)
    · skip
      have z30 := neB_f h30
      rw [sh_zero s] at z30
      refine ⟨((i0 + 1 : Nat) : Int), w64_id _ (by omega) (by omega), ?_⟩   -- 13
      refine ⟨by omega, ?_, ⟨rfl, rfl, rfl, rfl, trivial⟩, ⟨rfl, rfl, trivial⟩, rfl⟩
      intro k hk
      by_cases e : k = i0
      · subst e
        exact (vec_ext (fun x hx => vec_out hx) z30).trans e30
      · exact hF0 k (by omega)
  · replace h11 := of_decide_eq_false h11
    have e0 : n = i0 := by omega
    subst e0
    refine ⟨rfl, [], ?_, rfl, trivial, rfl, rfl⟩
    exact one_b (dec_t hF0)

end Hf
namespace Hf
open Go Classical
variable {P : Program} {ρ : Nat → FuncId}
/-- the first of the axioms 1 to 5 that does not hold -/
noncomputable def bia (p : Int) (n : Nat) (f : By) : Int :=
  if ¬ AxN p n f 0 then 1 else if ¬ AxN p n f 1 then 2 else if ¬ AxN p n f 2 then 3 else if ¬ AxN p n f 3 then 4 else if ¬ AxN p n f 4 then 5 else 0
theorem bia1 {p : Int} {n : Nat} {f : By} (h : ¬ AxN p n f 0) : 1 = bia p n f := by unfold bia; rw [if_pos h]
theorem bia2 {p : Int} {n : Nat} {f : By} (h0 : AxN p n f 0) (h : ¬ AxN p n f 1) : 2 = bia p n f := by unfold bia; rw [if_neg (not_not_intro h0), if_pos h]
theorem bia3 {p : Int} {n : Nat} {f : By} (h0 : AxN p n f 0) (h1 : AxN p n f 1) (h : ¬ AxN p n f 2) : 3 = bia p n f := by unfold bia; rw [if_neg (not_not_intro h0), if_neg (not_not_intro h1), if_pos h]
theorem bia4 {p : Int} {n : Nat} {f : By} (h0 : AxN p n f 0) (h1 : AxN p n f 1) (h2 : AxN p n f 2) (h : ¬ AxN p n f 3) : 4 = bia p n f := by unfold bia; rw [if_neg (not_not_intro h0), if_neg (not_not_intro h1), if_neg (not_not_intro h2), if_pos h]
theorem bia5 {p : Int} {n : Nat} {f : By} (h0 : AxN p n f 0) (h1 : AxN p n f 1) (h2 : AxN p n f 2) (h3 : AxN p n f 3) (h : ¬ AxN p n f 4) : 5 = bia p n f := by unfold bia; rw [if_neg (not_not_intro h0), if_neg (not_not_intro h1), if_neg (not_not_intro h2), if_neg (not_not_intro h3), if_pos h]
theorem bia0 {p : Int} {n : Nat} {f : By} (h0 : AxN p n f 0) (h1 : AxN p n f 1) (h2 : AxN p n f 2) (h3 : AxN p n f 3) (h : AxN p n f 4) : 0 = bia p n f := by unfold bia; rw [if_neg (not_not_intro h0), if_neg (not_not_intro h1), if_neg (not_not_intro h2), if_neg (not_not_intro h3), if_neg (not_not_intro h)]
theorem bia_0 {p : Int} {n : Nat} {f : By} : bia p n f = 0 ↔ ∀ i, i < 5 → AxN p n f i := by
  constructor
  · intro h
    have h0 : AxN p n f 0 := Classical.byContradiction fun q => by rw [← bia1 q] at h; cases h
    have h1 : AxN p n f 1 := Classical.byContradiction fun q => by rw [← bia2 h0 q] at h; cases h
    have h2 : AxN p n f 2 := Classical.byContradiction fun q => by rw [← bia3 h0 h1 q] at h; cases h
    have h3 : AxN p n f 3 := Classical.byContradiction fun q => by rw [← bia4 h0 h1 h2 q] at h; cases h
    have h4 : AxN p n f 4 := Classical.byContradiction fun q => by rw [← bia5 h0 h1 h2 h3 q] at h; cases h
    intro i hi
    have : i = 0 ∨ i = 1 ∨ i = 2 ∨ i = 3 ∨ i = 4 := by omega
    rcases this with rfl | rfl | rfl | rfl | rfl <;> assumption
  · intro h
    exact (bia0 (h 0 (by omega)) (h 1 (by omega)) (h 2 (by omega)) (h 3 (by omega)) (h 4 (by omega))).symm
/-- the fourth of them by rows -/
theorem Ax4_iff {p : Int} {n : Nat} {f : By} (h : HShp p n f) : Ax4 p n f ↔ ∀ j, j < n → ∀ x, x < 8 → vec 64 p (cop n f 530 (sh f 2)) (j * 8 + x) = vec 8 p (fun y => bz (fun _ => 0) y + bz f (2 + j) * bz (sh f 2) y) x := by
  have hb := h.b
  unfold Ax4
  have e1 : ∀ j x, j < 8 → x < 8 → vec 8 p (fun y => bz (fun _ => 0) y + bz f (2 + j) * bz (sh f 2) y) x = vec 64 p (fun y => bz f (2 + y / 8) * bz f (2 + y % 8)) (j * 8 + x) := by
    intro j x hj hx
    simp only [vec]
    rw [if_pos hx, if_pos (by omega), show (j * 8 + x) / 8 = j by omega, show (j * 8 + x) % 8 = x by omega]
    have : bz (fun _ => 0) x = 0 := rfl
    rw [this, Int.zero_add]; rfl
  constructor
  · intro q j hj x hx
    rw [q, e1 j x (by omega) hx]
  · intro q
    refine vec_ext (fun x hx => vec_out hx) fun x hx => ?_
    by_cases hj : x / 8 < n
    · have := q (x / 8) hj (x % 8) (by omega)
      rw [e1 (x / 8) (x % 8) (by omega) (by omega), show x / 8 * 8 + x % 8 = x by omega] at this
      exact this
    · simp only [vec]
      rw [if_pos hx, if_pos hx]
      congr 2
      rw [cop, if_neg hj, h.unit (by omega) (by omega), Int.zero_mul]

theorem s_l03Bialgebra_ok (B : Bs P ρ) (E : E_s_l03Bialgebra P ρ) {n : Nat} {p : Int} {f : By} (h : HShp p n f) :
    CallOK P ρ 65 [.ag [p, (n : Int)] 1106 f] [] (.one (.i .i64 (bia p n f))) [] := by
  refine call_of_vc B.fn B.mo E.1 rfl rfl ?_
  have hb := h.b
  refine ⟨0, rfl, ?_⟩   -- .box 1
  refine ⟨1, [], _, _, _, _, [_], rfl, s_l03Algebra_ok B E.2.1 , rfl, trivial, rfl, rfl, rfl, ?_⟩   -- 14
  refine ⟨1, rfl, ?_⟩   -- .new 4
  refine ⟨2, [], _, _, _, _, [_, _], rfl, s_l01Is_ok B E.2.2.1 , rfl, trivial, rfl, rfl, ?_⟩   -- 17
  refine ⟨fun h15 => ?_, fun h15 => ?_⟩
  · skip
    have a0 : ¬ AxN p n f 0 := dec_elim_t' (not_t h15)
    refine ⟨rfl, [], ?_, rfl, trivial, rfl, rfl⟩
    exact one_i (bia1 a0)
  · skip
    have a0 : AxN p n f 0 := dec_elim_t (not_f h15)
    refine ⟨2, [], _, _, _, _, [_, _], rfl, s_l03Coalgebra_ok B E.2.2.2.1 , rfl, trivial, rfl, rfl, ?_⟩   -- 21
    refine ⟨2, [], _, _, _, _, [_, _], rfl, s_l02Is_ok B E.2.2.2.2.1 , rfl, trivial, rfl, rfl, ?_⟩   -- 22
    refine ⟨fun h19 => ?_, fun h19 => ?_⟩
    · skip
      have a1 : ¬ AxN p n f 1 := dec_elim_t' (not_t h19)
      refine ⟨rfl, [], ?_, rfl, trivial, rfl, rfl⟩
      exact one_i (bia2 a0 a1)
    · skip
      have a1 : AxN p n f 1 := dec_elim_t (not_f h19)
      refine ⟨(fun a3 b0 b1 i0 => St.mk [(1, .one (.pt 0 0)), (3, a3), (5, .one (.i .i64 ((i0 : Nat) : Int)))] [b0, b1]) _ _ _ , fun i0 => ∀ i, i < i0 → ∀ j, j < n → Ax3 p n f i j, n, fun _ _ => by omega, ⟨⟨rfl, rfl, rfl, trivial⟩, ⟨rfl, rfl, trivial⟩, rfl⟩, fun i0 hi0 hF0 => ?_⟩
      refine ⟨fun h26 => ?_, fun h26 => ?_⟩
      · replace h26 := of_decide_eq_true h26
        refine ⟨(fun a3 a5 b0 b1 i1 => St.mk [(1, .one (.pt 0 0)), (3, a3), (5, a5), (6, .one (.i .i64 ((i1 : Nat) : Int)))] [b0, b1]) _ _ _ _ , fun i1 => ∀ j, j < i1 → Ax3 p n f i0 j, n, fun _ _ => by omega, ⟨⟨rfl, rfl, rfl, rfl, trivial⟩, ⟨rfl, rfl, trivial⟩, rfl⟩, fun i1 hi1 hF1 => ?_⟩
        refine ⟨fun h31 => ?_, fun h31 => ?_⟩
        · replace h31 := of_decide_eq_true h31
          refine ⟨i0, 10 + i0 * 64, rfl, by omega, by omega, ?_⟩   -- 38
          refine ⟨i1, 10 + i0 * 64 + i1 * 8, rfl, by omega, by omega, ?_⟩   -- 39
          refine ⟨⟨by first | omega | (simp <;> omega), by first | omega | (simp <;> omega)⟩, ?_⟩   -- 40 := lda [['.t', 39], 0, 8]
          refine ⟨2, [], _, _, _, _, [_, _], rfl, s_l03Coproduct_ok B E.2.2.2.2.2.1 (by omega) (by omega) (by omega), rfl, trivial, rfl, rfl, rfl, ?_⟩   -- 41
          refine ⟨i0, 530 + i0 * 64, rfl, by omega, by omega, ?_⟩   -- 45
          refine ⟨⟨by first | omega | (simp <;> omega), by first | omega | (simp <;> omega)⟩, ?_⟩   -- 46 := lda [['.t', 45], 0, 64]
          refine ⟨i1, 530 + i1 * 64, rfl, by omega, by omega, ?_⟩   -- 49
          refine ⟨⟨by first | omega | (simp <;> omega), by first | omega | (simp <;> omega)⟩, ?_⟩   -- 50 := lda [['.t', 49], 0, 64]
          refine ⟨2, [], _, _, _, _, [_, _], rfl, s_l03Pairs_ok B E.2.2.2.2.2.2.1 h (by omega) (by omega) (by omega), rfl, trivial, rfl, rfl, ?_⟩   -- 51
          refine ⟨fun h52 => ?_, fun h52 => ?_⟩
          · skip
            have z52 := neB_t h52
            refine ⟨rfl, [], ?_, rfl, trivial, rfl, rfl⟩
            refine one_i (bia3 a0 a1 fun q => z52 fun x _ => ?_)
            have := congrFun (q i0 i1 (by omega) (by omega)) x
            rw [this]
            exact congrFun (congrArg (vec 64 p) (funext fun z => trs_eq.symm)) x
          · skip
            have z52 := neB_f h52
            refine ⟨((i1 + 1 : Nat) : Int), w64_id _ (by omega) (by omega), ?_⟩   -- 33
            refine ⟨by omega, ?_, ⟨rfl, rfl, rfl, rfl, trivial⟩, ⟨rfl, rfl, trivial⟩, rfl⟩
            intro j hj
            by_cases e : j = i1
            · subst e
              refine (vec_ext (fun x hx => vec_out hx) z52).trans ?_
              exact congrArg (vec 64 p) (funext fun z => trs_eq)
            · exact hF1 j (by omega)
        · replace h31 := of_decide_eq_false h31
          have e1 : n = i1 := by omega
          subst e1
          refine ⟨((i0 + 1 : Nat) : Int), w64_id _ (by omega) (by omega), ?_⟩   -- 28
          refine ⟨by omega, ?_, ⟨rfl, rfl, rfl, trivial⟩, ⟨rfl, rfl, trivial⟩, rfl⟩
          intro i hi j hj
          by_cases e : i = i0
          · subst e; exact hF1 j hj
          · exact hF0 i (by omega) j hj
      · replace h26 := of_decide_eq_false h26
        have e0 : n = i0 := by omega
        subst e0
        refine ⟨⟨by first | omega | (simp <;> omega), by first | omega | (simp <;> omega)⟩, ?_⟩   -- 55 := lda [['.t', 54], 0, 8]
        refine ⟨2, [], _, _, _, _, [_, _], rfl, s_l03Coproduct_ok B E.2.2.2.2.2.1 (by omega) (by omega) (by omega), rfl, trivial, rfl, rfl, ?_⟩   -- 56
        refine ⟨2, rfl, ?_⟩   -- .alo 7
        refine ⟨⟨rfl, by first | omega | (simp <;> omega), by first | omega | (simp <;> omega)⟩, ?_⟩   -- sta ['.t', 7] ['.t', 56] 64
        have a2 : AxN p n f 2 := fun i j hi hj => hF0 i hi j hj
        refine ⟨(fun a3 b0 b1 i2 => St.mk [(1, .one (.pt 0 0)), (3, a3), (7, .one (.pt 2 0)), (8, .one (.i .i64 ((i2 : Nat) : Int)))] [b0, b1, Blk.mk false (.by [] 64 (vec 64 p (cop n f 530 (sh f 2))))]) _ _ _ , fun i2 => ∀ j, j < i2 → ∀ x, x < 8 → vec 64 p (cop n f 530 (sh f 2)) (j * 8 + x) = vec 8 p (fun y => bz (fun _ => 0) y + bz f (2 + j) * bz (sh f 2) y) x, n, fun _ _ => by omega, ⟨⟨rfl, rfl, rfl, rfl, trivial⟩, ⟨rfl, rfl, ?_, trivial⟩, rfl⟩, fun i2 hi2 hF2 => ?_⟩
        · exact blk_by (z_spl _ _ fun _ h => vec_out h).symm
        have q0 := bz_nn f (2 + i2)
        have q1 := bz_le f (2 + i2)
        have a2 : AxN p n f 2 := fun i j hi hj => hF0 i hi j hj
        refine ⟨fun h59 => ?_, fun h59 => ?_⟩
        · replace h59 := of_decide_eq_true h59
          refine ⟨i2, i2 * 8, rfl, by omega, by omega, ?_⟩   -- 63
          refine ⟨⟨by first | omega | (simp <;> omega), by first | omega | (simp <;> omega)⟩, ?_⟩   -- 64 := lda [['.t', 63], 0, 8]
          refine ⟨⟨by first | omega | (simp <;> omega), by first | omega | (simp <;> omega)⟩, ?_⟩   -- 69 := lda [['.t', 68], 0, 8]
          refine ⟨i2, 2 + i2, rfl, by omega, by omega, ?_⟩   -- 72
          refine ⟨⟨by first | omega | (simp <;> omega), by first | omega | (simp <;> omega)⟩, ?_⟩   -- 73 := ld8 ['.t', 72]
          refine ⟨3, [], _, _, _, _, [_, _, _], rfl, s_l01Add_ok B E.2.2.2.2.2.2.2.1 (k := bz f (2 + i2)) (by omega) (by omega) (by omega) (by omega), rfl, trivial, rfl, rfl, rfl, ?_⟩   -- 75
          refine ⟨fun h76 => ?_, fun h76 => ?_⟩
          · skip
            have z76 := neB_t h76
            refine ⟨rfl, [], ?_, rfl, trivial, rfl, rfl⟩
            refine one_i (bia4 a0 a1 a2 fun q => z76 fun x hx => ?_)
            exact (Ax4_iff h).1 q i2 (by omega) x hx
          · skip
            have z76 := neB_f h76
            refine ⟨((i2 + 1 : Nat) : Int), w64_id _ (by omega) (by omega), ?_⟩   -- 61
            refine ⟨by omega, ?_, ⟨rfl, rfl, rfl, rfl, trivial⟩, ⟨rfl, rfl, rfl, trivial⟩, rfl⟩
            intro j hj
            by_cases e : j = i2
            · subst e; exact z76
            · exact hF2 j (by omega)
        · replace h59 := of_decide_eq_false h59
          have e2 : n = i2 := by omega
          subst e2
          have a3 : AxN p n f 3 := (Ax4_iff h).2 hF2
          refine ⟨(fun a3 b0 b1 b2 i3 => St.mk [(1, .one (.pt 0 0)), (3, a3), (9, .one (.i .i64 ((i3 : Nat) : Int)))] [b0, b1, b2]) _ _ _ _ , fun i3 => ∀ i, i < i3 → ∀ j, j < n → Ax5 p n f i j, n, fun _ _ => by omega, ⟨⟨rfl, rfl, rfl, trivial⟩, ⟨rfl, rfl, rfl, trivial⟩, rfl⟩, fun i3 hi3 hF3 => ?_⟩
          refine ⟨fun h79 => ?_, fun h79 => ?_⟩
          · replace h79 := of_decide_eq_true h79
            refine ⟨(fun a3 a9 b0 b1 b2 i4 => St.mk [(1, .one (.pt 0 0)), (3, a3), (9, a9), (10, .one (.i .i64 ((i4 : Nat) : Int)))] [b0, b1, b2]) _ _ _ _ _ , fun i4 => ∀ j, j < i4 → Ax5 p n f i3 j, n, fun _ _ => by omega, ⟨⟨rfl, rfl, rfl, rfl, trivial⟩, ⟨rfl, rfl, rfl, trivial⟩, rfl⟩, fun i4 hi4 hF4 => ?_⟩
            have q0 := bz2 f f (522 + i3) (522 + i4)
            refine ⟨fun h84 => ?_, fun h84 => ?_⟩
            · replace h84 := of_decide_eq_true h84
              refine ⟨i3, 10 + i3 * 64, rfl, by omega, by omega, ?_⟩   -- 91
              refine ⟨i4, 10 + i3 * 64 + i4 * 8, rfl, by omega, by omega, ?_⟩   -- 92
              refine ⟨⟨by first | omega | (simp <;> omega), by first | omega | (simp <;> omega)⟩, ?_⟩   -- 93 := lda [['.t', 92], 0, 8]
              refine ⟨3, [], _, _, _, _, [_, _, _], rfl, s_l03Counit_ok B E.2.2.2.2.2.2.2.2 (by omega) (by omega) (by omega), rfl, trivial, rfl, rfl, rfl, ?_⟩   -- 94
              refine ⟨i3, 522 + i3, rfl, by omega, by omega, ?_⟩   -- 97
              refine ⟨⟨by first | omega | (simp <;> omega), by first | omega | (simp <;> omega)⟩, ?_⟩   -- 98 := ld8 ['.t', 97]
              refine ⟨i4, 522 + i4, rfl, by omega, by omega, ?_⟩   -- 102
              refine ⟨⟨by first | omega | (simp <;> omega), by first | omega | (simp <;> omega)⟩, ?_⟩   -- 103 := ld8 ['.t', 102]
              refine ⟨bz f (522 + i3) * bz f (522 + i4), w64_id (bz f (522 + i3) * bz f (522 + i4)) (by omega) (by omega), ?_⟩
              refine ⟨by omega, bz f (522 + i3) * bz f (522 + i4) % p, Int.tmod_eq_emod_of_nonneg q0.1, ?_⟩
              refine ⟨fun h109 => ?_, fun h109 => ?_⟩
              · replace h109 := bne_t h109
                refine ⟨rfl, [], ?_, rfl, trivial, rfl, rfl⟩
                exact one_i (bia5 a0 a1 a2 a3 fun q => h109 (q.1 i3 i4 (by omega) (by omega)))
              · replace h109 := bne_f h109
                refine ⟨((i4 + 1 : Nat) : Int), w64_id _ (by omega) (by omega), ?_⟩   -- 86
                refine ⟨by omega, ?_, ⟨rfl, rfl, rfl, rfl, trivial⟩, ⟨rfl, rfl, rfl, trivial⟩, rfl⟩
                intro j hj
                by_cases e : j = i4
                · subst e; exact h109
                · exact hF4 j (by omega)
            · replace h84 := of_decide_eq_false h84
              have e4 : n = i4 := by omega
              subst e4
              refine ⟨((i3 + 1 : Nat) : Int), w64_id _ (by omega) (by omega), ?_⟩   -- 81
              refine ⟨by omega, ?_, ⟨rfl, rfl, rfl, trivial⟩, ⟨rfl, rfl, rfl, trivial⟩, rfl⟩
              intro i hi j hj
              by_cases e : i = i3
              · subst e; exact hF4 j hj
              · exact hF3 i (by omega) j hj
          · replace h79 := of_decide_eq_false h79
            have e3 : n = i3 := by omega
            subst e3
            refine ⟨⟨by first | omega | (simp <;> omega), by first | omega | (simp <;> omega)⟩, ?_⟩   -- 112 := lda [['.t', 111], 0, 8]
            refine ⟨3, [], _, _, _, _, [_, _, _], rfl, s_l03Counit_ok B E.2.2.2.2.2.2.2.2 (by omega) (by omega) (by omega), rfl, trivial, rfl, rfl, ?_⟩   -- 113
            refine ⟨fun h114 => ?_, fun h114 => ?_⟩
            · replace h114 := bne_t h114
              refine ⟨rfl, [], ?_, rfl, trivial, rfl, rfl⟩
              exact one_i (bia5 a0 a1 a2 a3 fun q => h114 q.2)
            · replace h114 := bne_f h114
              refine ⟨rfl, [], ?_, rfl, trivial, rfl, rfl⟩
              exact one_i (bia0 a0 a1 a2 a3 ⟨fun i j hi hj => hF3 i hi j hj, h114⟩)

theorem s_l03Fails_ok (B : Bs P ρ) (E : E_s_l03Fails P ρ) {n : Nat} {p : Int} {f : By} (h : HShp p n f) :
    CallOK P ρ 46 [.ag [p, (n : Int)] 1106 f] [] (.one (.i .i64 (if bia p n f ≠ 0 then bia p n f else if ¬ AxN p n f 5 then 6 else if ¬ AxN p n f 6 then 7 else 0))) [] := by
  refine call_of_vc B.fn B.mo E.1 rfl rfl ?_
  have hb := h.b
  refine ⟨0, rfl, ?_⟩   -- .box 1
  refine ⟨1, [], _, _, _, _, [_], rfl, s_l03Bialgebra_ok B E.2.1 h, rfl, trivial, rfl, rfl, ?_⟩   -- 5
  refine ⟨fun h6 => ?_, fun h6 => ?_⟩
  · replace h6 := bne_t h6
    have h6' : bia p n f ≠ 0 := h6
    refine ⟨rfl, [], ?_, rfl, trivial, rfl, rfl⟩
    exact one_i (if_pos h6').symm
  · replace h6 := bne_f h6
    have h6' : ¬ bia p n f ≠ 0 := fun q => q h6
    refine ⟨⟨by first | omega | (simp <;> omega), by first | omega | (simp <;> omega)⟩, ?_⟩   -- 13 := lda [['.t', 12], 0, 64]
    refine ⟨1, [], _, _, _, _, [_], rfl, s_l03Antipode_ok B E.2.2 (by omega) (by omega) (by omega), rfl, trivial, rfl, rfl, ?_⟩   -- 14
    refine ⟨fun h10 => ?_, fun h10 => ?_⟩
    · skip
      have h10' : ¬ AxN p n f 5 := fun q => dec_elim_t' (not_t h10) fun i hi => AxT_eq.2 (q i hi)
      refine ⟨rfl, [], ?_, rfl, trivial, rfl, rfl⟩
      exact one_i (by rw [if_neg h6', if_pos h10'])
    · skip
      have w10 : ∀ i, i < n → AxT p n f (sh f 1042) false i := dec_elim_t (not_f h10)
      have v10 : AxN p n f 5 := show ∀ i, i < n → AxS p n f true i from fun i hi => (AxT_eq (b := false)).1 (w10 i hi)
      have h10' : ¬ ¬ AxN p n f 5 := not_not_intro v10
      refine ⟨⟨by first | omega | (simp <;> omega), by first | omega | (simp <;> omega)⟩, ?_⟩   -- 19 := lda [['.t', 18], 0, 64]
      refine ⟨1, [], _, _, _, _, [_], rfl, s_l03Antipode_ok B E.2.2 (by omega) (by omega) (by omega), rfl, trivial, rfl, rfl, ?_⟩   -- 20
      refine ⟨fun h16 => ?_, fun h16 => ?_⟩
      · skip
        have h16' : ¬ AxN p n f 6 := fun q => dec_elim_t' (not_t h16) fun i hi => AxT_eq.2 (q i hi)
        refine ⟨rfl, [], ?_, rfl, trivial, rfl, rfl⟩
        exact one_i (by rw [if_neg h6', if_neg h10', if_pos h16'])
      · skip
        have w16 : ∀ i, i < n → AxT p n f (sh f 1042) true i := dec_elim_t (not_f h16)
        have v16 : AxN p n f 6 := show ∀ i, i < n → AxS p n f false i from fun i hi => (AxT_eq (b := true)).1 (w16 i hi)
        have h16' : ¬ ¬ AxN p n f 6 := not_not_intro v16
        refine ⟨rfl, [], ?_, rfl, trivial, rfl, rfl⟩
        exact one_i (by rw [if_neg h6', if_neg h10', if_neg h16'])

theorem fails_0 {p : Int} {n : Nat} {f : By} : (if bia p n f ≠ 0 then bia p n f else if ¬ AxN p n f 5 then 6 else if ¬ AxN p n f 6 then 7 else 0) = 0 ↔ ∀ i, i < 7 → AxN p n f i := by
  by_cases h : bia p n f ≠ 0
  · rw [if_pos h]
    exact ⟨fun q => (h q).elim, fun q => (h (bia_0.2 fun i hi => q i (by omega))).elim⟩
  · rw [if_neg h]
    have h' := bia_0.1 (Classical.not_not.1 h)
    by_cases h5 : AxN p n f 5
    · rw [if_neg (not_not_intro h5)]
      by_cases h6 : AxN p n f 6
      · rw [if_neg (not_not_intro h6)]
        refine ⟨fun _ i hi => ?_, fun _ => rfl⟩
        have : i < 5 ∨ i = 5 ∨ i = 6 := by omega
        rcases this with e | rfl | rfl
        · exact h' i e
        · exact h5
        · exact h6
      · rw [if_pos h6]
        exact ⟨fun q => (by omega), fun q => (h6 (q 6 (by omega))).elim⟩
    · rw [if_pos h5]
      exact ⟨fun q => (by omega), fun q => (h5 (q 5 (by omega))).elim⟩

theorem s_l03Is_s_ok (B : Bs P ρ) (E : E_s_l03Is P ρ) {n p : Int} {f : By} (hS : ¬ HShp p n f) :
    CallOK P ρ 24 [.ag [p, n] 1106 f] [] (.one (.b false)) [] := by
  refine call_of_vc B.fn B.mo E.1 rfl rfl ?_
  refine ⟨0, rfl, ?_⟩   -- .box 1
  refine ⟨1, [], _, _, _, _, [_], rfl, s_l03Shape_ok B E.2.1 , rfl, trivial, rfl, rfl, ?_⟩   -- 4
  refine ⟨fun h5 => ?_, fun h5 => ?_⟩
  · skip
    exact (hS (dec_elim_t h5)).elim
  · skip
    refine brB_f ?_
    refine brB_f ?_
    refine brB_f ?_
    exact ⟨rfl, [], rfl, rfl, trivial, rfl, rfl⟩

theorem s_l03Is_t_ok (B : Bs P ρ) (E : E_s_l03Is P ρ) {n : Nat} {p : Int} {f : By} (h : HShp p n f) :
    CallOK P ρ 24 [.ag [p, (n : Int)] 1106 f] [] (.one (.b (decide (Hop p n f)))) [] := by
  refine call_of_vc B.fn B.mo E.1 rfl rfl ?_
  refine ⟨0, rfl, ?_⟩   -- .box 1
  refine ⟨1, [], _, _, _, _, [_], rfl, s_l03Shape_ok B E.2.1 , rfl, trivial, rfl, rfl, ?_⟩   -- 4
  refine ⟨fun h5 => ?_, fun h5 => ?_⟩
  · skip
    refine brB_t ?_
    refine ⟨1, [], _, _, _, _, [_], rfl, s_l03Fails_ok B E.2.2 h, rfl, trivial, rfl, rfl, ?_⟩   -- 7
    refine brB_t ?_
    refine brB_t ?_
    refine ⟨rfl, [], ?_, rfl, trivial, rfl, rfl⟩
    refine one_b ?_
    rw [Bool.eq_iff_iff, beq_iff_eq, decide_eq_true_iff]
    exact fails_0.trans ⟨fun q => ⟨h, q⟩, fun q => q.2⟩
  · skip
    exact (dec_elim_t' h5 h).elim

theorem s_l03Is_ok (B : Bs P ρ) (E : E_s_l03Is P ρ) {n p : Int} {f : By} : CallOK P ρ 24 [.ag [p, n] 1106 f] [] (.one (.b (decide (Hop p n f)))) [] := by
  by_cases hS : HShp p n f
  · obtain ⟨m, rfl⟩ : ∃ m : Nat, n = (m : Int) := ⟨n.toNat, by have := hS.1.2.1; omega⟩
    exact s_l03Is_t_ok B E hS
  · rw [decide_eq_false fun q : Hop p n f => hS q.1]
    exact s_l03Is_s_ok B E hS
end Hf
namespace Hf
open Go Classical
variable {P : Program} {ρ : Nat → FuncId}
def cut (n : Nat) (f : By) : By := fun x => if x < n then f x else 0
theorem cut_lt {n : Nat} {f : By} {x : Nat} (h : x < n) : cut n f x = f x := by simp only [cut]; rw [if_pos h]
theorem cut_ge {n : Nat} {f : By} {x : Nat} (h : n ≤ x) : cut n f x = 0 := by simp only [cut]; rw [if_neg (by omega)]
theorem cut_0 {f : By} : cut 0 f = fun _ => 0 := by funext x; exact cut_ge (Nat.zero_le _)
theorem cut_upd {f : By} {i : Nat} : upd (cut i f) i (f i) = cut (i + 1) f := by
  funext x
  simp only [upd, cut]
  by_cases e : x = i
  · subst e; rw [if_pos rfl, if_pos (by omega)]
  · rw [if_neg e]
    by_cases h : x < i
    · rw [if_pos h, if_pos (by omega)]
    · rw [if_neg h, if_neg (by omega)]
theorem cut_spl {f : By} {a m b : Nat} (hb : b = a + m) : spl (cut a f) a m (sh f a) = cut b f := by
  subst hb
  funext x
  simp only [spl, cut, sh]
  by_cases e : a ≤ x ∧ x < a + m
  · rw [if_pos e, if_pos (by omega), show a + (x - a) = x by omega]
  · rw [if_neg e]
    by_cases h : x < a
    · rw [if_pos h, if_pos (by omega)]
    · rw [if_neg h, if_neg (by omega)]
theorem out_cut {n : Nat} {f : By} : sh (spl (fun _ => 0) 0 n (sh (cut n f) 0)) 0 = cut n f := out_eq (fun _ _ => rfl) fun _ h => cut_ge h
theorem eq_cut {n : Nat} {f : By} : eqA (.ag [] n (cut n f)) (.ag [] n f) := ⟨_, rfl, fun _ _ h => cut_lt h⟩

theorem l_toVector_raw_ok (B : Bs P ρ) (E : E_l_toVector P ρ) {f : By} :
    CallOK P ρ 16 [.ag [] 8 f] [] (.one (.ag [] 8 (cut 8 f))) [] := by
  refine call_of_vc B.fn B.mo E rfl rfl ?_
  refine ⟨0, rfl, ?_⟩   -- .box 1
  refine ⟨1, rfl, ?_⟩   -- .alo 2
  refine ⟨2, rfl, ?_⟩   -- .alo 3
  refine ⟨(fun b0 b1 i0 => St.mk [(1, .one (.pt 0 0)), (2, .one (.pt 1 0)), (3, .one (.pt 2 0)), (4, .one (.i .i64 ((i0 : Nat) : Int)))] [b0, b1, Blk.mk false (.by [] 8 (cut i0 f))]) _ _ , fun i0 => True, 8, trivial, ⟨⟨rfl, rfl, rfl, rfl, trivial⟩, ⟨rfl, rfl, ?_, trivial⟩, rfl⟩, fun i0 hi0 _ => ?_⟩
  · exact blk_by cut_0
  refine ⟨fun h6 => ?_, fun h6 => ?_⟩
  · replace h6 := of_decide_eq_true h6
    refine ⟨i0, i0, rfl, by omega, by omega, ?_⟩   -- 11
    refine ⟨⟨by first | omega | (simp <;> omega), by first | omega | (simp <;> omega)⟩, ?_⟩   -- 12 := ld8 ['.t', 11]
    refine ⟨i0, i0, rfl, by omega, by omega, ?_⟩   -- 13
    refine ⟨⟨by first | omega | (simp <;> omega), by first | omega | (simp <;> omega)⟩, ?_⟩   -- st8 ['.t', 13] ['.t', 12]
    refine ⟨((i0 + 1 : Nat) : Int), w64_id _ (by omega) (by omega), ?_⟩   -- 8
    refine ⟨by omega, trivial, ⟨rfl, rfl, rfl, rfl, trivial⟩, ⟨rfl, rfl, ?_, trivial⟩, rfl⟩
    exact blk_by cut_upd.symm
  · replace h6 := of_decide_eq_false h6
    have e0 : 8 = i0 := by omega
    subst e0
    refine ⟨⟨by first | omega | (simp <;> omega), by first | omega | (simp <;> omega)⟩, ?_⟩   -- 14 := lda [['.t', 3], 0, 8]
    refine ⟨⟨rfl, by first | omega | (simp <;> omega), by first | omega | (simp <;> omega)⟩, ?_⟩   -- sta ['.t', 2] ['.t', 14] 8
    refine ⟨rfl, ⟨by first | omega | (simp <;> omega), by first | omega | (simp <;> omega)⟩, [], ?_, rfl, trivial, rfl, rfl⟩
    exact one_ag out_cut

theorem l_toVector_ok (B : Bs P ρ) (E : E_l_toVector P ρ) {f : By} : CallOK P ρ 16 [.ag [] 8 f] [] (.one (.ag [] 8 f)) [] := (l_toVector_raw_ok B E).conv eqL_rfl eq_cut eqH_rfl

theorem l_toLinear_raw_ok (B : Bs P ρ) (E : E_l_toLinear P ρ) {f : By} :
    CallOK P ρ 26 [.ag [] 64 f] [] (.one (.ag [] 64 (cut 64 f))) [] := by
  refine call_of_vc B.fn B.mo E.1 rfl rfl ?_
  refine ⟨0, rfl, ?_⟩   -- .box 1
  refine ⟨1, rfl, ?_⟩   -- .alo 2
  refine ⟨2, rfl, ?_⟩   -- .alo 3
  refine ⟨(fun b0 b1 i0 => St.mk [(1, .one (.pt 0 0)), (2, .one (.pt 1 0)), (3, .one (.pt 2 0)), (4, .one (.i .i64 ((i0 : Nat) : Int)))] [b0, b1, Blk.mk false (.by [] 64 (cut (i0 * 8) f))]) _ _ , fun i0 => True, 8, trivial, ⟨⟨rfl, rfl, rfl, rfl, trivial⟩, ⟨rfl, rfl, ?_, trivial⟩, rfl⟩, fun i0 hi0 _ => ?_⟩
  · exact blk_by (by rw [Nat.zero_mul]; exact cut_0)
  refine ⟨fun h6 => ?_, fun h6 => ?_⟩
  · replace h6 := of_decide_eq_true h6
    refine ⟨i0, i0 * 8, rfl, by omega, by omega, ?_⟩   -- 11
    refine ⟨⟨by first | omega | (simp <;> omega), by first | omega | (simp <;> omega)⟩, ?_⟩   -- 12 := lda [['.t', 11], 0, 8]
    refine ⟨3, [], _, _, _, _, [_, _, _], rfl, l_toVector_ok B E.2 , rfl, trivial, rfl, rfl, ?_⟩   -- 13
    refine ⟨i0, i0 * 8, rfl, by omega, by omega, ?_⟩   -- 14
    refine ⟨⟨rfl, by first | omega | (simp <;> omega), by first | omega | (simp <;> omega)⟩, ?_⟩   -- sta ['.t', 14] ['.t', 13] 8
    refine ⟨((i0 + 1 : Nat) : Int), w64_id _ (by omega) (by omega), ?_⟩   -- 8
    refine ⟨by omega, trivial, ⟨rfl, rfl, rfl, rfl, trivial⟩, ⟨rfl, rfl, ?_, trivial⟩, rfl⟩
    exact blk_by (cut_spl (by omega)).symm
  · replace h6 := of_decide_eq_false h6
    have e0 : 8 = i0 := by omega
    subst e0
    refine ⟨⟨by first | omega | (simp <;> omega), by first | omega | (simp <;> omega)⟩, ?_⟩   -- 15 := lda [['.t', 3], 0, 64]
    refine ⟨⟨rfl, by first | omega | (simp <;> omega), by first | omega | (simp <;> omega)⟩, ?_⟩   -- sta ['.t', 2] ['.t', 15] 64
    refine ⟨rfl, ⟨by first | omega | (simp <;> omega), by first | omega | (simp <;> omega)⟩, [], ?_, rfl, trivial, rfl, rfl⟩
    exact one_ag out_cut

theorem l_toLinear_ok (B : Bs P ρ) (E : E_l_toLinear P ρ) {f : By} : CallOK P ρ 26 [.ag [] 64 f] [] (.one (.ag [] 64 f)) [] := (l_toLinear_raw_ok B E).conv eqL_rfl eq_cut eqH_rfl

theorem l_toTable_raw_ok (B : Bs P ρ) (E : E_l_toTable P ρ) {f : By} :
    CallOK P ρ 25 [.ag [] 512 f] [] (.one (.ag [] 512 (cut 512 f))) [] := by
  refine call_of_vc B.fn B.mo E.1 rfl rfl ?_
  refine ⟨0, rfl, ?_⟩   -- .box 1
  refine ⟨1, rfl, ?_⟩   -- .alo 2
  refine ⟨2, rfl, ?_⟩   -- .alo 3
  refine ⟨(fun b0 b1 i0 => St.mk [(1, .one (.pt 0 0)), (2, .one (.pt 1 0)), (3, .one (.pt 2 0)), (4, .one (.i .i64 ((i0 : Nat) : Int)))] [b0, b1, Blk.mk false (.by [] 512 (cut (i0 * 64) f))]) _ _ , fun i0 => True, 8, trivial, ⟨⟨rfl, rfl, rfl, rfl, trivial⟩, ⟨rfl, rfl, ?_, trivial⟩, rfl⟩, fun i0 hi0 _ => ?_⟩
  · exact blk_by (by rw [Nat.zero_mul]; exact cut_0)
  refine ⟨fun h6 => ?_, fun h6 => ?_⟩
  · replace h6 := of_decide_eq_true h6
    refine ⟨i0, i0 * 64, rfl, by omega, by omega, ?_⟩   -- 11
    refine ⟨⟨by first | omega | (simp <;> omega), by first | omega | (simp <;> omega)⟩, ?_⟩   -- 12 := lda [['.t', 11], 0, 64]
    refine ⟨3, [], _, _, _, _, [_, _, _], rfl, l_toLinear_ok B E.2 , rfl, trivial, rfl, rfl, ?_⟩   -- 13
    refine ⟨i0, i0 * 64, rfl, by omega, by omega, ?_⟩   -- 14
    refine ⟨⟨rfl, by first | omega | (simp <;> omega), by first | omega | (simp <;> omega)⟩, ?_⟩   -- sta ['.t', 14] ['.t', 13] 64
    refine ⟨((i0 + 1 : Nat) : Int), w64_id _ (by omega) (by omega), ?_⟩   -- 8
    refine ⟨by omega, trivial, ⟨rfl, rfl, rfl, rfl, trivial⟩, ⟨rfl, rfl, ?_, trivial⟩, rfl⟩
    exact blk_by (cut_spl (by omega)).symm
  · replace h6 := of_decide_eq_false h6
    have e0 : 8 = i0 := by omega
    subst e0
    refine ⟨⟨by first | omega | (simp <;> omega), by first | omega | (simp <;> omega)⟩, ?_⟩   -- 15 := lda [['.t', 3], 0, 512]
    refine ⟨⟨rfl, by first | omega | (simp <;> omega), by first | omega | (simp <;> omega)⟩, ?_⟩   -- sta ['.t', 2] ['.t', 15] 512
    refine ⟨rfl, ⟨by first | omega | (simp <;> omega), by first | omega | (simp <;> omega)⟩, [], ?_, rfl, trivial, rfl, rfl⟩
    exact one_ag out_cut

theorem l_toTable_ok (B : Bs P ρ) (E : E_l_toTable P ρ) {f : By} : CallOK P ρ 25 [.ag [] 512 f] [] (.one (.ag [] 512 f)) [] := (l_toTable_raw_ok B E).conv eqL_rfl eq_cut eqH_rfl
def hopR (f : By) : By := spl (spl (spl (spl (spl (fun _ => 0) 2 8 (sh f 2)) 10 512 (sh f 10)) 522 8 (sh f 522)) 530 512 (sh f 530)) 1042 64 (sh f 1042)
theorem hopR_eq {f : By} {x : Nat} (h1 : 2 ≤ x) (h2 : x < 1106) : hopR f x = f x := by
  simp only [hopR, spl, sh]
  by_cases e1 : 1042 ≤ x
  · rw [if_pos (by omega), show 1042 + (x - 1042) = x by omega]
  · rw [if_neg (by omega)]
    by_cases e2 : 530 ≤ x
    · rw [if_pos (by omega), show 530 + (x - 530) = x by omega]
    · rw [if_neg (by omega)]
      by_cases e3 : 522 ≤ x
      · rw [if_pos (by omega), show 522 + (x - 522) = x by omega]
      · rw [if_neg (by omega)]
        by_cases e4 : 10 ≤ x
        · rw [if_pos (by omega), show 10 + (x - 10) = x by omega]
        · rw [if_neg (by omega), if_pos (by omega), show 2 + (x - 2) = x by omega]

theorem l_toHopf_raw_ok (B : Bs P ρ) (E : E_l_toHopf P ρ) {p n : Int} {f : By} :
    CallOK P ρ 0 [.ag [p, n] 1106 f] [] (.one (.ag [p, n] 1106 (hopR f))) [] := by
  refine call_of_vc B.fn B.mo E.1 rfl rfl ?_
  refine ⟨0, rfl, ?_⟩   -- .box 1
  refine ⟨1, rfl, ?_⟩   -- .alo 2
  refine ⟨2, rfl, ?_⟩   -- .alo 3
  refine ⟨⟨by first | omega | (simp <;> omega), by first | omega | (simp <;> omega)⟩, ?_⟩   -- 11 := lda [['.t', 10], 0, 8]
  refine ⟨3, [], _, _, _, _, [_, _, _], rfl, l_toVector_ok B E.2.1 , rfl, trivial, rfl, rfl, ?_⟩   -- 12
  refine ⟨⟨rfl, by first | omega | (simp <;> omega), by first | omega | (simp <;> omega)⟩, ?_⟩   -- sta ['.t', 13] ['.t', 12] 8
  refine ⟨⟨by first | omega | (simp <;> omega), by first | omega | (simp <;> omega)⟩, ?_⟩   -- 15 := lda [['.t', 14], 0, 512]
  refine ⟨3, [], _, _, _, _, [_, _, _], rfl, l_toTable_ok B E.2.2.1 , rfl, trivial, rfl, rfl, ?_⟩   -- 16
  refine ⟨⟨rfl, by first | omega | (simp <;> omega), by first | omega | (simp <;> omega)⟩, ?_⟩   -- sta ['.t', 17] ['.t', 16] 512
  refine ⟨⟨by first | omega | (simp <;> omega), by first | omega | (simp <;> omega)⟩, ?_⟩   -- 19 := lda [['.t', 18], 0, 8]
  refine ⟨3, [], _, _, _, _, [_, _, _], rfl, l_toVector_ok B E.2.1 , rfl, trivial, rfl, rfl, ?_⟩   -- 20
  refine ⟨⟨rfl, by first | omega | (simp <;> omega), by first | omega | (simp <;> omega)⟩, ?_⟩   -- sta ['.t', 21] ['.t', 20] 8
  refine ⟨⟨by first | omega | (simp <;> omega), by first | omega | (simp <;> omega)⟩, ?_⟩   -- 23 := lda [['.t', 22], 0, 512]
  refine ⟨3, [], _, _, _, _, [_, _, _], rfl, l_toTable_ok B E.2.2.1 , rfl, trivial, rfl, rfl, ?_⟩   -- 24
  refine ⟨⟨rfl, by first | omega | (simp <;> omega), by first | omega | (simp <;> omega)⟩, ?_⟩   -- sta ['.t', 25] ['.t', 24] 512
  refine ⟨⟨by first | omega | (simp <;> omega), by first | omega | (simp <;> omega)⟩, ?_⟩   -- 27 := lda [['.t', 26], 0, 64]
  refine ⟨3, [], _, _, _, _, [_, _, _], rfl, l_toLinear_ok B E.2.2.2 , rfl, trivial, rfl, rfl, ?_⟩   -- 28
  refine ⟨⟨rfl, by first | omega | (simp <;> omega), by first | omega | (simp <;> omega)⟩, ?_⟩   -- sta ['.t', 29] ['.t', 28] 64
  exact ⟨rfl, ⟨by first | omega | (simp <;> omega), by first | omega | (simp <;> omega)⟩, [], rfl, rfl, trivial, rfl, rfl⟩

theorem l_toHopf_ok (B : Bs P ρ) (E : E_l_toHopf P ρ) {p n : Int} {f : By} : CallOK P ρ 0 [.ag [p, n] 1106 f] [] (.one (.ag [p, n] 1106 f)) [] := (l_toHopf_raw_ok B E).conv eqL_rfl ⟨_, rfl, fun _ h1 h2 => hopR_eq h1 h2⟩ eqH_rfl

theorem l_eqVector_ok (B : Bs P ρ) (E : E_l_eqVector P ρ) {f : By} :
    CallOK P ρ 19 [.ag [] 8 f, .ag [] 8 f] [] (.one (.b true)) [] := by
  refine call_of_vc B.fn B.mo E rfl rfl ?_
  refine ⟨0, rfl, ?_⟩   -- .box 2
  refine ⟨1, rfl, ?_⟩   -- .box 3
  refine ⟨(fun b0 b1 i0 => St.mk [(2, .one (.pt 0 0)), (3, .one (.pt 1 0)), (5, .one (.i .i64 ((i0 : Nat) : Int)))] [b0, b1]) _ _ , fun i0 => True, 8, trivial, ⟨⟨rfl, rfl, rfl, trivial⟩, ⟨rfl, rfl, trivial⟩, rfl⟩, fun i0 hi0 _ => ?_⟩
  refine ⟨fun h7 => ?_, fun h7 => ?_⟩
  · replace h7 := of_decide_eq_true h7
    refine ⟨i0, i0, rfl, by omega, by omega, ?_⟩   -- 11
    refine ⟨⟨by first | omega | (simp <;> omega), by first | omega | (simp <;> omega)⟩, ?_⟩   -- 12 := ld8 ['.t', 11]
    refine ⟨i0, i0, rfl, by omega, by omega, ?_⟩   -- 14
    refine ⟨⟨by first | omega | (simp <;> omega), by first | omega | (simp <;> omega)⟩, ?_⟩   -- 15 := ld8 ['.t', 14]
    refine ⟨fun h16 => ?_, fun h16 => ?_⟩
    · replace h16 := bne_t h16
      exact (h16 rfl).elim
    · replace h16 := bne_f h16
      refine ⟨((i0 + 1 : Nat) : Int), w64_id _ (by omega) (by omega), ?_⟩   -- 9
      exact ⟨by omega, trivial, ⟨rfl, rfl, rfl, trivial⟩, ⟨rfl, rfl, trivial⟩, rfl⟩
  · replace h7 := of_decide_eq_false h7
    have e0 : 8 = i0 := by omega
    subst e0
    exact ⟨rfl, [], rfl, rfl, trivial, rfl, rfl⟩

theorem l_eqLinear_ok (B : Bs P ρ) (E : E_l_eqLinear P ρ) {f : By} :
    CallOK P ρ 50 [.ag [] 64 f, .ag [] 64 f] [] (.one (.b true)) [] := by
  refine call_of_vc B.fn B.mo E.1 rfl rfl ?_
  refine ⟨0, rfl, ?_⟩   -- .box 2
  refine ⟨1, rfl, ?_⟩   -- .box 3
  refine ⟨(fun b0 b1 i0 => St.mk [(2, .one (.pt 0 0)), (3, .one (.pt 1 0)), (5, .one (.i .i64 ((i0 : Nat) : Int)))] [b0, b1]) _ _ , fun i0 => True, 8, trivial, ⟨⟨rfl, rfl, rfl, trivial⟩, ⟨rfl, rfl, trivial⟩, rfl⟩, fun i0 hi0 _ => ?_⟩
  refine ⟨fun h7 => ?_, fun h7 => ?_⟩
  · replace h7 := of_decide_eq_true h7
    refine ⟨i0, i0 * 8, rfl, by omega, by omega, ?_⟩   -- 11
    refine ⟨⟨by first | omega | (simp <;> omega), by first | omega | (simp <;> omega)⟩, ?_⟩   -- 12 := lda [['.t', 11], 0, 8]
    refine ⟨i0, i0 * 8, rfl, by omega, by omega, ?_⟩   -- 14
    refine ⟨⟨by first | omega | (simp <;> omega), by first | omega | (simp <;> omega)⟩, ?_⟩   -- 15 := lda [['.t', 14], 0, 8]
    refine ⟨2, [], _, _, _, _, [_, _], rfl, l_eqVector_ok B E.2 , rfl, trivial, rfl, rfl, ?_⟩   -- 16
    refine ⟨fun h17 => ?_, fun h17 => ?_⟩
    · skip
      exact absurd h17 (by decide)
    · skip
      refine ⟨((i0 + 1 : Nat) : Int), w64_id _ (by omega) (by omega), ?_⟩   -- 9
      exact ⟨by omega, trivial, ⟨rfl, rfl, rfl, trivial⟩, ⟨rfl, rfl, trivial⟩, rfl⟩
  · replace h7 := of_decide_eq_false h7
    have e0 : 8 = i0 := by omega
    subst e0
    exact ⟨rfl, [], rfl, rfl, trivial, rfl, rfl⟩

/-- what a function answers, or nothing -/
noncomputable def oi (q : Prop) (a : Int) : Int := if q then a else 0
noncomputable def ob (q : Prop) (f : By) : By := if q then f else fun _ => 0
noncomputable def oc (q : Prop) (c : Int) : Int := if q then 0 else c
theorem oi_t {q : Prop} (h : q) {a : Int} : oi q a = a := if_pos h
theorem ob_t {q : Prop} (h : q) {f : By} : ob q f = f := if_pos h
theorem oc_t {q : Prop} (h : q) {c : Int} : oc q c = 0 := if_pos h
theorem oi_f {q : Prop} (h : ¬ q) {a : Int} : oi q a = 0 := if_neg h
theorem ob_f {q : Prop} (h : ¬ q) {f : By} : ob q f = fun _ => 0 := if_neg h
theorem oc_f {q : Prop} (h : ¬ q) {c : Int} : oc q c = c := if_neg h

end Hf
namespace Hf
open Go Classical
variable {P : Program} {ρ : Nat → FuncId}
theorem l_eqTable_ok (B : Bs P ρ) (E : E_l_eqTable P ρ) {f : By} :
    CallOK P ρ 37 [.ag [] 512 f, .ag [] 512 f] [] (.one (.b true)) [] := by
  refine call_of_vc B.fn B.mo E.1 rfl rfl ?_
  refine ⟨0, rfl, ?_⟩   -- .box 2
  refine ⟨1, rfl, ?_⟩   -- .box 3
  refine ⟨(fun b0 b1 i0 => St.mk [(2, .one (.pt 0 0)), (3, .one (.pt 1 0)), (5, .one (.i .i64 ((i0 : Nat) : Int)))] [b0, b1]) _ _ , fun i0 => True, 8, trivial, ⟨⟨rfl, rfl, rfl, trivial⟩, ⟨rfl, rfl, trivial⟩, rfl⟩, fun i0 hi0 _ => ?_⟩
  refine ⟨fun h7 => ?_, fun h7 => ?_⟩
  · replace h7 := of_decide_eq_true h7
    refine ⟨i0, i0 * 64, rfl, by omega, by omega, ?_⟩   -- 11
    refine ⟨⟨by first | omega | (simp <;> omega), by first | omega | (simp <;> omega)⟩, ?_⟩   -- 12 := lda [['.t', 11], 0, 64]
    refine ⟨i0, i0 * 64, rfl, by omega, by omega, ?_⟩   -- 14
    refine ⟨⟨by first | omega | (simp <;> omega), by first | omega | (simp <;> omega)⟩, ?_⟩   -- 15 := lda [['.t', 14], 0, 64]
    refine ⟨2, [], _, _, _, _, [_, _], rfl, l_eqLinear_ok B E.2 , rfl, trivial, rfl, rfl, ?_⟩   -- 16
    refine ⟨fun h17 => ?_, fun h17 => ?_⟩
    · skip
      exact absurd h17 (by decide)
    · skip
      refine ⟨((i0 + 1 : Nat) : Int), w64_id _ (by omega) (by omega), ?_⟩   -- 9
      exact ⟨by omega, trivial, ⟨rfl, rfl, rfl, trivial⟩, ⟨rfl, rfl, trivial⟩, rfl⟩
  · replace h7 := of_decide_eq_false h7
    have e0 : 8 = i0 := by omega
    subst e0
    exact ⟨rfl, [], rfl, rfl, trivial, rfl, rfl⟩

theorem l_eqAlgebra_ok (B : Bs P ρ) (E : E_l_eqAlgebra P ρ) {p n : Int} {f : By} :
    CallOK P ρ 10 [.ag [p, n] 522 f, .ag [p, n] 522 f] [] (.one (.b true)) [] := by
  refine call_of_vc B.fn B.mo E.1 rfl rfl ?_
  refine ⟨0, rfl, ?_⟩   -- .box 2
  refine ⟨1, rfl, ?_⟩   -- .box 3
  refine ⟨fun h9 => ?_, fun h9 => ?_⟩
  · replace h9 := bne_t h9
    exact (h9 rfl).elim
  · replace h9 := bne_f h9
    refine ⟨fun h14 => ?_, fun h14 => ?_⟩
    · replace h14 := bne_t h14
      exact (h14 rfl).elim
    · replace h14 := bne_f h14
      refine ⟨⟨by first | omega | (simp <;> omega), by first | omega | (simp <;> omega)⟩, ?_⟩   -- 16 := lda [['.t', 15], 0, 8]
      refine ⟨⟨by first | omega | (simp <;> omega), by first | omega | (simp <;> omega)⟩, ?_⟩   -- 18 := lda [['.t', 17], 0, 8]
      refine ⟨2, [], _, _, _, _, [_, _], rfl, l_eqVector_ok B E.2.1 , rfl, trivial, rfl, rfl, ?_⟩   -- 19
      refine ⟨fun h20 => ?_, fun h20 => ?_⟩
      · skip
        exact absurd h20 (by decide)
      · skip
        refine ⟨⟨by first | omega | (simp <;> omega), by first | omega | (simp <;> omega)⟩, ?_⟩   -- 22 := lda [['.t', 21], 0, 512]
        refine ⟨⟨by first | omega | (simp <;> omega), by first | omega | (simp <;> omega)⟩, ?_⟩   -- 24 := lda [['.t', 23], 0, 512]
        refine ⟨2, [], _, _, _, _, [_, _], rfl, l_eqTable_ok B E.2.2 , rfl, trivial, rfl, rfl, ?_⟩   -- 25
        refine ⟨fun h26 => ?_, fun h26 => ?_⟩
        · skip
          exact absurd h26 (by decide)
        · skip
          exact ⟨rfl, [], rfl, rfl, trivial, rfl, rfl⟩

/-- two linear maps one after the other: first fb, at ob -/
def aft (fa fb : By) (oa ob y : Nat) : Int := sm 8 fun k => bz fb (ob + y / 8 * 8 + k) * bz fa (oa + k * 8 + y % 8)
/-- the linear map that leads each vector to itself -/
def sam (n : Nat) : By := fun y => if y / 8 < n ∧ y % 8 = y / 8 then 1 else 0
theorem sam_0 : sam 0 = fun _ => 0 := by funext y; simp only [sam]; rw [if_neg (by omega)]
theorem sam_s {i : Nat} (hi : i < 8) : spl (sam i) (i * 8) 8 (bas i) = sam (i + 1) := by
  funext y
  simp only [spl, sam, bas]
  by_cases e : i * 8 ≤ y ∧ y < i * 8 + 8
  · rw [if_pos e]
    by_cases e2 : y - i * 8 = i
    · rw [if_pos e2, if_pos (by omega)]
    · rw [if_neg e2, if_neg (by omega)]
  · rw [if_neg e]
    by_cases e2 : y / 8 < i ∧ y % 8 = y / 8
    · rw [if_pos e2, if_pos (by omega)]
    · rw [if_neg e2, if_neg (by omega)]
theorem sam_out {n : Nat} (hn : n ≤ 8) : ∀ y, 64 ≤ y → sam n y = 0 := fun y hy => by simp only [sam]; rw [if_neg (by omega)]

theorem i_field_after_ok (B : Bs P ρ) (E : E_i_field_after P ρ) {p n : Int} {g fa fb : By} {hda hdb : List Int} {Na Nb oa ob : Nat} (hp : 1 ≤ p) (hp2 : p ≤ 256) (hoa : hda.length ≤ oa) (hNa : oa + 64 ≤ Na) (hob : hdb.length ≤ ob) (hNb : ob + 64 ≤ Nb) :
    CallOK P ρ 33 [.ag [p, n] 2 g, .pt 0 oa, .pt 1 ob] [⟨true, .by hda Na fa⟩, ⟨true, .by hdb Nb fb⟩] (.one (.ag [] 64 (vec 64 p (aft fa fb oa ob)))) [⟨true, .by hda Na fa⟩, ⟨true, .by hdb Nb fb⟩] := by
  refine call_of_vc B.fn B.mo E.1 rfl rfl ?_
  refine ⟨2, rfl, ?_⟩   -- .box 3
  refine ⟨3, rfl, ?_⟩   -- .alo 6
  refine ⟨4, rfl, ?_⟩   -- .alo 7
  refine ⟨⟨rfl, by first | omega | (simp <;> omega), by first | omega | (simp <;> omega)⟩, ?_⟩   -- sta ['.t', 7] ['.t', 9] 64
  refine ⟨(fun a1 a2 b0 b1 b2 b3 i0 => St.mk [(1, a1), (2, a2), (3, .one (.pt 2 0)), (6, .one (.pt 3 0)), (7, .one (.pt 4 0)), (10, .one (.i .i64 ((i0 : Nat) : Int)))] [b0, b1, b2, b3, Blk.mk false (.by [] 64 (vec (i0 * 8) p (aft fa fb oa ob)))]) _ _ _ _ _ _ , fun i0 => True, 8, trivial, ⟨⟨rfl, rfl, rfl, rfl, rfl, rfl, trivial⟩, ⟨rfl, rfl, rfl, rfl, ?_, trivial⟩, rfl⟩, fun i0 hi0 _ => ?_⟩
  · refine blk_by ?_
    rw [z_spl _ _ (fun _ _ => rfl)]
    rfl
  refine ⟨fun h11 => ?_, fun h11 => ?_⟩
  · replace h11 := of_decide_eq_true h11
    refine ⟨i0, ob + i0 * 8, rfl, by omega, by omega, ?_⟩   -- 19
    refine ⟨⟨by first | omega | (simp <;> omega), by first | omega | (simp <;> omega)⟩, ?_⟩   -- 20 := lda [['.t', 19], 0, 8]
    refine ⟨5, [0], _, _, _, _, [_, _, _, _, _], rfl, i_field_apply_ok B E.2 (m := 8) hp hp2 hoa hNa (by omega) (fun i h1 h2 => by omega), rfl, ⟨⟨_, rfl, fun h => by first | rfl | cases h⟩, trivial⟩, rfl, rfl, rfl, ?_⟩   -- 21
    refine ⟨i0, i0 * 8, rfl, by omega, by omega, ?_⟩   -- 22
    refine ⟨⟨rfl, by first | omega | (simp <;> omega), by first | omega | (simp <;> omega)⟩, ?_⟩   -- sta ['.t', 22] ['.t', 21] 8
    refine ⟨((i0 + 1 : Nat) : Int), w64_id _ (by omega) (by omega), ?_⟩   -- 23
    refine ⟨by omega, trivial, ⟨rfl, rfl, rfl, rfl, rfl, rfl, trivial⟩, ⟨rfl, rfl, rfl, rfl, ?_, trivial⟩, rfl⟩
    refine blk_by ?_
    rw [show (i0 + 1) * 8 = i0 * 8 + 8 by omega]
    refine (spl_vec (y := fun y => sm 8 fun k => bz fb (ob + i0 * 8 + k) * bz fa (oa + k * 8 + y)) (fun k hk => rfl) fun k hk => ?_).symm
    unfold aft
    rw [show (i0 * 8 + k) / 8 = i0 by omega, show (i0 * 8 + k) % 8 = k by omega]
    rfl
  · replace h11 := of_decide_eq_false h11
    have e0 : 8 = i0 := by omega
    subst e0
    refine ⟨⟨by first | omega | (simp <;> omega), by first | omega | (simp <;> omega)⟩, ?_⟩   -- 24 := lda [['.t', 7], 0, 64]
    refine ⟨⟨rfl, by first | omega | (simp <;> omega), by first | omega | (simp <;> omega)⟩, ?_⟩   -- sta ['.t', 6] ['.t', 24] 64
    refine ⟨rfl, ⟨by first | omega | (simp <;> omega), by first | omega | (simp <;> omega)⟩, [], ?_, rfl, ⟨rfl, rfl, trivial⟩, rfl, rfl⟩
    exact one_ag out_vec

theorem i_field_identity_ok (B : Bs P ρ) (E : E_i_field_identity P ρ) {p : Int} {n : Nat} {g : By} (hn : n ≤ 8) :
    CallOK P ρ 44 [.ag [p, (n : Int)] 2 g] [] (.one (.ag [] 64 (sam n))) [] := by
  refine call_of_vc B.fn B.mo E.1 rfl rfl ?_
  refine ⟨0, rfl, ?_⟩   -- .box 1
  refine ⟨1, rfl, ?_⟩   -- .alo 2
  refine ⟨2, rfl, ?_⟩   -- .alo 3
  refine ⟨⟨rfl, by first | omega | (simp <;> omega), by first | omega | (simp <;> omega)⟩, ?_⟩   -- sta ['.t', 3] ['.t', 5] 64
  refine ⟨(fun a7 b0 b1 i0 => St.mk [(2, .one (.pt 1 0)), (3, .one (.pt 2 0)), (7, a7), (8, .one (.i .i64 ((i0 : Nat) : Int)))] [b0, b1, Blk.mk false (.by [] 64 (sam i0))]) _ _ _ , fun i0 => True, n, trivial, ⟨⟨rfl, rfl, rfl, rfl, trivial⟩, ⟨rfl, rfl, ?_, trivial⟩, rfl⟩, fun i0 hi0 _ => ?_⟩
  · exact blk_by (by rw [z_sta]; exact sam_0)
  refine ⟨fun h9 => ?_, fun h9 => ?_⟩
  · replace h9 := of_decide_eq_true h9
    refine ⟨3, [], _, _, _, _, [_, _, _], rfl, i_basis_ok B E.2 (i := i0) (by omega), rfl, trivial, rfl, rfl, ?_⟩   -- 13
    refine ⟨i0, i0 * 8, rfl, by omega, by omega, ?_⟩   -- 14
    refine ⟨⟨rfl, by first | omega | (simp <;> omega), by first | omega | (simp <;> omega)⟩, ?_⟩   -- sta ['.t', 14] ['.t', 13] 8
    refine ⟨((i0 + 1 : Nat) : Int), w64_id _ (by omega) (by omega), ?_⟩   -- 15
    refine ⟨by omega, trivial, ⟨rfl, rfl, rfl, rfl, trivial⟩, ⟨rfl, rfl, ?_, trivial⟩, rfl⟩
    exact blk_by (sam_s (by omega)).symm
  · replace h9 := of_decide_eq_false h9
    have e0 : n = i0 := by omega
    subst e0
    refine ⟨⟨by first | omega | (simp <;> omega), by first | omega | (simp <;> omega)⟩, ?_⟩   -- 16 := lda [['.t', 3], 0, 64]
    refine ⟨⟨rfl, by first | omega | (simp <;> omega), by first | omega | (simp <;> omega)⟩, ?_⟩   -- sta ['.t', 2] ['.t', 16] 64
    refine ⟨rfl, ⟨by first | omega | (simp <;> omega), by first | omega | (simp <;> omega)⟩, [], ?_, rfl, trivial, rfl, rfl⟩
    exact one_ag (out_eq (fun _ _ => rfl) (sam_out hn))

end Hf
namespace Hf
open Go Classical
variable {P : Program} {ρ : Nat → FuncId}
theorem sh_own {f g : By} {y : Nat} (h : y < 8) : sh (spl f 0 8 g) 0 y = g y := by
  rw [sh_zero]; simp only [spl]; rw [if_pos (by omega)]; rfl
end Hf
namespace Hf
open Go Classical
variable {P : Program} {ρ : Nat → FuncId}
theorem sm_bas {d k : Nat} {X : Nat → Int} (hk : k < d) : sm d (fun l => bz (bas k) l * X l) = X k := by
  have e : ∀ l, bz (bas k) l = if l = k then 1 else 0 := fun l => by
    simp only [bz, bas]; split <;> rfl
  rw [sm_ext (n := k + 1) (by omega) fun l h1 h2 => by rw [e l, if_neg (by omega), Int.zero_mul]]
  simp only [sm]
  rw [sm_zero fun l hl => by rw [e l, if_neg (by omega), Int.zero_mul], e k, if_pos rfl]; omega
theorem vec_cg {N : Nat} {p : Int} {X Y : Nat → Int} (hp : 1 ≤ p) (hp2 : p ≤ 256) {x : Nat} (hx : x < N) : vec N p X x = vec N p Y x ↔ cg p (X x) (Y x) := by
  simp only [vec]
  rw [if_pos hx, if_pos hx]
  exact ⟨fun h => byt_mod_inj hp hp2 h, fun h => congrArg byt h⟩
theorem vec_is {N : Nat} {p : Int} {X : Nat → Int} {g : By} (hp : 1 ≤ p) (hp2 : p ≤ 256) {x : Nat} (hx : x < N) (hg : bz g x < p) : vec N p X x = g x ↔ cg p (X x) (bz g x) := by
  have e : g x = vec N p (fun y => bz g y) x := by
    simp only [vec]
    rw [if_pos hx, Int.emod_eq_of_lt (bz_nn g x) hg, byt_bz]
  rw [e]
  exact vec_cg hp hp2 hx
theorem bas_lt {p : Int} (hp : 2 ≤ p) (k x : Nat) : bz (bas k) x < p := by
  simp only [bz, bas]
  split
  · show (1 : Int) < p; omega
  · show (0 : Int) < p; omega
/-- the tables of a module: Acts stand from 1 on -/
def TabM (p n d : Int) (g : By) : Prop := ∀ i : Nat, i < 8 → Lin p d d g (1 + i * 64) ∧ (n ≤ i → ∀ k : Nat, k < 64 → bz g (1 + i * 64 + k) = 0)
def actN (m d : Nat) (g a : By) (y : Nat) : Int := if y / 8 < d then sm m fun i => bz a i * bz g (1 + i * 64 + y) else 0
def acV (n d : Nat) (g a v : By) (y : Nat) : Int := sm n fun i => bz a i * sm d fun k => bz v k * bz g (1 + i * 64 + (k * 8 + y))
def MU (p : Int) (n : Nat) (g f : By) (k : Nat) : Prop := ∀ y, y < 8 → cg p (sm n fun l => bz f (2 + l) * bz g (1 + l * 64 + (k * 8 + y))) (bz (bas k) y)
def MA (p : Int) (n d : Nat) (g f : By) (i j k : Nat) : Prop := ∀ y, y < 8 → cg p (sm n fun l => bz f (10 + i * 64 + j * 8 + l) * bz g (1 + l * 64 + (k * 8 + y))) (sm d fun l => bz g (1 + j * 64 + k * 8 + l) * bz g (1 + i * 64 + (l * 8 + y)))
def Mod (p : Int) (n : Nat) (d : Int) (g f : By) : Prop := (Shp p d ∧ TabM p n d g) ∧ (∀ k, k < d.toNat → MU p n g f k) ∧ ∀ i j, i < n → j < n → ∀ k, k < d.toNat → MA p n d.toNat g f i j k
theorem TabM.z {p n d : Int} {g : By} (h : TabM p n d g) {i k l : Nat} (hi : i < 8) (hk : k < 8) (hl : l < 8) (hz : n ≤ i ∨ d ≤ k ∨ d ≤ l) : bz g (1 + i * 64 + k * 8 + l) = 0 := by
  have h1 := h i hi
  rcases hz with hz | hz | hz
  · have := h1.2 hz (k * 8 + l) (by omega)
    rwa [← Nat.add_assoc] at this
  · exact (h1.1 k hk).2 hz l hl
  · exact ((h1.1 k hk).1 l hl).2 hz
theorem MU_s {p : Int} {n d k : Nat} {g f : By} (hp : 2 ≤ p) (hp2 : p ≤ 256) (hk : k < d) : (∀ x, x < 8 → vec 8 p (acV n d g (sh f 2) (bas k)) x = bas k x) ↔ MU p n g f k := by
  refine forall_congr' fun y => imp_congr_right fun hy => ?_
  rw [vec_is (by omega) hp2 hy (bas_lt hp k y)]
  have e : acV n d g (sh f 2) (bas k) y = sm n fun l => bz f (2 + l) * bz g (1 + l * 64 + (k * 8 + y)) := by
    unfold acV
    exact sm_congr fun i _ => by rw [sm_bas hk]; rfl
  rw [e]
theorem MA_s {p : Int} {n d i j k : Nat} {g f : By} (hp : 2 ≤ p) (hp2 : p ≤ 256) (hk : k < d) : (∀ x, x < 8 → vec 8 p (acV n d g (sh f (10 + i * 64 + j * 8)) (bas k)) x = vec 8 p (fun y => sm d fun l => bz (sh g (1 + j * 64 + k * 8)) l * bz (sh g (1 + i * 64)) (l * 8 + y)) x) ↔ MA p n d g f i j k := by
  refine forall_congr' fun y => imp_congr_right fun hy => ?_
  rw [vec_cg (by omega) hp2 hy]
  have e : acV n d g (sh f (10 + i * 64 + j * 8)) (bas k) y = sm n fun l => bz f (10 + i * 64 + j * 8 + l) * bz g (1 + l * 64 + (k * 8 + y)) := by
    unfold acV
    exact sm_congr fun i _ => by rw [sm_bas hk]; rfl
  rw [e]
  rfl
theorem rows_iff {q : Nat → Prop} : (∀ x, x < 64 → q x) ↔ ∀ k, k < 8 → ∀ y, y < 8 → q (k * 8 + y) := by
  refine ⟨fun h k hk y hy => h _ (by omega), fun h x hx => ?_⟩
  have := h (x / 8) (by omega) (x % 8) (by omega)
  rwa [show x / 8 * 8 + x % 8 = x by omega] at this
theorem MU_i {p : Int} {n d : Nat} {g f : By} (hp : 2 ≤ p) (hp2 : p ≤ 256) (hn : n ≤ 8) (hd : d ≤ 8) (hu : ∀ k, n ≤ k → k < 8 → bz f (2 + k) = 0) : (∀ x, x < 64 → vec 64 p (actN 8 d g (sh f 2)) x = sam d x) ↔ ∀ k, k < d → MU p n g f k := by
  rw [rows_iff]
  have key : ∀ k, k < 8 → ∀ y, y < 8 → (vec 64 p (actN 8 d g (sh f 2)) (k * 8 + y) = sam d (k * 8 + y) ↔ (k < d → cg p (sm n fun l => bz f (2 + l) * bz g (1 + l * 64 + (k * 8 + y))) (bz (bas k) y))) := by
    intro k hk y hy
    by_cases e : k < d
    · have e1 : sam d (k * 8 + y) = bas k y := by
        simp only [sam, bas]
        by_cases e2 : y = k
        · rw [if_pos (by omega), if_pos e2]
        · rw [if_neg (by omega), if_neg e2]
      have e3 : vec 64 p (actN 8 d g (sh f 2)) (k * 8 + y) = vec 8 p (fun y => actN 8 d g (sh f 2) (k * 8 + y)) y := by
        simp only [vec]; rw [if_pos (by omega), if_pos hy]
      rw [e1, e3, vec_is (by omega) hp2 hy (bas_lt hp k y)]
      have e4 : actN 8 d g (sh f 2) (k * 8 + y) = sm n fun l => bz f (2 + l) * bz g (1 + l * 64 + (k * 8 + y)) := by
        unfold actN
        rw [if_pos (by omega)]
        exact sm_8n hn fun i h1 h2 => by rw [bz_sh, hu i h1 h2, Int.zero_mul]
      rw [e4]
      exact ⟨fun h _ => h, fun h => h e⟩
    · refine ⟨fun _ h => (e h).elim, fun _ => ?_⟩
      have e1 : sam d (k * 8 + y) = 0 := by simp only [sam]; rw [if_neg (by omega)]
      rw [e1]
      simp only [vec]
      rw [if_pos (by omega), actN, if_neg (by omega)]; simp; rfl
  constructor
  · intro h k hk y hy
    exact (key k (by omega) y hy).1 (h k (by omega) y hy) hk
  · intro h k hk y hy
    exact (key k hk y hy).2 fun hd => h k hd y hy
theorem MA_i {p : Int} {n d i j : Nat} {g f : By} (hp : 2 ≤ p) (hp2 : p ≤ 256) (hn : n ≤ 8) (hd : d ≤ 8) (hi : i < 8) (hj : j < 8) (hT : TabM p n d g) (hu : ∀ k, n ≤ k → k < 8 → bz f (10 + i * 64 + j * 8 + k) = 0) :
    (∀ x, x < 64 → vec 64 p (actN 8 d g (sh f (10 + i * 64 + j * 8))) x = vec 64 p (aft g g (1 + i * 64) (1 + j * 64)) x) ↔ ∀ k, k < d → MA p n d g f i j k := by
  rw [rows_iff]
  have key : ∀ k, k < 8 → ∀ y, y < 8 → (vec 64 p (actN 8 d g (sh f (10 + i * 64 + j * 8))) (k * 8 + y) = vec 64 p (aft g g (1 + i * 64) (1 + j * 64)) (k * 8 + y) ↔ (k < d → cg p (sm n fun l => bz f (10 + i * 64 + j * 8 + l) * bz g (1 + l * 64 + (k * 8 + y))) (sm d fun l => bz g (1 + j * 64 + k * 8 + l) * bz g (1 + i * 64 + (l * 8 + y))))) := by
    intro k hk y hy
    rw [vec_cg (by omega) hp2 (by omega)]
    have e5 : aft g g (1 + i * 64) (1 + j * 64) (k * 8 + y) = sm d fun l => bz g (1 + j * 64 + k * 8 + l) * bz g (1 + i * 64 + (l * 8 + y)) := by
      unfold aft
      rw [show (k * 8 + y) / 8 = k by omega, show (k * 8 + y) % 8 = y by omega]
      rw [sm_8n (n := d) hd fun l h1 h2 => by rw [hT.z hj hk h2 (.inr (.inr (by omega))), Int.zero_mul]]
      exact sm_congr fun l _ => by rw [Nat.add_assoc (1 + i * 64)]
    rw [e5]
    by_cases e : k < d
    · have e4 : actN 8 d g (sh f (10 + i * 64 + j * 8)) (k * 8 + y) = sm n fun l => bz f (10 + i * 64 + j * 8 + l) * bz g (1 + l * 64 + (k * 8 + y)) := by
        unfold actN
        rw [if_pos (by omega)]
        exact sm_8n hn fun i h1 h2 => by rw [bz_sh, hu i h1 h2, Int.zero_mul]
      rw [e4]
      exact ⟨fun h _ => h, fun h => h e⟩
    · refine ⟨fun _ h => (e h).elim, fun _ => cg_of_eq ?_⟩
      rw [actN, if_neg (by omega)]
      exact (sm_zero fun l hl => by rw [hT.z hj hk (by omega) (.inr (.inl (by omega))), Int.zero_mul]).symm
  constructor
  · intro h k hk y hy
    exact (key k (by omega) y hy).1 (h k (by omega) y hy) hk
  · intro h k hk y hy
    exact (key k hk y hy).2 fun hd => h k hd y hy

theorem i_Module_field_ok (B : Bs P ρ) (E : E_i_Module_field P ρ) {p n d : Int} {f g : By} :
    CallOK P ρ 151 [.pt 0 0, .pt 1 0] [⟨true, .by [d] 513 g⟩, ⟨true, .by [p, n] 1106 f⟩] (.one (.ag [p, d] 2 (fun _ => 0))) [⟨true, .by [d] 513 g⟩, ⟨true, .by [p, n] 1106 f⟩] := by
  refine call_of_vc B.fn B.mo E rfl rfl ?_
  refine ⟨2, rfl, ?_⟩   -- .alo 4
  exact ⟨rfl, ⟨by first | omega | (simp <;> omega), by first | omega | (simp <;> omega)⟩, [], rfl, rfl, ⟨rfl, rfl, trivial⟩, rfl, rfl⟩

theorem i_Module_isShaped_ok (B : Bs P ρ) (E : E_i_Module_isShaped P ρ) {p n d : Int} {f g : By} :
    CallOK P ρ 152 [.pt 0 0, .pt 1 0] [⟨true, .by [d] 513 g⟩, ⟨true, .by [p, n] 1106 f⟩] (.one (.b (decide (Shp p d ∧ TabM p n d g)))) [⟨true, .by [d] 513 g⟩, ⟨true, .by [p, n] 1106 f⟩] := by
  refine call_of_vc B.fn B.mo E.1 rfl rfl ?_
  refine ⟨(fun a0 a1 b0 b1 i0 => St.mk [(0, a0), (1, a1), (6, .one (.i .i64 ((i0 : Nat) : Int)))] [b0, b1]) _ _ _ _ , fun i0 => ∀ i : Nat, i < i0 → (Shp p d ∧ Lin p d d g (1 + i * 64)) ∧ (n ≤ i → ∀ k : Nat, k < 64 → bz g (1 + i * 64 + k) = 0), 8, fun _ _ => by omega, ⟨⟨rfl, rfl, rfl, trivial⟩, ⟨rfl, rfl, trivial⟩, rfl⟩, fun i0 hi0 hF0 => ?_⟩
  refine ⟨fun h7 => ?_, fun h7 => ?_⟩
  · replace h7 := of_decide_eq_true h7
    refine ⟨i0, 1 + i0 * 64, rfl, by omega, by omega, ?_⟩   -- 25
    refine ⟨2, [0], _, _, _, _, [_, _], rfl, i_isLinear_ok B E.2 (by simp <;> omega) (by omega), rfl, ⟨⟨_, rfl, fun h => by first | rfl | cases h⟩, trivial⟩, rfl, rfl, rfl, ?_⟩   -- 26
    refine ⟨fun h28 => ?_, fun h28 => ?_⟩
    · skip
      have h28' := dec_elim_t' (not_t h28)
      refine brB_t ?_
      refine brB_t ?_
      refine brB_t ?_
      refine brB_t ?_
      refine brB_t ?_
      refine brB_t ?_
      refine brB_t ?_
      refine brB_t ?_
      refine brB_t ?_
      refine ⟨rfl, [], ?_, rfl, ⟨rfl, rfl, trivial⟩, rfl, rfl⟩
      exact one_b (dec_f fun q => h28' ⟨q.1, (q.2 i0 (by omega)).1⟩)
    · skip
      have h28' := dec_elim_t (not_f h28)
      refine brB_f ?_
      refine brB_f ?_
      refine brB_f ?_
      refine brB_f ?_
      refine brB_f ?_
      refine brB_f ?_
      refine ⟨fun h35 => ?_, fun h35 => ?_⟩
      · replace h35 := of_decide_eq_true h35
        refine brB_t ?_
        refine brB_t ?_
        refine brB_t ?_
        refine brB_t ?_
        refine ⟨i0, 1 + i0 * 64, rfl, by omega, by omega, ?_⟩   -- 40
        refine brB_t ?_
        refine ⟨⟨by first | omega | (simp <;> omega), by first | omega | (simp <;> omega)⟩, ?_⟩   -- 41 := lda [['.t', 40], 0, 64]
        refine brB_t ?_
        refine brB_t ?_
        refine brB_f ?_
        refine brB_t ?_
        refine brB_f ?_
        refine ⟨fun h45 => ?_, fun h45 => ?_⟩
        · skip
          have h45' := not_t h45
          refine ⟨rfl, [], ?_, rfl, ⟨rfl, rfl, trivial⟩, rfl, rfl⟩
          refine one_b (dec_f fun q => ?_)
          have := eqB_z.2 ((q.2 i0 (by omega)).2 h35)
          erw [this] at h45'; cases h45'
        · skip
          have h45' := not_f h45
          refine ⟨((i0 + 1 : Nat) : Int), w64_id _ (by omega) (by omega), ?_⟩   -- 46
          refine ⟨by omega, ?_, ⟨rfl, rfl, rfl, trivial⟩, ⟨rfl, rfl, trivial⟩, rfl⟩
          intro i hi
          by_cases e : i = i0
          · subst e
            exact ⟨h28', fun _ => eqB_z.1 h45'⟩
          · exact hF0 i (by omega)
      · replace h35 := of_decide_eq_false h35
        refine brB_f ?_
        refine brB_f ?_
        refine brB_f ?_
        refine brB_f ?_
        refine brB_f ?_
        refine brB_f ?_
        refine brB_f ?_
        refine brB_f ?_
        refine brB_f ?_
        refine brB_f ?_
        refine brB_f ?_
        refine ⟨((i0 + 1 : Nat) : Int), w64_id _ (by omega) (by omega), ?_⟩   -- 46
        refine ⟨by omega, ?_, ⟨rfl, rfl, rfl, trivial⟩, ⟨rfl, rfl, trivial⟩, rfl⟩
        intro i hi
        by_cases e : i = i0
        · subst e
          exact ⟨h28', fun q => (h35 q).elim⟩
        · exact hF0 i (by omega)
  · replace h7 := of_decide_eq_false h7
    have e0 : 8 = i0 := by omega
    subst e0
    refine ⟨rfl, [], ?_, rfl, ⟨rfl, rfl, trivial⟩, rfl, rfl⟩
    exact one_b (dec_t ⟨(hF0 0 (by omega)).1.1, fun i hi => ⟨(hF0 i hi).1.2, (hF0 i hi).2⟩⟩)

theorem i_Module_acts_ok (B : Bs P ρ) (E : E_i_Module_acts P ρ) {p n : Int} {d : Nat} {f g a : By} (hp : 1 ≤ p) (hp2 : p ≤ 256) (hd : d ≤ 8) :
    CallOK P ρ 153 [.pt 0 0, .pt 1 0, .ag [] 8 a] [⟨true, .by [(d : Int)] 513 g⟩, ⟨true, .by [p, n] 1106 f⟩] (.one (.ag [] 64 (vec 64 p (actN 8 d g a)))) [⟨true, .by [(d : Int)] 513 g⟩, ⟨true, .by [p, n] 1106 f⟩] := by
  refine call_of_vc B.fn B.mo E.1 rfl rfl ?_
  refine ⟨2, rfl, ?_⟩   -- .box 5
  refine ⟨3, rfl, ?_⟩   -- .alo 6
  refine ⟨4, [0, 1], _, _, _, _, [_, _, _, _], rfl, i_Module_field_ok B E.2.1 , rfl, ⟨⟨_, rfl, fun h => by first | rfl | cases h⟩, ⟨_, rfl, fun h => by first | rfl | cases h⟩, trivial⟩, rfl, rfl, ?_⟩   -- 14
  refine ⟨4, rfl, ?_⟩   -- .alo 7
  refine ⟨5, rfl, ?_⟩   -- .alo 8
  refine ⟨⟨rfl, by first | omega | (simp <;> omega), by first | omega | (simp <;> omega)⟩, ?_⟩   -- sta ['.t', 8] ['.t', 15] 64
  refine ⟨⟨by first | omega | (simp <;> omega), by first | omega | (simp <;> omega)⟩, ?_⟩   -- 16 := lda [['.t', 5], 0, 8]
  refine ⟨(fun a0 a16 b0 b1 b2 b3 b4 i0 => St.mk [(0, a0), (6, .one (.pt 3 0)), (7, .one (.pt 4 0)), (8, .one (.pt 5 0)), (16, a16), (17, .one (.i .i64 ((i0 : Nat) : Int)))] [b0, b1, b2, b3, b4, Blk.mk false (.by [] 64 (vec 64 p (actN i0 d g a)))]) _ _ _ _ _ _ _ , fun i0 => True, 8, trivial, ⟨⟨rfl, rfl, rfl, rfl, rfl, rfl, trivial⟩, ⟨rfl, rfl, rfl, rfl, rfl, ?_, trivial⟩, rfl⟩, fun i0 hi0 _ => ?_⟩
  · refine blk_by ?_
    rw [z_sta]
    exact vec_zero fun k hk => by simp [actN, sm]
  have q0 := bz_nn (sh a 0) i0
  have q1 := bz_le (sh a 0) i0
  refine ⟨fun h18 => ?_, fun h18 => ?_⟩
  · replace h18 := of_decide_eq_true h18
    refine ⟨_, rfl, by first | omega | (simp <;> omega), by first | omega | (simp <;> omega), ?_⟩   -- 20 := ['.t', 16][['.t', 17]]
    refine ⟨(fun a0 a9 a10 a16 a17 a22 b0 b1 b2 b3 b4 i1 => St.mk [(0, a0), (6, .one (.pt 3 0)), (7, .one (.pt 4 0)), (8, .one (.pt 5 0)), (9, a9), (10, a10), (16, a16), (17, a17), (22, a22), (23, .one (.i .i64 ((i1 : Nat) : Int)))] [b0, b1, b2, b3, b4, Blk.mk false (.by [] 64 (vec 64 p fun y => actN i0 d g a y + if y / 8 < i1 then bz a i0 * bz g (1 + i0 * 64 + y) else 0))]) _ _ _ _ _ _ _ _ _ _ _ , fun i1 => True, d, trivial, ⟨⟨rfl, rfl, rfl, rfl, rfl, rfl, rfl, rfl, rfl, rfl, trivial⟩, ⟨rfl, rfl, rfl, rfl, rfl, ?_, trivial⟩, rfl⟩, fun i1 hi1 _ => ?_⟩
    · refine blk_by (vec_congr fun y _ => cg_of_eq ?_)
      simp
    refine ⟨fun h24 => ?_, fun h24 => ?_⟩
    · replace h24 := of_decide_eq_true h24
      refine ⟨i1, i1 * 8, rfl, by omega, by omega, ?_⟩   -- 28
      refine ⟨i0, 1 + i0 * 64, rfl, by omega, by omega, ?_⟩   -- 36
      refine ⟨i1, 1 + i0 * 64 + i1 * 8, rfl, by omega, by omega, ?_⟩   -- 37
      refine ⟨⟨by first | omega | (simp <;> omega), by first | omega | (simp <;> omega)⟩, ?_⟩   -- 38 := lda [['.t', 37], 0, 8]
      refine ⟨6, [5], _, _, _, _, [_, _, _, _, _, _], rfl, i_field_plus_ok B E.2.2 (k := bz (sh a 0) i0) hp (by omega) (by simp) (by omega) (by omega) (by omega) (fun _ _ _ => bz_vec_lt hp hp2), rfl, ⟨⟨_, rfl, fun h => by first | rfl | cases h⟩, trivial⟩, rfl, rfl, ?_⟩   -- 39
      refine ⟨((i1 + 1 : Nat) : Int), w64_id _ (by omega) (by omega), ?_⟩   -- 40
      refine ⟨by omega, trivial, ⟨rfl, rfl, rfl, rfl, rfl, rfl, rfl, rfl, rfl, rfl, trivial⟩, ⟨rfl, rfl, rfl, rfl, rfl, ?_, trivial⟩, rfl⟩
      refine blk_by ?_
      rw [pl_vec hp hp2 (by omega)]
      refine vec_congr fun y hy => cg_of_eq ?_
      rw [Int.add_assoc]
      congr 1
      by_cases e1 : i1 * 8 ≤ y ∧ y < i1 * 8 + 8
      · rw [if_pos (by omega), if_neg (by omega), if_pos e1, sh_zero a, bz_sh, Int.zero_add, show 1 + i0 * 64 + i1 * 8 + (y - i1 * 8) = 1 + i0 * 64 + y by omega]
      · rw [if_neg e1, Int.add_zero]
        by_cases e2 : y / 8 < i1
        · rw [if_pos (by omega), if_pos e2]
        · rw [if_neg (by omega), if_neg e2]
    · replace h24 := of_decide_eq_false h24
      have e1 : d = i1 := by omega
      subst e1
      refine ⟨((i0 + 1 : Nat) : Int), w64_id _ (by omega) (by omega), ?_⟩   -- 41
      refine ⟨by omega, trivial, ⟨rfl, rfl, rfl, rfl, rfl, rfl, trivial⟩, ⟨rfl, rfl, rfl, rfl, rfl, ?_, trivial⟩, rfl⟩
      refine blk_by (vec_congr fun y hy => cg_of_eq ?_)
      unfold actN
      by_cases e1 : y / 8 < d
      · rw [if_pos e1, if_pos e1, if_pos e1]; rfl
      · rw [if_neg e1, if_neg e1, if_neg e1]; rfl
  · replace h18 := of_decide_eq_false h18
    have e0 : 8 = i0 := by omega
    subst e0
    refine ⟨⟨by first | omega | (simp <;> omega), by first | omega | (simp <;> omega)⟩, ?_⟩   -- 42 := lda [['.t', 8], 0, 64]
    refine ⟨⟨rfl, by first | omega | (simp <;> omega), by first | omega | (simp <;> omega)⟩, ?_⟩   -- sta ['.t', 6] ['.t', 42] 64
    refine ⟨rfl, ⟨by first | omega | (simp <;> omega), by first | omega | (simp <;> omega)⟩, [], ?_, rfl, ⟨rfl, rfl, trivial⟩, rfl, rfl⟩
    exact one_ag (out_vec.trans rfl)

theorem i_Module_isModule_ok (B : Bs P ρ) (E : E_i_Module_isModule P ρ) {p d : Int} {n : Nat} {f g : By} (h : HShp p n f) :
    CallOK P ρ 145 [.pt 0 0, .pt 1 0] [⟨true, .by [d] 513 g⟩, ⟨true, .by [p, (n : Int)] 1106 f⟩] (.one (.b (decide (Mod p n d g f)))) [⟨true, .by [d] 513 g⟩, ⟨true, .by [p, (n : Int)] 1106 f⟩] := by
  refine call_of_vc B.fn B.mo E.1 rfl rfl ?_
  have hb := h.b
  refine ⟨2, [0, 1], _, _, _, _, [_, _], rfl, i_Module_field_ok B E.2.1 , rfl, ⟨⟨_, rfl, fun h => by first | rfl | cases h⟩, ⟨_, rfl, fun h => by first | rfl | cases h⟩, trivial⟩, rfl, rfl, ?_⟩   -- 10
  refine ⟨2, rfl, ?_⟩   -- .alo 5
  refine ⟨3, [0, 1], _, _, _, _, [_, _, _], rfl, i_Module_isShaped_ok B E.2.2.1 , rfl, ⟨⟨_, rfl, fun h => by first | rfl | cases h⟩, ⟨_, rfl, fun h => by first | rfl | cases h⟩, trivial⟩, rfl, rfl, rfl, ?_⟩   -- 13
  refine ⟨fun h15 => ?_, fun h15 => ?_⟩
  · skip
    have h15' : ¬ (Shp p d ∧ TabM p n d g) := dec_elim_t' (not_t h15)
    refine brB_t ?_
    refine brB_t ?_
    refine brB_t ?_
    refine brB_t ?_
    refine brB_t ?_
    refine brB_t ?_
    refine brB_t ?_
    refine brB_t ?_
    refine brB_t ?_
    refine brB_t ?_
    refine brB_t ?_
    refine ⟨rfl, [], ?_, rfl, ⟨rfl, rfl, trivial⟩, rfl, rfl⟩
    exact one_b (dec_f fun q => h15' q.1)
  · skip
    have h15' : Shp p d ∧ TabM p n d g := dec_elim_t (not_f h15)
    have hd := h15'.1.2
    obtain ⟨e, rfl⟩ : ∃ e : Nat, d = (e : Int) := ⟨d.toNat, by omega⟩
    refine brB_f ?_
    refine brB_f ?_
    refine brB_f ?_
    refine brB_f ?_
    refine brB_f ?_
    refine ⟨⟨by first | omega | (simp <;> omega), by first | omega | (simp <;> omega)⟩, ?_⟩   -- 21 := lda [['.t', 20], 0, 8]
    refine brB_f ?_
    refine ⟨3, [0, 1], _, _, _, _, [_, _, _], rfl, i_Module_acts_ok B E.2.2.2.1 (d := e) (by omega) (by omega) (by omega), rfl, ⟨⟨_, rfl, fun h => by first | rfl | cases h⟩, ⟨_, rfl, fun h => by first | rfl | cases h⟩, trivial⟩, rfl, rfl, rfl, ?_⟩   -- 22
    refine brB_f ?_
    refine brB_f ?_
    refine ⟨3, [], _, _, _, _, [_, _, _], rfl, i_field_identity_ok B E.2.2.2.2.1 (n := e) (by omega), rfl, trivial, rfl, rfl, ?_⟩   -- 24
    refine brB_f ?_
    refine brB_f ?_
    refine ⟨fun h26 => ?_, fun h26 => ?_⟩
    · skip
      have z26 : ¬ ∀ k, k < e → MU p n g f k := fun q => neB_t h26 ((MU_i (by omega) (by omega) (by omega) (by omega) fun k h1 h2 => h.unit h1 h2).2 q)
      refine ⟨rfl, [], ?_, rfl, ⟨rfl, rfl, trivial⟩, rfl, rfl⟩
      exact one_b (dec_f fun q => z26 q.2.1)
    · skip
      have z26 : ∀ k, k < e → MU p n g f k := (MU_i (by omega) (by omega) (by omega) (by omega) fun k h1 h2 => h.unit h1 h2).1 (neB_f h26)
      refine ⟨(fun a0 a1 a30 b0 b1 b2 i0 => St.mk [(0, a0), (1, a1), (5, .one (.pt 2 0)), (30, a30), (31, .one (.i .i64 ((i0 : Nat) : Int)))] [b0, b1, b2]) _ _ _ _ _ _ , fun i0 => ∀ i, i < i0 → ∀ j, j < n → ∀ k, k < e → MA p n e g f i j k, n, fun _ _ => by omega, ⟨⟨rfl, rfl, rfl, rfl, rfl, trivial⟩, ⟨rfl, rfl, rfl, trivial⟩, rfl⟩, fun i0 hi0 hF0 => ?_⟩
      refine ⟨fun h32 => ?_, fun h32 => ?_⟩
      · replace h32 := of_decide_eq_true h32
        refine ⟨(fun a0 a1 a6 a30 a31 a37 b0 b1 b2 i1 => St.mk [(0, a0), (1, a1), (5, .one (.pt 2 0)), (6, a6), (30, a30), (31, a31), (37, a37), (38, .one (.i .i64 ((i1 : Nat) : Int)))] [b0, b1, b2]) _ _ _ _ _ _ _ _ _ , fun i1 => ∀ j, j < i1 → ∀ k, k < e → MA p n e g f i0 j k, n, fun _ _ => by omega, ⟨⟨rfl, rfl, rfl, rfl, rfl, rfl, rfl, rfl, trivial⟩, ⟨rfl, rfl, rfl, trivial⟩, rfl⟩, fun i1 hi1 hF1 => ?_⟩
        refine ⟨fun h39 => ?_, fun h39 => ?_⟩
        · replace h39 := of_decide_eq_true h39
          refine ⟨i0, 10 + i0 * 64, rfl, by omega, by omega, ?_⟩   -- 48
          refine ⟨i1, 10 + i0 * 64 + i1 * 8, rfl, by omega, by omega, ?_⟩   -- 49
          refine ⟨⟨by first | omega | (simp <;> omega), by first | omega | (simp <;> omega)⟩, ?_⟩   -- 50 := lda [['.t', 49], 0, 8]
          refine ⟨3, [0, 1], _, _, _, _, [_, _, _], rfl, i_Module_acts_ok B E.2.2.2.1 (d := e) (by omega) (by omega) (by omega), rfl, ⟨⟨_, rfl, fun h => by first | rfl | cases h⟩, ⟨_, rfl, fun h => by first | rfl | cases h⟩, trivial⟩, rfl, rfl, rfl, ?_⟩   -- 51
          refine ⟨i0, 1 + i0 * 64, rfl, by omega, by omega, ?_⟩   -- 57
          refine ⟨i1, 1 + i1 * 64, rfl, by omega, by omega, ?_⟩   -- 62
          refine ⟨3, [0, 0], _, _, _, _, [_, _, _], rfl, i_field_after_ok B E.2.2.2.2.2 (by omega) (by omega) (by simp <;> omega) (by omega) (by simp <;> omega) (by omega), rfl, ⟨⟨_, rfl, fun h => by first | rfl | cases h⟩, ⟨_, rfl, fun h => by first | rfl | cases h⟩, trivial⟩, rfl, rfl, ?_⟩   -- 63
          refine ⟨fun h64 => ?_, fun h64 => ?_⟩
          · skip
            have z64 : ¬ ∀ k, k < e → MA p n e g f i0 i1 k := fun q => neB_t h64 ((MA_i (by omega) (by omega) (by omega) (by omega) (by omega) (by omega) h15'.2 fun k h1 h2 => h.mul (by omega) (by omega) h2 (.inr (.inr h1))).2 q)
            refine ⟨rfl, [], ?_, rfl, ⟨rfl, rfl, trivial⟩, rfl, rfl⟩
            exact one_b (dec_f fun q => z64 (q.2.2 i0 i1 (by omega) (by omega)))
          · skip
            have z64 : ∀ k, k < e → MA p n e g f i0 i1 k := (MA_i (by omega) (by omega) (by omega) (by omega) (by omega) (by omega) h15'.2 fun k h1 h2 => h.mul (by omega) (by omega) h2 (.inr (.inr h1))).1 (neB_f h64)
            refine ⟨((i1 + 1 : Nat) : Int), w64_id _ (by omega) (by omega), ?_⟩   -- 65
            refine ⟨by omega, ?_, ⟨rfl, rfl, rfl, rfl, rfl, rfl, rfl, rfl, trivial⟩, ⟨rfl, rfl, rfl, trivial⟩, rfl⟩
            intro j hj
            by_cases e : j = i1
            · subst e; exact z64
            · exact hF1 j (by omega)
        · replace h39 := of_decide_eq_false h39
          have e1 : n = i1 := by omega
          subst e1
          refine ⟨((i0 + 1 : Nat) : Int), w64_id _ (by omega) (by omega), ?_⟩   -- 66
          refine ⟨by omega, ?_, ⟨rfl, rfl, rfl, rfl, rfl, trivial⟩, ⟨rfl, rfl, rfl, trivial⟩, rfl⟩
          intro i hi j hj
          by_cases e : i = i0
          · subst e; exact hF1 j hj
          · exact hF0 i (by omega) j hj
      · replace h32 := of_decide_eq_false h32
        have e0 : n = i0 := by omega
        subst e0
        refine ⟨rfl, [], ?_, rfl, ⟨rfl, rfl, trivial⟩, rfl, rfl⟩
        exact one_b (dec_t ⟨h15', z26, fun i j hi hj => hF0 i hi j hj⟩)

theorem s_l06Act_ok (B : Bs P ρ) (E : E_s_l06Act P ρ) {p : Int} {n d : Nat} {f g a v : By} (hp : 1 ≤ p) (hp2 : p ≤ 256) (hn : n ≤ 8) (hd : d ≤ 8) :
    CallOK P ρ 150 [.ag [p, (n : Int)] 1106 f, .ag [(d : Int)] 513 g, .ag [] 8 a, .ag [] 8 v] [] (.one (.ag [] 8 (vec 8 p (acV n d g a v)))) [] := by
  refine call_of_vc B.fn B.mo E.1 rfl rfl ?_
  refine ⟨0, rfl, ?_⟩   -- .box 4
  refine ⟨1, rfl, ?_⟩   -- .box 5
  refine ⟨2, rfl, ?_⟩   -- .box 6
  refine ⟨3, rfl, ?_⟩   -- .box 7
  refine ⟨4, rfl, ?_⟩   -- .alo 8
  refine ⟨5, rfl, ?_⟩   -- .alo 9
  refine ⟨⟨rfl, by first | omega | (simp <;> omega), by first | omega | (simp <;> omega)⟩, ?_⟩   -- sta ['.t', 9] ['.t', 11] 8
  refine ⟨(fun b0 b1 b2 b3 b4 i0 => St.mk [(4, .one (.pt 0 0)), (5, .one (.pt 1 0)), (6, .one (.pt 2 0)), (7, .one (.pt 3 0)), (8, .one (.pt 4 0)), (9, .one (.pt 5 0)), (10, .one (.i .i64 ((i0 : Nat) : Int)))] [b0, b1, b2, b3, b4, Blk.mk false (.by [] 8 (vec 8 p (acV i0 d g a v)))]) _ _ _ _ _ , fun i0 => True, n, trivial, ⟨⟨rfl, rfl, rfl, rfl, rfl, rfl, rfl, trivial⟩, ⟨rfl, rfl, rfl, rfl, rfl, ?_, trivial⟩, rfl⟩, fun i0 hi0 _ => ?_⟩
  · refine blk_by ?_
    rw [z_sta]
    exact vec_0.symm
  have q0 := bz_nn a i0
  have q1 := bz_le a i0
  refine ⟨fun h15 => ?_, fun h15 => ?_⟩
  · replace h15 := of_decide_eq_true h15
    refine ⟨i0, i0, rfl, by omega, by omega, ?_⟩   -- 19
    refine ⟨⟨by first | omega | (simp <;> omega), by first | omega | (simp <;> omega)⟩, ?_⟩   -- 20 := ld8 ['.t', 19]
    refine ⟨fun h21 => ?_, fun h21 => ?_⟩
    · replace h21 := bne_t h21
      refine ⟨⟨by first | omega | (simp <;> omega), by first | omega | (simp <;> omega)⟩, ?_⟩   -- 24 := lda [['.t', 9], 0, 8]
      refine ⟨i0, 1 + i0 * 64, rfl, by omega, by omega, ?_⟩   -- 31
      refine ⟨⟨by first | omega | (simp <;> omega), by first | omega | (simp <;> omega)⟩, ?_⟩   -- 32 := lda [['.t', 31], 0, 64]
      refine ⟨⟨by first | omega | (simp <;> omega), by first | omega | (simp <;> omega)⟩, ?_⟩   -- 33 := lda [['.t', 7], 0, 8]
      refine ⟨6, [], _, _, _, _, [_, _, _, _, _, _], rfl, s_l01Apply_ok B E.2.1 (n := d) hp hp2 hd, rfl, trivial, rfl, rfl, rfl, ?_⟩   -- 34
      refine ⟨i0, i0, rfl, by omega, by omega, ?_⟩   -- 36
      refine ⟨⟨by first | omega | (simp <;> omega), by first | omega | (simp <;> omega)⟩, ?_⟩   -- 37 := ld8 ['.t', 36]
      refine ⟨6, [], _, _, _, _, [_, _, _, _, _, _], rfl, s_l01Add_ok B E.2.2 (k := bz a i0) hp (by omega) (by omega) (by omega), rfl, trivial, rfl, rfl, ?_⟩   -- 39
      refine ⟨⟨rfl, by first | omega | (simp <;> omega), by first | omega | (simp <;> omega)⟩, ?_⟩   -- sta ['.t', 9] ['.t', 39] 8
      refine ⟨((i0 + 1 : Nat) : Int), w64_id _ (by omega) (by omega), ?_⟩   -- 17
      refine ⟨by omega, trivial, ⟨rfl, rfl, rfl, rfl, rfl, rfl, rfl, trivial⟩, ⟨rfl, rfl, rfl, rfl, rfl, ?_, trivial⟩, rfl⟩
      refine blk_by ?_
      rw [spl_plsN, pl_vec0 hp hp2]
      refine vec_congr fun y hy => cg.symm (cg_add rfl ((cg_mul rfl (cg_vec hp hp2 hy)).trans (cg_of_eq ?_)))
      rw [sh_zero]
      rfl
    · replace h21 := bne_f h21
      refine ⟨((i0 + 1 : Nat) : Int), w64_id _ (by omega) (by omega), ?_⟩   -- 17
      refine ⟨by omega, trivial, ⟨rfl, rfl, rfl, rfl, rfl, rfl, rfl, trivial⟩, ⟨rfl, rfl, rfl, rfl, rfl, ?_, trivial⟩, rfl⟩
      refine blk_by (vec_congr fun y _ => cg_of_eq ?_)
      unfold acV
      simp only [sm]
      rw [z0_of h21, Int.zero_mul, Int.add_zero]
  · replace h15 := of_decide_eq_false h15
    have e0 : n = i0 := by omega
    subst e0
    refine ⟨⟨by first | omega | (simp <;> omega), by first | omega | (simp <;> omega)⟩, ?_⟩   -- 40 := lda [['.t', 9], 0, 8]
    refine ⟨⟨rfl, by first | omega | (simp <;> omega), by first | omega | (simp <;> omega)⟩, ?_⟩   -- sta ['.t', 8] ['.t', 40] 8
    refine ⟨rfl, ⟨by first | omega | (simp <;> omega), by first | omega | (simp <;> omega)⟩, [], ?_, rfl, trivial, rfl, rfl⟩
    exact one_ag out_vec

theorem s_l06Holds_ok (B : Bs P ρ) (E : E_s_l06Holds P ρ) {p d : Int} {n : Nat} {f g : By} (h : HShp p n f) :
    CallOK P ρ 143 [.ag [p, (n : Int)] 1106 f, .ag [d] 513 g] [] (.one (.b (decide (Mod p n d g f)))) [] := by
  refine call_of_vc B.fn B.mo E.1 rfl rfl ?_
  have hb := h.b
  refine ⟨0, rfl, ?_⟩   -- .box 2
  refine ⟨1, rfl, ?_⟩   -- .box 3
  refine ⟨2, [], _, _, _, _, [_, _], rfl, s_l01In_ok B E.2.1 , rfl, trivial, rfl, rfl, ?_⟩   -- 12
  refine ⟨fun h13 => ?_, fun h13 => ?_⟩
  · skip
    have h13' : ¬ (1 ≤ d ∧ d ≤ 8) := dec_elim_t' (not_t h13)
    refine ⟨rfl, [], ?_, rfl, trivial, rfl, rfl⟩
    exact one_b (dec_f fun q => h13' q.1.1.2)
  · skip
    have h13' : 1 ≤ d ∧ d ≤ 8 := dec_elim_t (not_f h13)
    obtain ⟨e, rfl⟩ : ∃ e : Nat, d = (e : Int) := ⟨d.toNat, by omega⟩
    have hSd : Shp p e := ⟨h.1.1, h13'⟩
    refine ⟨(fun b0 b1 i0 => St.mk [(2, .one (.pt 0 0)), (3, .one (.pt 1 0)), (5, .one (.i .i64 ((i0 : Nat) : Int)))] [b0, b1]) _ _ , fun i0 => ∀ i : Nat, i < i0 → Lin p e e g (1 + i * 64) ∧ ((n : Int) ≤ i → ∀ k : Nat, k < 64 → bz g (1 + i * 64 + k) = 0), 8, fun _ _ => by omega, ⟨⟨rfl, rfl, rfl, trivial⟩, ⟨rfl, rfl, trivial⟩, rfl⟩, fun i0 hi0 hF0 => ?_⟩
    refine ⟨fun h15 => ?_, fun h15 => ?_⟩
    · replace h15 := of_decide_eq_true h15
      refine ⟨i0, 1 + i0 * 64, rfl, by omega, by omega, ?_⟩   -- 24
      refine ⟨⟨by first | omega | (simp <;> omega), by first | omega | (simp <;> omega)⟩, ?_⟩   -- 25 := lda [['.t', 24], 0, 64]
      refine ⟨2, [], _, _, _, _, [_, _], rfl, s_l01Linear_ok B E.2.2.1 , rfl, trivial, rfl, rfl, rfl, ?_⟩   -- 26
      refine ⟨fun h28 => ?_, fun h28 => ?_⟩
      · skip
        have h28' : ¬ Lin p e e g (1 + i0 * 64) := fun q => dec_elim_t' (not_t h28) ((Lin_sh (a := 1 + i0 * 64) (o := 0)).2 q)
        refine brB_t ?_
        refine brB_t ?_
        refine brB_t ?_
        refine brB_t ?_
        refine brB_t ?_
        refine brB_t ?_
        refine brB_t ?_
        refine ⟨rfl, [], ?_, rfl, trivial, rfl, rfl⟩
        exact one_b (dec_f fun q => h28' (q.1.2 i0 (by omega)).1)
      · skip
        have h28' : Lin p e e g (1 + i0 * 64) := (Lin_sh (a := 1 + i0 * 64) (o := 0)).1 (dec_elim_t (not_f h28))
        refine brB_f ?_
        refine brB_f ?_
        refine brB_f ?_
        refine brB_f ?_
        refine ⟨fun h33 => ?_, fun h33 => ?_⟩
        · replace h33 := of_decide_eq_true h33
          refine brB_t ?_
          refine brB_t ?_
          refine ⟨i0, 1 + i0 * 64, rfl, by omega, by omega, ?_⟩   -- 36
          refine brB_t ?_
          refine ⟨⟨by first | omega | (simp <;> omega), by first | omega | (simp <;> omega)⟩, ?_⟩   -- 37 := lda [['.t', 36], 0, 64]
          refine brB_t ?_
          refine brB_t ?_
          refine brB_f ?_
          refine brB_t ?_
          refine brB_f ?_
          refine ⟨fun h41 => ?_, fun h41 => ?_⟩
          · skip
            have h41' := not_t h41
            refine ⟨rfl, [], ?_, rfl, trivial, rfl, rfl⟩
            refine one_b (dec_f fun q => ?_)
            have := eqB_z.2 ((q.1.2 i0 (by omega)).2 h33)
            erw [this] at h41'; cases h41'
          · skip
            have h41' := not_f h41
            refine ⟨((i0 + 1 : Nat) : Int), w64_id _ (by omega) (by omega), ?_⟩   -- 17
            refine ⟨by omega, ?_, ⟨rfl, rfl, rfl, trivial⟩, ⟨rfl, rfl, trivial⟩, rfl⟩
            intro i hi
            by_cases e : i = i0
            · subst e
              exact ⟨h28', fun _ => eqB_z.1 h41'⟩
            · exact hF0 i (by omega)
        · replace h33 := of_decide_eq_false h33
          refine brB_f ?_
          refine brB_f ?_
          refine brB_f ?_
          refine brB_f ?_
          refine brB_f ?_
          refine brB_f ?_
          refine brB_f ?_
          refine brB_f ?_
          refine brB_f ?_
          refine ⟨((i0 + 1 : Nat) : Int), w64_id _ (by omega) (by omega), ?_⟩   -- 17
          refine ⟨by omega, ?_, ⟨rfl, rfl, rfl, trivial⟩, ⟨rfl, rfl, trivial⟩, rfl⟩
          intro i hi
          by_cases e : i = i0
          · subst e
            exact ⟨h28', fun q => (h33 q).elim⟩
          · exact hF0 i (by omega)
    · replace h15 := of_decide_eq_false h15
      have e0 : 8 = i0 := by omega
      subst e0
      refine ⟨(fun b0 b1 i1 => St.mk [(2, .one (.pt 0 0)), (3, .one (.pt 1 0)), (6, .one (.i .i64 ((i1 : Nat) : Int)))] [b0, b1]) _ _ , fun i1 => ∀ k, k < i1 → MU p n g f k ∧ ∀ i j, i < n → j < n → MA p n e g f i j k, e, fun _ _ => by omega, ⟨⟨rfl, rfl, rfl, trivial⟩, ⟨rfl, rfl, trivial⟩, rfl⟩, fun i1 hi1 hF1 => ?_⟩
      refine ⟨fun h45 => ?_, fun h45 => ?_⟩
      · replace h45 := of_decide_eq_true h45
        refine ⟨2, [], _, _, _, _, [_, _], rfl, s_l01Basis_ok B E.2.2.2.1 (i := i1) (by omega), rfl, trivial, rfl, rfl, ?_⟩   -- 49
        refine ⟨2, rfl, ?_⟩   -- .alo 7
        refine ⟨⟨rfl, by first | omega | (simp <;> omega), by first | omega | (simp <;> omega)⟩, ?_⟩   -- sta ['.t', 7] ['.t', 49] 8
        refine ⟨⟨by first | omega | (simp <;> omega), by first | omega | (simp <;> omega)⟩, ?_⟩   -- 53 := lda [['.t', 52], 0, 8]
        refine ⟨⟨by first | omega | (simp <;> omega), by first | omega | (simp <;> omega)⟩, ?_⟩   -- 54 := lda [['.t', 7], 0, 8]
        refine ⟨3, [], _, _, _, _, [_, _, _], rfl, s_l06Act_ok B E.2.2.2.2.1 (n := n) (d := e) (by omega) (by omega) (by omega) (by omega), rfl, trivial, rfl, rfl, rfl, ?_⟩   -- 55
        refine ⟨⟨by first | omega | (simp <;> omega), by first | omega | (simp <;> omega)⟩, ?_⟩   -- 56 := lda [['.t', 7], 0, 8]
        have e57 : sh (spl (fun _ => 0) 0 8 (bas i1)) 0 = bas i1 := bas_cp (by omega)
        refine ⟨fun h57 => ?_, fun h57 => ?_⟩
        · skip
          have z57 : ¬ MU p n g f i1 := fun q => by
            have z := neB_t h57
            rw [e57] at z
            exact z ((MU_s (d := e) (by omega) (by omega) (by omega)).2 q)
          refine ⟨rfl, [], ?_, rfl, trivial, rfl, rfl⟩
          exact one_b (dec_f fun q => z57 (q.2.1 i1 (by omega)))
        · skip
          have z57 : MU p n g f i1 := by
            have z := neB_f h57
            rw [e57] at z
            exact (MU_s (d := e) (by omega) (by omega) (by omega)).1 z
          refine ⟨(fun a6 b0 b1 b2 i2 => St.mk [(2, .one (.pt 0 0)), (3, .one (.pt 1 0)), (6, a6), (7, .one (.pt 2 0)), (8, .one (.i .i64 ((i2 : Nat) : Int)))] [b0, b1, b2]) _ _ _ _ , fun i2 => ∀ i, i < i2 → ∀ j, j < n → MA p n e g f i j i1, n, fun _ _ => by omega, ⟨⟨rfl, rfl, rfl, rfl, rfl, trivial⟩, ⟨rfl, rfl, rfl, trivial⟩, rfl⟩, fun i2 hi2 hF2 => ?_⟩
          refine ⟨fun h61 => ?_, fun h61 => ?_⟩
          · replace h61 := of_decide_eq_true h61
            refine ⟨(fun a6 a8 b0 b1 b2 i3 => St.mk [(2, .one (.pt 0 0)), (3, .one (.pt 1 0)), (6, a6), (7, .one (.pt 2 0)), (8, a8), (9, .one (.i .i64 ((i3 : Nat) : Int)))] [b0, b1, b2]) _ _ _ _ _ , fun i3 => ∀ j, j < i3 → MA p n e g f i2 j i1, n, fun _ _ => by omega, ⟨⟨rfl, rfl, rfl, rfl, rfl, rfl, trivial⟩, ⟨rfl, rfl, rfl, trivial⟩, rfl⟩, fun i3 hi3 hF3 => ?_⟩
            refine ⟨fun h67 => ?_, fun h67 => ?_⟩
            · replace h67 := of_decide_eq_true h67
              refine ⟨i2, 10 + i2 * 64, rfl, by omega, by omega, ?_⟩   -- 75
              refine ⟨i3, 10 + i2 * 64 + i3 * 8, rfl, by omega, by omega, ?_⟩   -- 76
              refine ⟨⟨by first | omega | (simp <;> omega), by first | omega | (simp <;> omega)⟩, ?_⟩   -- 77 := lda [['.t', 76], 0, 8]
              refine ⟨⟨by first | omega | (simp <;> omega), by first | omega | (simp <;> omega)⟩, ?_⟩   -- 78 := lda [['.t', 7], 0, 8]
              refine ⟨3, [], _, _, _, _, [_, _, _], rfl, s_l06Act_ok B E.2.2.2.2.1 (n := n) (d := e) (by omega) (by omega) (by omega) (by omega), rfl, trivial, rfl, rfl, rfl, ?_⟩   -- 79
              refine ⟨i2, 1 + i2 * 64, rfl, by omega, by omega, ?_⟩   -- 86
              refine ⟨⟨by first | omega | (simp <;> omega), by first | omega | (simp <;> omega)⟩, ?_⟩   -- 87 := lda [['.t', 86], 0, 64]
              refine ⟨i3, 1 + i3 * 64, rfl, by omega, by omega, ?_⟩   -- 91
              refine ⟨i1, 1 + i3 * 64 + i1 * 8, rfl, by omega, by omega, ?_⟩   -- 92
              refine ⟨⟨by first | omega | (simp <;> omega), by first | omega | (simp <;> omega)⟩, ?_⟩   -- 93 := lda [['.t', 92], 0, 8]
              refine ⟨3, [], _, _, _, _, [_, _, _], rfl, s_l01Apply_ok B E.2.2.2.2.2 (n := e) (by omega) (by omega) (by omega), rfl, trivial, rfl, rfl, ?_⟩   -- 94
              refine ⟨fun h95 => ?_, fun h95 => ?_⟩
              · skip
                have z95 : ¬ MA p n e g f i2 i3 i1 := fun q => by
                  have z := neB_t h95
                  rw [e57] at z
                  exact z ((MA_s (by omega) (by omega) (by omega)).2 q)
                refine ⟨rfl, [], ?_, rfl, trivial, rfl, rfl⟩
                exact one_b (dec_f fun q => z95 (q.2.2 i2 i3 (by omega) (by omega) i1 (by omega)))
              · skip
                have z95 : MA p n e g f i2 i3 i1 := by
                  have z := neB_f h95
                  rw [e57] at z
                  exact (MA_s (by omega) (by omega) (by omega)).1 z
                refine ⟨((i3 + 1 : Nat) : Int), w64_id _ (by omega) (by omega), ?_⟩   -- 69
                refine ⟨by omega, ?_, ⟨rfl, rfl, rfl, rfl, rfl, rfl, trivial⟩, ⟨rfl, rfl, rfl, trivial⟩, rfl⟩
                intro j hj
                by_cases e : j = i3
                · subst e; exact z95
                · exact hF3 j (by omega)
            · replace h67 := of_decide_eq_false h67
              have e3 : n = i3 := by omega
              subst e3
              refine ⟨((i2 + 1 : Nat) : Int), w64_id _ (by omega) (by omega), ?_⟩   -- 63
              refine ⟨by omega, ?_, ⟨rfl, rfl, rfl, rfl, rfl, trivial⟩, ⟨rfl, rfl, rfl, trivial⟩, rfl⟩
              intro i hi j hj
              by_cases e : i = i2
              · subst e; exact hF3 j hj
              · exact hF2 i (by omega) j hj
          · replace h61 := of_decide_eq_false h61
            have e2 : n = i2 := by omega
            subst e2
            refine ⟨((i1 + 1 : Nat) : Int), w64_id _ (by omega) (by omega), ?_⟩   -- 47
            refine ⟨by omega, ?_, ⟨rfl, rfl, rfl, trivial⟩, ⟨rfl, rfl, trivial⟩, rfl⟩
            intro k hk
            by_cases e : k = i1
            · subst e; exact ⟨z57, fun i j hi hj => hF2 i hi j hj⟩
            · exact hF1 k (by omega)
      · replace h45 := of_decide_eq_false h45
        have e1 : e = i1 := by omega
        subst e1
        refine ⟨rfl, [], ?_, rfl, trivial, rfl, rfl⟩
        exact one_b (dec_t ⟨⟨hSd, hF0⟩, fun k hk => (hF1 k hk).1, fun i j hi hj k hk => (hF1 k hk).2 i j hi hj⟩)

def modR (g : By) : By := spl (fun _ => 0) 1 512 (sh g 1)
theorem modR_eq {f : By} {x : Nat} (h1 : 1 ≤ x) (h2 : x < 513) : modR f x = f x := by
  simp only [modR, spl, sh]
  rw [if_pos (by omega), show 1 + (x - 1) = x by omega]

theorem l_toLinearA8_raw_ok (B : Bs P ρ) (E : E_l_toLinearA8 P ρ) {f : By} :
    CallOK P ρ 144 [.ag [] 512 f] [] (.one (.ag [] 512 (cut 512 f))) [] := by
  refine call_of_vc B.fn B.mo E.1 rfl rfl ?_
  refine ⟨0, rfl, ?_⟩   -- .box 1
  refine ⟨1, rfl, ?_⟩   -- .alo 2
  refine ⟨2, rfl, ?_⟩   -- .alo 3
  refine ⟨(fun b0 b1 i0 => St.mk [(1, .one (.pt 0 0)), (2, .one (.pt 1 0)), (3, .one (.pt 2 0)), (4, .one (.i .i64 ((i0 : Nat) : Int)))] [b0, b1, Blk.mk false (.by [] 512 (cut (i0 * 64) f))]) _ _ , fun i0 => True, 8, trivial, ⟨⟨rfl, rfl, rfl, rfl, trivial⟩, ⟨rfl, rfl, ?_, trivial⟩, rfl⟩, fun i0 hi0 _ => ?_⟩
  · exact blk_by (by rw [Nat.zero_mul]; exact cut_0)
  refine ⟨fun h6 => ?_, fun h6 => ?_⟩
  · replace h6 := of_decide_eq_true h6
    refine ⟨i0, i0 * 64, rfl, by omega, by omega, ?_⟩   -- 11
    refine ⟨⟨by first | omega | (simp <;> omega), by first | omega | (simp <;> omega)⟩, ?_⟩   -- 12 := lda [['.t', 11], 0, 64]
    refine ⟨3, [], _, _, _, _, [_, _, _], rfl, l_toLinear_ok B E.2 , rfl, trivial, rfl, rfl, ?_⟩   -- 13
    refine ⟨i0, i0 * 64, rfl, by omega, by omega, ?_⟩   -- 14
    refine ⟨⟨rfl, by first | omega | (simp <;> omega), by first | omega | (simp <;> omega)⟩, ?_⟩   -- sta ['.t', 14] ['.t', 13] 64
    refine ⟨((i0 + 1 : Nat) : Int), w64_id _ (by omega) (by omega), ?_⟩   -- 8
    refine ⟨by omega, trivial, ⟨rfl, rfl, rfl, rfl, trivial⟩, ⟨rfl, rfl, ?_, trivial⟩, rfl⟩
    exact blk_by (cut_spl (by omega)).symm
  · replace h6 := of_decide_eq_false h6
    have e0 : 8 = i0 := by omega
    subst e0
    refine ⟨⟨by first | omega | (simp <;> omega), by first | omega | (simp <;> omega)⟩, ?_⟩   -- 15 := lda [['.t', 3], 0, 512]
    refine ⟨⟨rfl, by first | omega | (simp <;> omega), by first | omega | (simp <;> omega)⟩, ?_⟩   -- sta ['.t', 2] ['.t', 15] 512
    refine ⟨rfl, ⟨by first | omega | (simp <;> omega), by first | omega | (simp <;> omega)⟩, [], ?_, rfl, trivial, rfl, rfl⟩
    exact one_ag out_cut

theorem l_toLinearA8_ok (B : Bs P ρ) (E : E_l_toLinearA8 P ρ) {f : By} : CallOK P ρ 144 [.ag [] 512 f] [] (.one (.ag [] 512 f)) [] := (l_toLinearA8_raw_ok B E).conv eqL_rfl eq_cut eqH_rfl

theorem l_toModule_raw_ok (B : Bs P ρ) (E : E_l_toModule P ρ) {d : Int} {g : By} :
    CallOK P ρ 133 [.ag [d] 513 g] [] (.one (.ag [d] 513 (modR g))) [] := by
  refine call_of_vc B.fn B.mo E.1 rfl rfl ?_
  refine ⟨0, rfl, ?_⟩   -- .box 1
  refine ⟨1, rfl, ?_⟩   -- .alo 2
  refine ⟨2, rfl, ?_⟩   -- .alo 3
  refine ⟨⟨by first | omega | (simp <;> omega), by first | omega | (simp <;> omega)⟩, ?_⟩   -- 8 := lda [['.t', 7], 0, 512]
  refine ⟨3, [], _, _, _, _, [_, _, _], rfl, l_toLinearA8_ok B E.2 , rfl, trivial, rfl, rfl, ?_⟩   -- 9
  refine ⟨⟨rfl, by first | omega | (simp <;> omega), by first | omega | (simp <;> omega)⟩, ?_⟩   -- sta ['.t', 10] ['.t', 9] 512
  exact ⟨rfl, ⟨by first | omega | (simp <;> omega), by first | omega | (simp <;> omega)⟩, [], rfl, rfl, trivial, rfl, rfl⟩

theorem l_toModule_ok (B : Bs P ρ) (E : E_l_toModule P ρ) {d : Int} {g : By} : CallOK P ρ 133 [.ag [d] 513 g] [] (.one (.ag [d] 513 g)) [] := (l_toModule_raw_ok B E).conv eqL_rfl ⟨_, rfl, fun _ h1 h2 => modR_eq h1 h2⟩ eqH_rfl

end Hf
namespace Hf
open Go Classical
variable {P : Program} {ρ : Nat → FuncId}
/-- the first number other than 0 -/
def fz : List Int → Int
  | [] => 0
  | a :: r => if a ≠ 0 then a else fz r
theorem fz_at : ∀ {l : List Int} {i : Nat}, i < l.length → l.getD i 0 ≠ 0 → (∀ j, j < i → l.getD j 0 = 0) → fz l = l.getD i 0
  | a :: r, 0, _, h, _ => by
    simp at h
    simp [fz, h]
  | a :: r, i + 1, hi, h, h0 => by
    have h1 := h0 0 (by omega)
    simp at h1
    simp only [fz]
    rw [if_neg (by simp [h1]), fz_at (l := r) (i := i) (by simpa using hi) (by simpa using h) fun j hj => by have := h0 (j + 1) (by omega); simpa using this]
    simp
theorem fz_0 : ∀ {l : List Int}, (∀ j, j < l.length → l.getD j 0 = 0) → fz l = 0
  | [], _ => rfl
  | a :: r, h => by
    have h1 := h 0 (by simp)
    simp at h1
    simp only [fz]
    rw [if_neg (by simp [h1]), fz_0 (l := r) fun j hj => by have := h (j + 1) (by simp; omega); simpa using this]

theorem i_first2_ok (B : Bs P ρ) (E : E_i_first P ρ) {a b : Int} :
    CallOK P ρ 139 [.sl 0 0 2 2] [⟨true, .rw [.i .i64 a, .i .i64 b]⟩] (.one (.i .i64 (fz [a, b]))) [⟨true, .rw [.i .i64 a, .i .i64 b]⟩] := by
  refine call_of_vc B.fn B.mo E rfl rfl ?_
  refine ⟨(fun b0 i0 => St.mk [(5, .one (.sl 0 0 2 2)), (6, .one (.i .i64 2)), (7, .one (.i .i64 ((i0 : Nat) : Int)))] [b0]) _ , fun i0 => ∀ j, j < i0 → [a, b].getD j 0 = 0, 2, fun _ _ => by omega, ⟨⟨rfl, rfl, rfl, trivial⟩, ⟨rfl, trivial⟩, rfl⟩, fun i0 hi0 hF0 => ?_⟩
  refine ⟨fun h8 => ?_, fun h8 => ?_⟩
  · replace h8 := of_decide_eq_true h8
    refine ⟨i0, i0, rfl, by omega, by omega, ?_⟩
    refine ⟨.i .i64 ([a, b].getD i0 0), ?_, ?_⟩
    · have hi7 : i0 = 0 ∨ i0 = 1 := by omega
      rcases hi7 with rfl | rfl <;> rfl
    refine ⟨fun h12 => ?_, fun h12 => ?_⟩
    · replace h12 := bne_t h12
      refine ⟨rfl, [], ?_, rfl, ⟨rfl, trivial⟩, rfl, rfl⟩
      exact one_i (fz_at (l := [a, b]) (by simp; omega) h12 hF0).symm
    · replace h12 := bne_f h12
      refine ⟨((i0 + 1 : Nat) : Int), w64_id _ (by omega) (by omega), ?_⟩   -- 14
      refine ⟨by omega, ?_, ⟨rfl, rfl, rfl, trivial⟩, ⟨rfl, trivial⟩, rfl⟩
      intro j hj
      by_cases e : j = i0
      · subst e; exact h12
      · exact hF0 j (by omega)
  · replace h8 := of_decide_eq_false h8
    have e0 : 2 = i0 := by omega
    subst e0
    refine ⟨rfl, [], ?_, rfl, ⟨rfl, trivial⟩, rfl, rfl⟩
    exact one_i (fz_0 (l := [a, b]) hF0).symm

theorem fz2_t {q r : Prop} {c d : Int} (h : q ∧ r) : fz [oc q c, oc r d] = 0 := by simp [fz, oc_t h.1, oc_t h.2]
theorem fz2_f {q r : Prop} {c d : Int} (hc : c ≠ 0) (hd : d ≠ 0) : fz [oc q c, oc r d] ≠ 0 ↔ ¬ (q ∧ r) := by
  by_cases hq : q
  · by_cases hr : r
    · simp only [fz, oc_t hq, oc_t hr]; simp [hq, hr]
    · simp only [fz, oc_t hq, oc_f hr]; simp [hr, hd]
  · simp only [fz, oc_f hq]; simp [hq, hc]
theorem fz2_1 {q r : Prop} {c d : Int} (hc : c ≠ 0) (h : ¬ q) : fz [oc q c, oc r d] = c := by simp [fz, oc_f h, hc]
theorem fz2_2 {q r : Prop} {c d : Int} (hq : q) (hd : d ≠ 0) (h : ¬ r) : fz [oc q c, oc r d] = d := by simp [fz, oc_t hq, oc_f h, hd]
theorem oc_dec {q : Prop} [Decidable q] {c : Int} : (if decide q = true then 0 else c) = oc q c := by
  by_cases h : q
  · rw [if_pos (decide_eq_true h), oc_t h]
  · rw [if_neg (by simp [h]), oc_f h]
end Hf
namespace Hf
open Go Classical
variable {P : Program} {ρ : Nat → FuncId}
theorem sb {q r : Prop} {i1 : Decidable q} {i2 : Decidable r} (h : q ↔ r) : some (Sv.one (.b (@decide q i1))) = some (Sv.one (.b (@decide r i2))) := by rw [decide_eq_decide.2 h]
theorem sbf {r : Prop} {i2 : Decidable r} (h : ¬ r) : some (Sv.one (.b false)) = some (Sv.one (.b (@decide r i2))) := by rw [decide_eq_false h]

theorem i_modulesCode1_ok (B : Bs P ρ) (E : E_i_modulesCode P ρ) {p n d : Int} {f g : By} :
    CallOK P ρ 164 [.pt 0 0, .sl 1 0 1 1] [⟨true, .by [p, n] 1106 f⟩, ⟨true, .rw [.pt 2 0]⟩, ⟨true, .by [d] 513 g⟩] (.one (.i .i64 (oc (Hop p n f ∧ Mod p n.toNat d g f) 1))) [⟨true, .by [p, n] 1106 f⟩, ⟨true, .rw [.pt 2 0]⟩, ⟨true, .by [d] 513 g⟩] := by
  refine call_of_vc B.fn B.mo E.1 rfl rfl ?_
  refine ⟨3, [], _, _, _, _, [_, _, _], rfl, i_IsHopf_ok B E.2.1 , rfl, trivial, rfl, rfl, ?_⟩   -- 11
  refine ⟨(fun a0 a12 a13 b0 b1 b2 i0 => St.mk [(0, a0), (5, .one (.b (decide (Hop p n f ∧ (0 < i0 → Mod p n.toNat d g f))))), (12, a12), (13, a13), (14, .one (.i .i64 ((i0 : Nat) : Int)))] [b0, b1, b2]) _ _ _ _ _ _ , fun i0 => True, 1, trivial, ⟨⟨rfl, sb ⟨fun q => ⟨q, fun h => absurd h (by omega)⟩, fun q => q.1⟩, rfl, rfl, rfl, trivial⟩, ⟨rfl, rfl, rfl, trivial⟩, rfl⟩, fun i0 hi0 _ => ?_⟩
  have d0 : i0 = 0 ∨ i0 = 1 := by omega
  rcases d0 with rfl | rfl
  · skip
    refine ⟨fun h15 => ?_, fun h15 => ?_⟩
    · replace h15 := of_decide_eq_true h15
      refine ⟨_, _, rfl, by first | omega | (simp <;> omega), rfl, ?_⟩   -- 16 := ['.t', 12][['.t', 14]] of [1]
      refine ⟨_, rfl, ?_⟩
      refine ⟨fun h19 => ?_, fun h19 => ?_⟩
      · skip
        have hQ := dec_elim_t h19
        have hb := AShp.p1 (f := f) ⟨hQ.1.1.1, hQ.1.1.2.1, hQ.1.1.2.2.1⟩
        obtain ⟨m, rfl⟩ : ∃ m : Nat, n = (m : Int) := ⟨n.toNat, by omega⟩
        refine brB_t ?_
        refine brB_t ?_
        refine ⟨3, [2 + 0, 0], _, _, _, _, [_, _, _], rfl, i_Module_isModule_ok B E.2.2.1 hQ.1.1, rfl, ⟨⟨_, rfl, fun h => by first | rfl | cases h⟩, ⟨_, rfl, fun h => by first | rfl | cases h⟩, trivial⟩, rfl, rfl, ?_⟩   -- 22
        refine brB_t ?_
        refine ⟨((0 + 1 : Nat) : Int), w64_id _ (by omega) (by omega), ?_⟩   -- 24
        refine ⟨by omega, trivial, ⟨rfl, ?_, rfl, rfl, rfl, trivial⟩, ⟨rfl, rfl, rfl, trivial⟩, rfl⟩
        exact sb ⟨fun q => ⟨hQ.1, fun _ => q⟩, fun q => q.2 (by omega)⟩
      · skip
        refine brB_f ?_
        refine brB_f ?_
        refine brB_f ?_
        refine ⟨((0 + 1 : Nat) : Int), w64_id _ (by omega) (by omega), ?_⟩   -- 24
        refine ⟨by omega, trivial, ⟨rfl, ?_, rfl, rfl, rfl, trivial⟩, ⟨rfl, rfl, rfl, trivial⟩, rfl⟩
        exact sbf (fun q => dec_elim_t' h19 ⟨q.1, fun h => absurd h (by omega)⟩)
    · replace h15 := of_decide_eq_false h15
      exact absurd h15 (by omega)
  · skip
    refine ⟨fun h15 => ?_, fun h15 => ?_⟩
    · replace h15 := of_decide_eq_true h15
      exact absurd h15 (by omega)
    · replace h15 := of_decide_eq_false h15
      refine ⟨3, [], _, _, _, _, [_, _, _], rfl, i_unless_ok B E.2.2.2 , rfl, trivial, rfl, rfl, ?_⟩   -- 26
      refine ⟨rfl, [], ?_, rfl, ⟨rfl, rfl, rfl, trivial⟩, rfl, rfl⟩
      refine one_i ?_
      by_cases q : Hop p n f ∧ Mod p n.toNat d g f
      · rw [oc_t q, if_pos (decide_eq_true ⟨q.1, fun _ => q.2⟩)]
      · rw [oc_f q, if_neg]
        rw [decide_eq_false (fun z => q ⟨z.1, z.2 (by omega)⟩)]
        simp

end Hf
namespace Hf
open Go Classical
variable {P : Program} {ρ : Nat → FuncId}
/-- two vectors joined to one of a product: place s * i + j -/
def jnX (v w : By) (s t : Nat) : Int := bz v (t / s) * bz w (t % s)
noncomputable def jnR (p : Int) (r : Nat → Nat → Prop) (v w : By) (s : Nat) : By := fun t => if t < 8 ∧ r (t / s) (t % s) then byt (jnX v w s t % p) else 0
theorem jn_div {s a b : Nat} (hb : b < s) : (s * a + b) / s = a ∧ (s * a + b) % s = b :=
  ⟨by rw [Nat.mul_add_div (by omega), Nat.div_eq_of_lt hb, Nat.add_zero], by rw [Nat.mul_add_mod, Nat.mod_eq_of_lt hb]⟩
theorem jnR_upd {p : Int} {r r' : Nat → Nat → Prop} {v w : By} {s a0 b0 : Nat} (hb : b0 < s) (ht : s * a0 + b0 < 8) (h : ∀ a b, b < s → (r' a b ↔ r a b ∨ (a = a0 ∧ b = b0))) :
    upd (jnR p r v w s) (s * a0 + b0) (byt (bz v a0 * bz w b0 % p)) = jnR p r' v w s := by
  have hd := jn_div (a := a0) hb
  funext x
  simp only [upd, jnR]
  by_cases e : x = s * a0 + b0
  · subst e
    rw [if_pos rfl, jnX, hd.1, hd.2, if_pos ⟨ht, (h _ _ hb).2 (.inr ⟨rfl, rfl⟩)⟩]
  · rw [if_neg e]
    have h1 := h (x / s) (x % s) (Nat.mod_lt _ (by omega))
    have h2 : ¬ (x / s = a0 ∧ x % s = b0) := fun q => e (by have := Nat.div_add_mod x s; rw [q.1, q.2] at this; exact this.symm)
    by_cases hx : x < 8
    · by_cases q : r (x / s) (x % s)
      · rw [if_pos ⟨hx, q⟩, if_pos ⟨hx, h1.2 (.inl q)⟩]
      · rw [if_neg fun k => q k.2, if_neg fun k => (h1.1 k.2).elim q h2]
    · rw [if_neg fun k => hx k.1, if_neg fun k => hx k.1]
theorem jnR_ext {p : Int} {r r' : Nat → Nat → Prop} {v w : By} {s : Nat} (hs : 1 ≤ s) (h : ∀ a b, b < s → s * a + b < 8 → (r a b ↔ r' a b) ∨ bz v a * bz w b = 0) : jnR p r v w s = jnR p r' v w s := by
  funext x
  simp only [jnR]
  by_cases hx : x < 8
  · rcases h (x / s) (x % s) (Nat.mod_lt _ (by omega)) (by rw [Nat.div_add_mod]; exact hx) with q | q
    · by_cases q2 : r (x / s) (x % s)
      · rw [if_pos ⟨hx, q2⟩, if_pos ⟨hx, q.1 q2⟩]
      · rw [if_neg fun k => q2 k.2, if_neg fun k => q2 (q.2 k.2)]
    · have e : byt (jnX v w s x % p) = 0 := by rw [jnX, q, Int.zero_emod]; rfl
      rw [e]
      simp
  · rw [if_neg fun k => hx k.1, if_neg fun k => hx k.1]
theorem jnR_z {p : Int} {r : Nat → Nat → Prop} {v w : By} {s : Nat} (h : ∀ a b, ¬ r a b) : jnR p r v w s = fun _ => 0 := by
  funext x
  simp only [jnR]
  rw [if_neg fun k => h _ _ k.2]
theorem jnR_all {p : Int} {r : Nat → Nat → Prop} {v w : By} {s : Nat} (hs : 1 ≤ s) (h : ∀ a b, b < s → s * a + b < 8 → r a b ∨ bz v a * bz w b = 0) : jnR p r v w s = vec 8 p (jnX v w s) := by
  rw [jnR_ext (r' := fun _ _ => True) hs fun a b h1 h2 => (h a b h1 h2).imp (fun q => ⟨fun _ => trivial, fun _ => q⟩) id]
  funext x
  simp only [jnR, vec, and_true]
theorem jn_s {s a : Nat} : (a + 1) * s = s * a + s := by rw [Nat.add_mul, Nat.one_mul, Nat.mul_comm]

theorem i_field_joined_ok (B : Bs P ρ) (E : E_i_field_joined P ρ) {p n : Int} {s m : Nat} {g v w : By} (hp : 1 ≤ p) (hp2 : p ≤ 1000) (hs : 1 ≤ s) (hs8 : s ≤ 8) (hm : m * s ≤ 8) (hv : ∀ i, m ≤ i → i < 8 → v i = 0) (hw : ∀ j, s ≤ j → j < 8 → w j = 0) :
    CallOK P ρ 238 [.ag [p, n] 2 g, .ag [] 8 v, .ag [] 8 w, .i .i64 (s : Int)] [] (.one (.ag [] 8 (vec 8 p (jnX v w s)))) [] := by
  refine call_of_vc B.fn B.mo E.1 rfl rfl ?_
  refine ⟨0, rfl, ?_⟩   -- .box 4
  refine ⟨1, rfl, ?_⟩   -- .box 5
  refine ⟨2, rfl, ?_⟩   -- .box 6
  refine ⟨3, rfl, ?_⟩   -- .alo 8
  refine ⟨4, rfl, ?_⟩   -- .alo 9
  refine ⟨⟨rfl, by first | omega | (simp <;> omega), by first | omega | (simp <;> omega)⟩, ?_⟩   -- sta ['.t', 9] ['.t', 14] 8
  refine ⟨⟨by first | omega | (simp <;> omega), by first | omega | (simp <;> omega)⟩, ?_⟩   -- 15 := lda [['.t', 5], 0, 8]
  refine ⟨(fun a3 b0 b1 b2 b3 i0 => St.mk [(3, a3), (4, .one (.pt 0 0)), (6, .one (.pt 2 0)), (8, .one (.pt 3 0)), (9, .one (.pt 4 0)), (15, .one (.ag [] 8 v)), (16, .one (.i .i64 ((i0 : Nat) : Int)))] [b0, b1, b2, b3, Blk.mk false (.by [] 8 (jnR p (fun a b => a < i0) v w s))]) _ _ _ _ _ , fun i0 => True, 8, trivial, ⟨⟨rfl, rfl, rfl, rfl, rfl, ?_, rfl, trivial⟩, ⟨rfl, rfl, rfl, rfl, ?_, trivial⟩, rfl⟩, fun i0 hi0 _ => ?_⟩
  · show some (Sv.one (.ag [] 8 (sh v 0))) = some (Sv.one (.ag [] 8 v))
    rw [sh_zero]
  · exact blk_by (by rw [jnR_z fun a b q => by omega]; exact z_sta.symm)
  refine ⟨fun h17 => ?_, fun h17 => ?_⟩
  · replace h17 := of_decide_eq_true h17
    refine ⟨_, rfl, by first | omega | (simp <;> omega), by first | omega | (simp <;> omega), ?_⟩   -- 19 := ['.t', 15][['.t', 16]]
    refine ⟨⟨by first | omega | (simp <;> omega), by first | omega | (simp <;> omega)⟩, ?_⟩   -- 20 := lda [['.t', 6], 0, 8]
    refine ⟨(fun a3 a10 a11 a15 a16 b0 b1 b2 b3 i1 => St.mk [(3, a3), (4, .one (.pt 0 0)), (6, .one (.pt 2 0)), (8, .one (.pt 3 0)), (9, .one (.pt 4 0)), (10, a10), (11, a11), (15, a15), (16, a16), (20, .one (.ag [] 8 w)), (21, .one (.i .i64 ((i1 : Nat) : Int)))] [b0, b1, b2, b3, Blk.mk false (.by [] 8 (jnR p (fun a b => a < i0 ∨ (a = i0 ∧ b < i1)) v w s))]) _ _ _ _ _ _ _ _ _ , fun i1 => True, 8, trivial, ⟨⟨rfl, rfl, rfl, rfl, rfl, rfl, rfl, rfl, rfl, ?_, rfl, trivial⟩, ⟨rfl, rfl, rfl, rfl, ?_, trivial⟩, rfl⟩, fun i1 hi1 _ => ?_⟩
    · show some (Sv.one (.ag [] 8 (sh w 0))) = some (Sv.one (.ag [] 8 w))
      rw [sh_zero]
    · exact blk_by (jnR_ext hs fun a b _ _ => .inl (by omega))
    refine ⟨fun h22 => ?_, fun h22 => ?_⟩
    · replace h22 := of_decide_eq_true h22
      refine ⟨_, rfl, by first | omega | (simp <;> omega), by first | omega | (simp <;> omega), ?_⟩   -- 24 := ['.t', 20][['.t', 21]]
      refine ⟨fun h27 => ?_, fun h27 => ?_⟩
      · replace h27 := bne_t h27
        refine brB_t ?_
        refine brB_t ?_
        refine ⟨fun h30 => ?_, fun h30 => ?_⟩
        · replace h30 := bne_t h30
          have hj : i1 < s := by
            rcases Nat.lt_or_ge i1 s with h | h
            · exact h
            · exact (h30 (hw i1 h (by omega))).elim
          have hi : i0 < m := by
            rcases Nat.lt_or_ge i0 m with h | h
            · exact h
            · exact (h27 (hv i0 h (by omega))).elim
          have q1 := bz2 v w i0 i1
          have q2 : (i0 + 1) * s ≤ m * s := Nat.mul_le_mul_right s hi
          have q3 := jn_s (s := s) (a := i0)
          refine ⟨((s * i0 : Nat) : Int), w64_id _ (by omega) (by omega), ?_⟩
          refine ⟨((s * i0 + i1 : Nat) : Int), w64_id _ (by omega) (by omega), ?_⟩
          refine ⟨bz v i0 * bz w i1, w64_id (bz v i0 * bz w i1) (by omega) (by omega), ?_⟩
          refine ⟨5, [], _, _, _, _, [_, _, _, _, _], rfl, i_field_mod_ok B E.2 hp hp2, rfl, trivial, rfl, rfl, ?_⟩   -- 42
          refine ⟨s * i0 + i1, s * i0 + i1, rfl, by omega, by omega, ?_⟩
          refine ⟨⟨by first | omega | (simp <;> omega), by first | omega | (simp <;> omega)⟩, ?_⟩   -- st8 ['.t', 43] ['.t', 42]
          refine ⟨((i1 + 1 : Nat) : Int), w64_id _ (by omega) (by omega), ?_⟩   -- 44
          refine ⟨by omega, trivial, ⟨rfl, rfl, rfl, rfl, rfl, rfl, rfl, rfl, rfl, rfl, rfl, trivial⟩, ⟨rfl, rfl, rfl, rfl, ?_, trivial⟩, rfl⟩
          exact blk_by (jnR_upd hj (by omega) fun a b _ => by omega).symm
        · replace h30 := bne_f h30
          refine ⟨((i1 + 1 : Nat) : Int), w64_id _ (by omega) (by omega), ?_⟩   -- 44
          refine ⟨by omega, trivial, ⟨rfl, rfl, rfl, rfl, rfl, rfl, rfl, rfl, rfl, rfl, rfl, trivial⟩, ⟨rfl, rfl, rfl, rfl, ?_, trivial⟩, rfl⟩
          refine blk_by (jnR_ext hs fun a b _ _ => ?_)
          by_cases q : a = i0 ∧ b = i1
          · exact .inr (by rw [q.2, bz_eq0.2 h30, Int.mul_zero])
          · exact .inl (by omega)
      · replace h27 := bne_f h27
        refine brB_f ?_
        refine brB_f ?_
        refine brB_f ?_
        refine ⟨((i1 + 1 : Nat) : Int), w64_id _ (by omega) (by omega), ?_⟩   -- 44
        refine ⟨by omega, trivial, ⟨rfl, rfl, rfl, rfl, rfl, rfl, rfl, rfl, rfl, rfl, rfl, trivial⟩, ⟨rfl, rfl, rfl, rfl, ?_, trivial⟩, rfl⟩
        refine blk_by (jnR_ext hs fun a b _ _ => ?_)
        by_cases q : a = i0 ∧ b = i1
        · exact .inr (by rw [q.1, bz_eq0.2 h27, Int.zero_mul])
        · exact .inl (by omega)
    · replace h22 := of_decide_eq_false h22
      have e1 : 8 = i1 := by omega
      subst e1
      refine ⟨((i0 + 1 : Nat) : Int), w64_id _ (by omega) (by omega), ?_⟩   -- 45
      refine ⟨by omega, trivial, ⟨rfl, rfl, rfl, rfl, rfl, rfl, rfl, trivial⟩, ⟨rfl, rfl, rfl, rfl, ?_, trivial⟩, rfl⟩
      exact blk_by (jnR_ext hs fun a b _ _ => .inl (by omega))
  · replace h17 := of_decide_eq_false h17
    have e0 : 8 = i0 := by omega
    subst e0
    refine ⟨⟨by first | omega | (simp <;> omega), by first | omega | (simp <;> omega)⟩, ?_⟩   -- 46 := lda [['.t', 9], 0, 8]
    refine ⟨⟨rfl, by first | omega | (simp <;> omega), by first | omega | (simp <;> omega)⟩, ?_⟩   -- sta ['.t', 8] ['.t', 46] 8
    refine ⟨rfl, ⟨by first | omega | (simp <;> omega), by first | omega | (simp <;> omega)⟩, [], ?_, rfl, trivial, rfl, rfl⟩
    rw [jnR_all hs fun a b h1 h2 => .inl (by
      have q3 : 1 * a ≤ s * a := Nat.mul_le_mul_right a hs
      omega)]
    exact one_ag out_vec

theorem s_l06Both_ok (B : Bs P ρ) (E : E_s_l06Both P ρ) {p : Int} {m s : Nat} {v w : By} (hp : 1 ≤ p) (hp2 : p ≤ 1000) (hs : 1 ≤ s) (hm1 : 1 ≤ m) (hm : m * s ≤ 8) (hv : ∀ i, m ≤ i → i < 8 → v i = 0) :
    CallOK P ρ 242 [.i .i64 p, .ag [] 8 v, .ag [] 8 w, .i .i64 (m : Int), .i .i64 (s : Int)] [] (.one (.ag [] 8 (vec 8 p (jnX v w s)))) [] := by
  refine call_of_vc B.fn B.mo E.1 rfl rfl ?_
  have hm8 : m * 1 ≤ m * s := Nat.mul_le_mul_left m hs
  have hs8 : 1 * s ≤ m * s := Nat.mul_le_mul_right s hm1
  refine ⟨0, rfl, ?_⟩   -- .box 6
  refine ⟨1, rfl, ?_⟩   -- .box 7
  refine ⟨2, rfl, ?_⟩   -- .alo 10
  refine ⟨3, rfl, ?_⟩   -- .alo 11
  refine ⟨⟨rfl, by first | omega | (simp <;> omega), by first | omega | (simp <;> omega)⟩, ?_⟩   -- sta ['.t', 11] ['.t', 14] 8
  refine ⟨(fun a0 a3 a4 b0 b1 b2 i0 => St.mk [(0, a0), (3, a3), (4, a4), (6, .one (.pt 0 0)), (7, .one (.pt 1 0)), (10, .one (.pt 2 0)), (11, .one (.pt 3 0)), (12, .one (.i .i64 ((i0 : Nat) : Int)))] [b0, b1, b2, Blk.mk false (.by [] 8 (jnR p (fun a b => a < i0) v w s))]) _ _ _ _ _ _ , fun i0 => True, m, trivial, ⟨⟨rfl, rfl, rfl, rfl, rfl, rfl, rfl, rfl, trivial⟩, ⟨rfl, rfl, rfl, ?_, trivial⟩, rfl⟩, fun i0 hi0 _ => ?_⟩
  · exact blk_by (by rw [jnR_z fun a b q => by omega]; exact z_sta.symm)
  refine ⟨fun h17 => ?_, fun h17 => ?_⟩
  · replace h17 := of_decide_eq_true h17
    have q2 : (i0 + 1) * s ≤ m * s := Nat.mul_le_mul_right s (by omega)
    have q3 := jn_s (s := s) (a := i0)
    refine ⟨(fun a0 a3 a4 a12 b0 b1 b2 i1 => St.mk [(0, a0), (3, a3), (4, a4), (6, .one (.pt 0 0)), (7, .one (.pt 1 0)), (10, .one (.pt 2 0)), (11, .one (.pt 3 0)), (12, a12), (13, .one (.i .i64 ((i1 : Nat) : Int)))] [b0, b1, b2, Blk.mk false (.by [] 8 (jnR p (fun a b => a < i0 ∨ (a = i0 ∧ b < i1)) v w s))]) _ _ _ _ _ _ _ , fun i1 => True, s, trivial, ⟨⟨rfl, rfl, rfl, rfl, rfl, rfl, rfl, rfl, rfl, trivial⟩, ⟨rfl, rfl, rfl, ?_, trivial⟩, rfl⟩, fun i1 hi1 _ => ?_⟩
    · exact blk_by (jnR_ext hs fun a b _ _ => .inl (by omega))
    refine ⟨fun h22 => ?_, fun h22 => ?_⟩
    · replace h22 := of_decide_eq_true h22
      have q1 := bz2 v w i0 i1
      refine ⟨((s * i0 : Nat) : Int), w64_id _ (by omega) (by omega), ?_⟩
      refine ⟨((s * i0 + i1 : Nat) : Int), w64_id _ (by omega) (by omega), ?_⟩
      refine ⟨i0, i0, rfl, by omega, by omega, ?_⟩   -- 32
      refine ⟨⟨by first | omega | (simp <;> omega), by first | omega | (simp <;> omega)⟩, ?_⟩   -- 33 := ld8 ['.t', 32]
      refine ⟨i1, i1, rfl, by omega, by omega, ?_⟩   -- 36
      refine ⟨⟨by first | omega | (simp <;> omega), by first | omega | (simp <;> omega)⟩, ?_⟩   -- 37 := ld8 ['.t', 36]
      refine ⟨bz v i0 * bz w i1, w64_id (bz v i0 * bz w i1) (by omega) (by omega), ?_⟩
      refine ⟨4, [], _, _, _, _, [_, _, _, _], rfl, s_l01Mod_ok B E.2 hp hp2, rfl, trivial, rfl, rfl, rfl, ?_⟩   -- 40
      refine ⟨s * i0 + i1, s * i0 + i1, rfl, by omega, by omega, ?_⟩
      refine ⟨⟨by first | omega | (simp <;> omega), by first | omega | (simp <;> omega)⟩, ?_⟩   -- st8 ['.t', 41] ['.t', 40]
      refine ⟨((i1 + 1 : Nat) : Int), w64_id _ (by omega) (by omega), ?_⟩   -- 24
      refine ⟨by omega, trivial, ⟨rfl, rfl, rfl, rfl, rfl, rfl, rfl, rfl, rfl, trivial⟩, ⟨rfl, rfl, rfl, ?_, trivial⟩, rfl⟩
      exact blk_by (jnR_upd (by omega) (by omega) fun a b _ => by omega).symm
    · replace h22 := of_decide_eq_false h22
      have e1 : s = i1 := by omega
      subst e1
      refine ⟨((i0 + 1 : Nat) : Int), w64_id _ (by omega) (by omega), ?_⟩   -- 19
      refine ⟨by omega, trivial, ⟨rfl, rfl, rfl, rfl, rfl, rfl, rfl, rfl, trivial⟩, ⟨rfl, rfl, rfl, ?_, trivial⟩, rfl⟩
      exact blk_by (jnR_ext hs fun a b _ _ => .inl (by omega))
  · replace h17 := of_decide_eq_false h17
    have e0 : m = i0 := by omega
    subst e0
    refine ⟨⟨by first | omega | (simp <;> omega), by first | omega | (simp <;> omega)⟩, ?_⟩   -- 42 := lda [['.t', 11], 0, 8]
    refine ⟨⟨rfl, by first | omega | (simp <;> omega), by first | omega | (simp <;> omega)⟩, ?_⟩   -- sta ['.t', 10] ['.t', 42] 8
    refine ⟨rfl, ⟨by first | omega | (simp <;> omega), by first | omega | (simp <;> omega)⟩, [], ?_, rfl, trivial, rfl, rfl⟩
    rw [jnR_all hs fun a b h1 h2 => by
      by_cases q : a < m
      · exact .inl q
      · have q3 : 1 * a ≤ s * a := Nat.mul_le_mul_right a hs
        exact .inr (by rw [bz_eq0.2 (hv a (by omega) (by omega)), Int.zero_mul])]
    exact one_ag out_vec

end Hf
namespace Hf
open Go Classical
variable {P : Program} {ρ : Nat → FuncId}
theorem mul8 {d e : Int} (hd : 1 ≤ d ∧ d ≤ 8) (he : 1 ≤ e ∧ e ≤ 8) : 1 ≤ d * e ∧ d * e ≤ 64 :=
  ⟨by have := Int.mul_le_mul hd.1 he.1 (by omega) (by omega); omega, by have := Int.mul_le_mul hd.2 he.2 (by omega) (by omega); omega⟩
end Hf
namespace Hf
open Go Classical
variable {P : Program} {ρ : Nat → FuncId}
theorem bz0 {f : By} {x : Nat} (h : f x = 0) : bz f x = 0 := bz_eq0.2 h

end Hf
namespace Hf
open Go Classical
variable {P : Program} {ρ : Nat → FuncId}
theorem i_Algebra_has_nil_ok (B : Bs P ρ) (E : E_i_Algebra_has P ρ) {n p : Int} {f : By} :
    CallOK P ρ 243 [.pt 0 0, .sn] [⟨true, .by [p, n] 522 f⟩] (.one (.b true)) [⟨true, .by [p, n] 522 f⟩] := by
  refine call_of_vc B.fn B.mo E.1 rfl rfl ?_
  refine ⟨1, rfl, ?_⟩   -- .box 2
  refine ⟨2, [0, 1], [.sn, .fn 244 [] [(1, 0)]], [⟨true, .by [p, n] 522 f⟩, ⟨true, .vr (.pt 0 0)⟩], _, _, [_, _], rfl, x_ContainsFunc_nil B E.2.2 (by simp) rfl rfl, rfl, ⟨⟨_, rfl, fun h => by first | rfl | cases h⟩, ⟨_, rfl, fun h => by first | rfl | cases h⟩, trivial⟩, rfl, rfl, ?_⟩
  exact ⟨rfl, [], rfl, rfl, ⟨rfl, trivial⟩, rfl, rfl⟩

theorem i_Algebra_code_nil_ok (B : Bs P ρ) (E : E_i_Algebra_code P ρ) {n p : Int} {f : By} :
    CallOK P ρ 240 [.pt 0 0, .sn] [⟨true, .by [p, n] 522 f⟩] (.one (.i .i64 (oc (Alg p n f) 1))) [⟨true, .by [p, n] 522 f⟩] := by
  refine call_of_vc B.fn B.mo E.1 rfl rfl ?_
  refine ⟨1, [], _, _, _, _, [_], rfl, i_IsAlgebra_ok B E.2.1 , rfl, trivial, rfl, rfl, ?_⟩   -- 8
  refine ⟨fun h9 => ?_, fun h9 => ?_⟩
  · skip
    refine brB_t ?_
    refine brB_t ?_
    refine ⟨1, [0], _, _, _, _, [_], rfl, i_Algebra_has_nil_ok B E.2.2.1 , rfl, ⟨⟨_, rfl, fun h => by first | rfl | cases h⟩, trivial⟩, rfl, rfl, ?_⟩   -- 12
    refine brB_t ?_
    refine ⟨1, [], _, _, _, _, [_], rfl, i_unless_ok B E.2.2.2 , rfl, trivial, rfl, rfl, ?_⟩   -- 14
    refine ⟨rfl, [], ?_, rfl, ⟨rfl, trivial⟩, rfl, rfl⟩
    rw [oc_t (dec_elim_t h9)]; rfl
  · skip
    refine brB_f ?_
    refine brB_f ?_
    refine brB_f ?_
    refine ⟨1, [], _, _, _, _, [_], rfl, i_unless_ok B E.2.2.2 , rfl, trivial, rfl, rfl, ?_⟩   -- 14
    refine ⟨rfl, [], ?_, rfl, ⟨rfl, trivial⟩, rfl, rfl⟩
    rw [oc_f (dec_elim_t' h9)]; rfl

/-- a Hopf algebra, a module of it, and an algebra -/
def SmQ (p n d pa na : Int) (f g fa : By) : Prop := Hop p n f ∧ Mod p n.toNat d g f ∧ Alg pa na fa
theorem fz3_oc {q1 q2 : Prop} : fz [oc q1 1, oc q2 1] = oc (q1 ∧ q2) 1 := by
  by_cases h1 : q1
  · by_cases h2 : q2
    · rw [oc_t h1, oc_t h2, oc_t ⟨h1, h2⟩]; rfl
    · rw [oc_t h1, oc_f h2, oc_f (fun z : _ ∧ _ => h2 z.2)]; rfl
  · rw [oc_f h1, oc_f (fun z : _ ∧ _ => h1 z.1)]; rfl
theorem oc_iff {q r : Prop} {c : Int} (h : q ↔ r) : oc q c = oc r c := by
  by_cases h1 : q
  · rw [oc_t h1, oc_t (h.1 h1)]
  · rw [oc_f h1, oc_f fun k => h1 (h.2 k)]
theorem oc_b {b : Bool} {q : Prop} {c : Int} (h : b = true ↔ q) : (if b = true then 0 else c) = oc q c := by
  by_cases h1 : q
  · rw [oc_t h1, if_pos (h.2 h1)]
  · rw [oc_f h1, if_neg fun k => h1 (h.1 k)]

theorem i_smashCode_ok (B : Bs P ρ) (E : E_i_smashCode P ρ) {p n d pa na : Int} {f g fa : By} :
    CallOK P ρ 232 [.pt 0 0, .pt 1 0, .pt 2 0] [⟨true, .by [p, n] 1106 f⟩, ⟨true, .by [pa, na] 522 fa⟩, ⟨true, .by [d] 513 g⟩] (.one (.i .i64 (fz [oc (SmQ p n d pa na f g fa) 1, oc (p = pa ∧ d = na) 2]))) [⟨true, .by [p, n] 1106 f⟩, ⟨true, .by [pa, na] 522 fa⟩, ⟨true, .by [d] 513 g⟩] := by
  refine call_of_vc B.fn B.mo E.1 rfl rfl ?_
  have hc : fz [oc (Hop p n f ∧ Mod p n.toNat d g f) 1, oc (Alg pa na fa) 1] = oc (SmQ p n d pa na f g fa) 1 :=
    fz3_oc.trans (oc_iff ⟨fun q => ⟨q.1.1, q.1.2, q.2⟩, fun q => ⟨⟨q.1, q.2.1⟩, q.2.2⟩⟩)
  refine ⟨3, rfl, ?_⟩   -- .bsa 10
  refine ⟨4, [0, 3, 2], _, _, _, _, [_, _, _, _], rfl, i_modulesCode1_ok B E.2.1 , rfl, ⟨⟨_, rfl, fun h => by first | rfl | cases h⟩, ⟨_, rfl, fun h => by first | rfl | cases h⟩, ⟨_, rfl, fun h => by first | rfl | cases h⟩, trivial⟩, rfl, rfl, ?_⟩   -- 11
  refine ⟨4, [1], _, _, _, _, [_, _, _, _], rfl, i_Algebra_code_nil_ok B E.2.2.1 , rfl, ⟨⟨_, rfl, fun h => by first | rfl | cases h⟩, trivial⟩, rfl, rfl, ?_⟩   -- 13
  refine ⟨4, rfl, ?_⟩   -- .bsa 14
  refine ⟨5, [4], _, _, _, _, [_, _, _, _, _], rfl, i_first2_ok B E.2.2.2.1 , rfl, ⟨⟨_, rfl, fun h => by first | rfl | cases h⟩, trivial⟩, rfl, rfl, ?_⟩   -- 15
  refine ⟨fun h26 => ?_, fun h26 => ?_⟩
  · replace h26 := eq_of_beq h26
    have e26 : p = pa := h26
    refine brB_t ?_
    refine brB_t ?_
    refine brB_t ?_
    refine brB_t ?_
    refine brB_t ?_
    refine brB_t ?_
    refine brB_t ?_
    refine brB_t ?_
    refine brB_t ?_
    refine ⟨5, [], _, _, _, _, [_, _, _, _, _], rfl, i_unless_ok B E.2.2.2.2 , rfl, trivial, rfl, rfl, rfl, ?_⟩   -- 37
    refine ⟨5, rfl, ?_⟩   -- .bsa 38
    refine ⟨6, [5], _, _, _, _, [_, _, _, _, _, _], rfl, i_first2_ok B E.2.2.2.1 , rfl, ⟨⟨_, rfl, fun h => by first | rfl | cases h⟩, trivial⟩, rfl, rfl, ?_⟩   -- 39
    refine ⟨rfl, [], ?_, rfl, ⟨rfl, rfl, rfl, trivial⟩, rfl, rfl⟩
    rw [hc, oc_b (q := p = pa ∧ d = na) ⟨fun k => ⟨e26, eq_of_beq k⟩, fun k => beq_iff_eq.2 k.2⟩]; rfl
  · replace h26 := ne_of_beq_false h26
    have e26 : p ≠ pa := h26
    refine brB_f ?_
    refine brB_f ?_
    refine brB_f ?_
    refine brB_f ?_
    refine brB_f ?_
    refine brB_f ?_
    refine brB_f ?_
    refine brB_f ?_
    refine brB_f ?_
    refine ⟨5, [], _, _, _, _, [_, _, _, _, _], rfl, i_unless_ok B E.2.2.2.2 , rfl, trivial, rfl, rfl, rfl, ?_⟩   -- 37
    refine ⟨5, rfl, ?_⟩   -- .bsa 38
    refine ⟨6, [5], _, _, _, _, [_, _, _, _, _, _], rfl, i_first2_ok B E.2.2.2.1 , rfl, ⟨⟨_, rfl, fun h => by first | rfl | cases h⟩, trivial⟩, rfl, rfl, ?_⟩   -- 39
    refine ⟨rfl, [], ?_, rfl, ⟨rfl, rfl, rfl, trivial⟩, rfl, rfl⟩
    rw [hc, oc_f (q := p = pa ∧ d = na) fun k => e26 k.1]; rfl

theorem s_l08Code_ok (B : Bs P ρ) (E : E_s_l08Code P ρ) {p n d pa na : Int} {f g fa : By} :
    CallOK P ρ 230 [.ag [p, n] 1106 f, .ag [pa, na] 522 fa, .ag [d] 513 g] [] (.one (.i .i64 (fz [oc (SmQ p n d pa na f g fa) 1, oc (p = pa ∧ d = na) 2]))) [] := by
  refine call_of_vc B.fn B.mo E.1 rfl rfl ?_
  refine ⟨0, rfl, ?_⟩   -- .box 3
  refine ⟨1, rfl, ?_⟩   -- .box 4
  refine ⟨2, rfl, ?_⟩   -- .box 5
  refine ⟨3, [], _, _, _, _, [_, _, _], rfl, s_l03Is_ok B E.2.1 , rfl, trivial, rfl, rfl, ?_⟩   -- 9
  refine ⟨fun h11 => ?_, fun h11 => ?_⟩
  · skip
    have hH : ¬ Hop p n f := dec_elim_t' (not_t h11)
    refine brB_t ?_
    refine brB_t ?_
    refine brB_t ?_
    refine brB_t ?_
    refine brB_t ?_
    refine brB_t ?_
    refine brB_t ?_
    refine brB_t ?_
    refine brB_t ?_
    refine ⟨rfl, [], ?_, rfl, trivial, rfl, rfl⟩
    rw [fz2_1 (by omega) fun q : SmQ p n d pa na f g fa => hH q.1]; rfl
  · skip
    have hH : Hop p n f := dec_elim_t (not_f h11)
    have hb := AShp.p1 (f := f) ⟨hH.1.1, hH.1.2.1, hH.1.2.2.1⟩
    obtain ⟨m, rfl⟩ : ∃ m : Nat, n = (m : Int) := ⟨n.toNat, by omega⟩
    refine brB_f ?_
    refine ⟨3, [], _, _, _, _, [_, _, _], rfl, s_l01Is_ok B E.2.2.1 , rfl, trivial, rfl, rfl, ?_⟩   -- 13
    refine brB_f ?_
    refine brB_f ?_
    refine ⟨fun h16 => ?_, fun h16 => ?_⟩
    · skip
      have hA : ¬ Alg pa na fa := dec_elim_t' (not_t h16)
      refine brB_t ?_
      refine brB_t ?_
      refine brB_t ?_
      refine brB_t ?_
      refine brB_t ?_
      refine ⟨rfl, [], ?_, rfl, trivial, rfl, rfl⟩
      rw [fz2_1 (by omega) fun q : SmQ p m d pa na f g fa => hA q.2.2]; rfl
    · skip
      have hA : Alg pa na fa := dec_elim_t (not_f h16)
      refine brB_f ?_
      refine brB_f ?_
      refine ⟨3, [], _, _, _, _, [_, _, _], rfl, s_l06Holds_ok B E.2.2.2 hH.1, rfl, trivial, rfl, rfl, ?_⟩   -- 19
      refine brB_f ?_
      refine brB_f ?_
      refine ⟨fun h7 => ?_, fun h7 => ?_⟩
      · skip
        have hM : ¬ Mod p m d g f := dec_elim_t' (not_t h7)
        refine ⟨rfl, [], ?_, rfl, trivial, rfl, rfl⟩
        rw [fz2_1 (by omega) fun q : SmQ p m d pa na f g fa => hM q.2.1]; rfl
      · skip
        have hM : Mod p m d g f := dec_elim_t (not_f h7)
        have hS : SmQ p m d pa na f g fa := ⟨hH, hM, hA⟩
        refine ⟨fun h28 => ?_, fun h28 => ?_⟩
        · replace h28 := bne_t h28
          refine brB_t ?_
          refine brB_t ?_
          refine brB_t ?_
          refine brB_t ?_
          refine brB_t ?_
          refine brB_t ?_
          refine ⟨rfl, [], ?_, rfl, trivial, rfl, rfl⟩
          rw [fz2_2 hS (by omega) fun k : p = pa ∧ d = na => h28 k.1]; rfl
        · replace h28 := bne_f h28
          refine brB_f ?_
          refine brB_f ?_
          refine brB_f ?_
          refine brB_f ?_
          refine brB_f ?_
          refine ⟨fun h22 => ?_, fun h22 => ?_⟩
          · replace h22 := bne_t h22
            refine ⟨rfl, [], ?_, rfl, trivial, rfl, rfl⟩
            rw [fz2_2 hS (by omega) fun k : p = pa ∧ d = na => h22 k.2]; rfl
          · replace h22 := bne_f h22
            refine ⟨rfl, [], ?_, rfl, trivial, rfl, rfl⟩
            rw [fz2_t (⟨hS, h28, h22⟩ : SmQ p m d pa na f g fa ∧ p = pa ∧ d = na)]; rfl

end Hf
namespace Hf
open Go Classical
variable {P : Program} {ρ : Nat → FuncId}
theorem l_toAlgebra_raw_ok (B : Bs P ρ) (E : E_l_toAlgebra P ρ) {p n : Int} {f : By} :
    CallOK P ρ 217 [.ag [p, n] 522 f] [] (.one (.ag [p, n] 522 (algR f))) [] := by
  refine call_of_vc B.fn B.mo E.1 rfl rfl ?_
  refine ⟨0, rfl, ?_⟩   -- .box 1
  refine ⟨1, rfl, ?_⟩   -- .alo 2
  refine ⟨2, rfl, ?_⟩   -- .alo 3
  refine ⟨⟨by first | omega | (simp <;> omega), by first | omega | (simp <;> omega)⟩, ?_⟩   -- 11 := lda [['.t', 10], 0, 8]
  refine ⟨3, [], _, _, _, _, [_, _, _], rfl, l_toVector_ok B E.2.1 , rfl, trivial, rfl, rfl, ?_⟩   -- 12
  refine ⟨⟨rfl, by first | omega | (simp <;> omega), by first | omega | (simp <;> omega)⟩, ?_⟩   -- sta ['.t', 13] ['.t', 12] 8
  refine ⟨⟨by first | omega | (simp <;> omega), by first | omega | (simp <;> omega)⟩, ?_⟩   -- 15 := lda [['.t', 14], 0, 512]
  refine ⟨3, [], _, _, _, _, [_, _, _], rfl, l_toTable_ok B E.2.2 , rfl, trivial, rfl, rfl, ?_⟩   -- 16
  refine ⟨⟨rfl, by first | omega | (simp <;> omega), by first | omega | (simp <;> omega)⟩, ?_⟩   -- sta ['.t', 17] ['.t', 16] 512
  exact ⟨rfl, ⟨by first | omega | (simp <;> omega), by first | omega | (simp <;> omega)⟩, [], rfl, rfl, trivial, rfl, rfl⟩

theorem l_toAlgebra_ok (B : Bs P ρ) (E : E_l_toAlgebra P ρ) {p n : Int} {f : By} : CallOK P ρ 217 [.ag [p, n] 522 f] [] (.one (.ag [p, n] 522 f)) [] := (l_toAlgebra_raw_ok B E).conv eqL_rfl ⟨_, rfl, fun _ h1 h2 => algR_eq h1 h2⟩ eqH_rfl
/-- a module algebra: the product -/
def MAl (p : Int) (n e : Nat) (f fa g : By) (i x y : Nat) : Prop := ∀ c, c < 8 → cg p (sm e fun k => bz fa (10 + x * 64 + y * 8 + k) * bz g (1 + i * 64 + (k * 8 + c))) (sm n fun j => sm n fun l => bz f (530 + i * 64 + j * 8 + l) * prd e fa 10 (sh g (1 + j * 64 + x * 8)) (sh g (1 + l * 64 + y * 8)) c)
/-- a module algebra: the unit -/
def MAu (p : Int) (e : Nat) (f fa g : By) (i : Nat) : Prop := ∀ c, c < 8 → cg p (sm e fun k => bz fa (2 + k) * bz g (1 + i * 64 + (k * 8 + c))) (bz f (522 + i) * bz fa (2 + c))
def MAA (p : Int) (n e : Nat) (f fa g : By) : Prop := ∀ i, i < n → MAu p e f fa g i ∧ ∀ x y, x < e → y < e → MAl p n e f fa g i x y
theorem ml_sum {p : Int} {n e i x y c : Nat} {f fa g : By} (h : HShp p n f) (hi : i < 8) : (sm 64 fun q => bz f (530 + i * 64 + q) * prd e fa 10 (sh g (1 + q / 8 * 64 + x * 8)) (sh g (1 + q % 8 * 64 + y * 8)) c) = sm n fun j => sm n fun l => bz f (530 + i * 64 + j * 8 + l) * prd e fa 10 (sh g (1 + j * 64 + x * 8)) (sh g (1 + l * 64 + y * 8)) c := by
  have hb := h.b
  rw [sm_64]
  have e1 : ∀ j k, j < 8 → k < 8 → bz f (530 + i * 64 + (j * 8 + k)) * prd e fa 10 (sh g (1 + (j * 8 + k) / 8 * 64 + x * 8)) (sh g (1 + (j * 8 + k) % 8 * 64 + y * 8)) c = bz f (530 + i * 64 + j * 8 + k) * prd e fa 10 (sh g (1 + j * 64 + x * 8)) (sh g (1 + k * 64 + y * 8)) c := by
    intro j k hj hk
    rw [show (j * 8 + k) / 8 = j by omega, show (j * 8 + k) % 8 = k by omega, ← Nat.add_assoc]
  rw [sm_congr fun j hj => sm_congr fun k hk => e1 j k hj hk]
  rw [sm_8n (n := n) hb.2.2.2 fun j h1 h2 => sm_zero fun k hk => by rw [h.com hi h2 hk (.inr (.inl h1)), Int.zero_mul]]
  exact sm_congr fun j hj => sm_8n hb.2.2.2 fun k h1 h2 => by rw [h.com hi (by omega) h2 (.inr (.inr h1)), Int.zero_mul]

theorem i_Hopf_isModuleAlgebra_1_ok (B : Bs P ρ) (E : E_i_Hopf_isModuleAlgebra_1 P ρ) {n e N0 x y j l : Nat} {hd0 : List Int} {p z : Int} {f0 fa g g0 : By} {X : Nat → Int} (hp : 1 ≤ p) (hp2 : p ≤ 256) (he : e ≤ 8) (hx : x < 8) (hy : y < 8) (hj : j < 8) (hl : l < 8) (hz : 0 ≤ z) (hz2 : z ≤ 255) :
    CallOK P ρ 241 [.i .i64 (j : Int), .i .i64 (l : Int), .i .i64 z, .pt 3 0, .pt 4 0, .pt 5 0, .pt 6 0, .pt 7 0, .pt 8 0] [⟨true, .by hd0 N0 f0⟩, ⟨true, .by [p, (e : Int)] 522 fa⟩, ⟨true, .by [(e : Int)] 513 g⟩, ⟨true, .by [p, (e : Int)] 2 g0⟩, ⟨false, .by [] 8 (vec 8 p X)⟩, ⟨true, .vr (.pt 1 0)⟩, ⟨true, .vr (.pt 2 0)⟩, ⟨true, .vr (.i .i64 (x : Int))⟩, ⟨true, .vr (.i .i64 (y : Int))⟩] (.tup []) [⟨true, .by hd0 N0 f0⟩, ⟨true, .by [p, (e : Int)] 522 fa⟩, ⟨true, .by [(e : Int)] 513 g⟩, ⟨true, .by [p, (e : Int)] 2 g0⟩, ⟨false, .by [] 8 (vec 8 p fun c => X c + z * prd e fa 10 (sh g (1 + j * 64 + x * 8)) (sh g (1 + l * 64 + y * 8)) c)⟩, ⟨true, .vr (.pt 1 0)⟩, ⟨true, .vr (.pt 2 0)⟩, ⟨true, .vr (.i .i64 (x : Int))⟩, ⟨true, .vr (.i .i64 (y : Int))⟩] := by
  refine call_of_vc B.fn B.mo E.1 rfl rfl ?_
  refine ⟨j, 1 + j * 64, rfl, by omega, by omega, ?_⟩   -- 20
  refine ⟨x, 1 + j * 64 + x * 8, rfl, by omega, by omega, ?_⟩   -- 21
  refine ⟨⟨by first | omega | (simp <;> omega), by first | omega | (simp <;> omega)⟩, ?_⟩   -- 22 := lda [['.t', 21], 0, 8]
  refine ⟨l, 1 + l * 64, rfl, by omega, by omega, ?_⟩   -- 28
  refine ⟨y, 1 + l * 64 + y * 8, rfl, by omega, by omega, ?_⟩   -- 29
  refine ⟨⟨by first | omega | (simp <;> omega), by first | omega | (simp <;> omega)⟩, ?_⟩   -- 30 := lda [['.t', 29], 0, 8]
  refine ⟨9, [1], _, _, _, _, [_, _, _, _, _, _, _, _, _], rfl, i_Algebra_product_ok B E.2.1 hp hp2 he, rfl, ⟨⟨_, rfl, fun h => by first | rfl | cases h⟩, trivial⟩, rfl, rfl, rfl, ?_⟩   -- 31
  refine ⟨9, [4], _, _, _, _, [_, _, _, _, _, _, _, _, _], rfl, i_field_plus_ok B E.2.2 hp (by omega) (by simp) (by omega) (by omega) (by omega) (bz_vec_lt' hp hp2), rfl, ⟨⟨_, rfl, fun h => by first | rfl | cases h⟩, trivial⟩, rfl, rfl, ?_⟩   -- 32
  refine ⟨rfl, [], rfl, rfl, ⟨rfl, rfl, rfl, rfl, ?_, rfl, rfl, rfl, rfl, trivial⟩, rfl, rfl⟩
  refine congrArg some (blk_by ?_)
  rw [pl_vec0 hp hp2]
  exact vec_congr fun c hc => cg_add rfl (cg_mul rfl (cg_vec hp hp2 hc))

def mlC (p : Int) (e : Nat) (f fa g g0 : By) (i x y t : Nat) : List Blk :=
  [⟨true, .by [p, (e : Int)] 522 fa⟩, ⟨true, .by [(e : Int)] 513 g⟩, ⟨true, .by [p, (e : Int)] 2 g0⟩, ⟨false, .by [] 8 (vec 8 p fun c => sm t fun q => bz f (530 + i * 64 + q) * prd e fa 10 (sh g (1 + q / 8 * 64 + x * 8)) (sh g (1 + q % 8 * 64 + y * 8)) c)⟩, ⟨true, .vr (.pt 1 0)⟩, ⟨true, .vr (.pt 2 0)⟩, ⟨true, .vr (.i .i64 (x : Int))⟩, ⟨true, .vr (.i .i64 (y : Int))⟩]
theorem ml_loop (B : Bs P ρ) (E : E_i_Hopf_isModuleAlgebra P ρ) {p n : Int} {e i x y : Nat} {f fa g g0 : By} (hp : 1 ≤ p) (hp2 : p ≤ 256) (he : e ≤ 8) (hi : i < 8) (hx : x < 8) (hy : y < 8) :
    CallOK P ρ 60 [.pt 0 (530 + i * 64), .fn 241 [] [(3, 0), (4, 0), (5, 0), (6, 0), (7, 0), (8, 0)]] (⟨true, .by [p, n] 1106 f⟩ :: mlC p e f fa g g0 i x y 0) (.tup []) (⟨true, .by [p, n] 1106 f⟩ :: mlC p e f fa g g0 i x y 64) := by
  refine i_pairs_ok B E.2.2.2.1 (c := 8) (C := mlC p e f fa g g0 i x y) (by simp; omega) (by omega) (fun _ _ => rfl) (by simp) ?_ ?_ ?_ ?_
  · intro t _ b hb
    simp only [mlC, List.mem_cons, List.not_mem_nil, or_false] at hb
    rcases hb with rfl | rfl | rfl | rfl | rfl | rfl | rfl | rfl <;> rfl
  · intro j l hj hl _
    have h := i_Hopf_isModuleAlgebra_1_ok B E.2.2.1 (n := e) (N0 := 1106) (hd0 := [p, n]) (f0 := f) (e := e) (fa := fa) (g := g) (g0 := g0) (p := p) (z := bz f (530 + i * 64 + j * 8 + l)) (X := fun c => sm (j * 8 + l) fun q => bz f (530 + i * 64 + q) * prd e fa 10 (sh g (1 + q / 8 * 64 + x * 8)) (sh g (1 + q % 8 * 64 + y * 8)) c) (x := x) (y := y) (j := j) (l := l) hp hp2 he hx hy hj hl (bz_nn _ _) (bz_le _ _)
    have e1 : (vec 8 p fun c => (sm (j * 8 + l) fun q => bz f (530 + i * 64 + q) * prd e fa 10 (sh g (1 + q / 8 * 64 + x * 8)) (sh g (1 + q % 8 * 64 + y * 8)) c) + bz f (530 + i * 64 + j * 8 + l) * prd e fa 10 (sh g (1 + j * 64 + x * 8)) (sh g (1 + l * 64 + y * 8)) c) = vec 8 p fun c => sm (j * 8 + l + 1) fun q => bz f (530 + i * 64 + q) * prd e fa 10 (sh g (1 + q / 8 * 64 + x * 8)) (sh g (1 + q % 8 * 64 + y * 8)) c := by
      refine vec_congr fun c _ => cg_of_eq ?_
      simp only [sm]
      rw [show (j * 8 + l) / 8 = j by omega, show (j * 8 + l) % 8 = l by omega, Nat.add_assoc (530 + i * 64)]
    rw [e1] at h
    exact h
  · intro j l hj hl hz
    have e1 : (vec 8 p fun c => sm (j * 8 + l + 1) fun q => bz f (530 + i * 64 + q) * prd e fa 10 (sh g (1 + q / 8 * 64 + x * 8)) (sh g (1 + q % 8 * 64 + y * 8)) c) = vec 8 p fun c => sm (j * 8 + l) fun q => bz f (530 + i * 64 + q) * prd e fa 10 (sh g (1 + q / 8 * 64 + x * 8)) (sh g (1 + q % 8 * 64 + y * 8)) c := by
      refine vec_congr fun c _ => cg_of_eq ?_
      simp only [sm]
      rw [← Nat.add_assoc (530 + i * 64), hz, Int.zero_mul, Int.add_zero]
    unfold mlC
    rw [e1]
  · intro t _
    exact ⟨rfl, rfl, rfl, rfl, rfl, rfl, rfl, rfl, trivial⟩

theorem i_Hopf_isModuleAlgebra_ok (B : Bs P ρ) (E : E_i_Hopf_isModuleAlgebra P ρ) {p : Int} {n e : Nat} {f fa g : By} (h : HShp p n f) (hA : AShp p e fa) (hT : TabM p n e g) :
    CallOK P ρ 233 [.pt 0 0, .pt 1 0, .pt 2 0] [⟨true, .by [p, (n : Int)] 1106 f⟩, ⟨true, .by [p, (e : Int)] 522 fa⟩, ⟨true, .by [(e : Int)] 513 g⟩] (.one (.b (decide (MAA p n e f fa g)))) [⟨true, .by [p, (n : Int)] 1106 f⟩, ⟨true, .by [p, (e : Int)] 522 fa⟩, ⟨true, .by [(e : Int)] 513 g⟩] := by
  refine call_of_vc B.fn B.mo E.1 rfl rfl ?_
  have hb := h.b
  have hp : 1 ≤ p := by omega
  have hp2 : p ≤ 256 := by omega
  have hae := hA.p1
  have he : e ≤ 8 := by omega
  have e0 : ∀ i x y : Nat, spl (fun _ => 0) 0 8 (fun _ => 0) = vec 8 p fun c => sm 0 fun q => bz f (530 + i * 64 + q) * prd e fa 10 (sh g (1 + q / 8 * 64 + x * 8)) (sh g (1 + q % 8 * 64 + y * 8)) c := fun i x y => by
    rw [z_sta]
    exact (vec_zero fun _ _ => rfl).symm
  refine ⟨3, rfl, ?_⟩   -- .box 4
  refine ⟨4, rfl, ?_⟩   -- .box 5
  refine ⟨5, [1], _, _, _, _, [_, _, _, _, _], rfl, i_Algebra_field_ok B E.2.1 , rfl, ⟨⟨_, rfl, fun h => by first | rfl | cases h⟩, trivial⟩, rfl, rfl, ?_⟩   -- 13
  refine ⟨5, rfl, ?_⟩   -- .alo 7
  refine ⟨(fun a0 a17 b0 b1 b2 b3 b4 b5 i0 => St.mk [(0, a0), (4, .one (.pt 3 0)), (5, .one (.pt 4 0)), (7, .one (.pt 5 0)), (17, a17), (18, .one (.i .i64 ((i0 : Nat) : Int)))] [b0, b1, b2, b3, b4, b5]) _ _ _ _ _ _ _ _ , fun i0 => ∀ i, i < i0 → MAu p e f fa g i ∧ ∀ x y, x < e → y < e → MAl p n e f fa g i x y, n, fun _ _ => by omega, ⟨⟨rfl, rfl, rfl, rfl, rfl, rfl, trivial⟩, ⟨rfl, rfl, rfl, rfl, rfl, rfl, trivial⟩, rfl⟩, fun i0 hi0 hF0 => ?_⟩
  refine ⟨fun h19 => ?_, fun h19 => ?_⟩
  · replace h19 := of_decide_eq_true h19
    refine ⟨(fun a0 a8 a17 a18 a22 b0 b1 b2 b3 b4 b5 i1 => St.mk [(0, a0), (4, .one (.pt 3 0)), (5, .one (.pt 4 0)), (7, .one (.pt 5 0)), (8, a8), (17, a17), (18, a18), (22, a22), (23, .one (.i .i64 ((i1 : Nat) : Int)))] [b0, b1, b2, b3, b4, b5]) _ _ _ _ _ _ _ _ _ _ _ , fun i1 => ∀ x, x < i1 → ∀ y, y < e → MAl p n e f fa g i0 x y, e, fun _ _ => by omega, ⟨⟨rfl, rfl, rfl, rfl, rfl, rfl, rfl, rfl, rfl, trivial⟩, ⟨rfl, rfl, rfl, rfl, rfl, rfl, trivial⟩, rfl⟩, fun i1 hi1 hF1 => ?_⟩
    refine ⟨fun h24 => ?_, fun h24 => ?_⟩
    · replace h24 := of_decide_eq_true h24
      refine ⟨6, rfl, ?_⟩   -- .alo 9
      refine ⟨(fun a0 a8 a17 a18 a22 a23 a27 b0 b1 b2 b3 b4 b5 b6 i2 => St.mk [(0, a0), (4, .one (.pt 3 0)), (5, .one (.pt 4 0)), (7, .one (.pt 5 0)), (8, a8), (9, .one (.pt 6 0)), (17, a17), (18, a18), (22, a22), (23, a23), (27, a27), (28, .one (.i .i64 ((i2 : Nat) : Int)))] [b0, b1, b2, b3, b4, b5, b6]) _ _ _ _ _ _ _ _ _ _ _ _ _ _ , fun i2 => ∀ y, y < i2 → MAl p n e f fa g i0 i1 y, e, fun _ _ => by omega, ⟨⟨rfl, rfl, rfl, rfl, rfl, rfl, rfl, rfl, rfl, rfl, rfl, rfl, trivial⟩, ⟨rfl, rfl, rfl, rfl, rfl, rfl, rfl, trivial⟩, rfl⟩, fun i2 hi2 hF2 => ?_⟩
      refine ⟨fun h29 => ?_, fun h29 => ?_⟩
      · replace h29 := of_decide_eq_true h29
        refine ⟨7, rfl, ?_⟩   -- .alo 10
        refine ⟨8, rfl, ?_⟩   -- .alo 11
        refine ⟨⟨rfl, by first | omega | (simp <;> omega), by first | omega | (simp <;> omega)⟩, ?_⟩   -- sta ['.t', 11] ['.t', 31] 8
        refine ⟨i0, 530 + i0 * 64, rfl, by omega, by omega, ?_⟩   -- 36
        refine ⟨9, [0, 1, 2, 5, 8, 3, 4, 6, 7], _, _, _, _, [_, _, _, _, _, _, _, _, _], rfl, ml_loop B E (i := i0) (x := i1) (y := i2) (f := f) (fa := fa) (g := g) (g0 := fun _ => 0) (p := p) (n := (n : Int)) (e := e) hp hp2 he (by omega) (by omega) (by omega), rfl, ⟨⟨_, rfl, fun h => by first | rfl | cases h⟩, ⟨_, rfl, fun h => by first | rfl | cases h⟩, ⟨_, rfl, fun h => by first | rfl | cases h⟩, ⟨_, rfl, fun h => by first | rfl | cases h⟩, ⟨_, congrArg (fun g => some (Blk.mk false (.by [] 8 g))) (e0 i0 i1 i2), fun h => by first | rfl | cases h⟩, ⟨_, rfl, fun h => by first | rfl | cases h⟩, ⟨_, rfl, fun h => by first | rfl | cases h⟩, ⟨_, rfl, fun h => by first | rfl | cases h⟩, ⟨_, rfl, fun h => by first | rfl | cases h⟩, trivial⟩, rfl, rfl, ?_⟩
        refine ⟨i0, 1 + i0 * 64, rfl, by omega, by omega, ?_⟩   -- 44
        refine ⟨i1, 10 + i1 * 64, rfl, by omega, by omega, ?_⟩
        refine ⟨i2, 10 + i1 * 64 + i2 * 8, rfl, by omega, by omega, ?_⟩
        refine ⟨⟨by first | omega | (simp <;> omega), by first | omega | (simp <;> omega)⟩, ?_⟩   -- 52 := lda [['.t', 51], 0, 8]
        refine ⟨9, [2], _, _, _, _, [_, _, _, _, _, _, _, _, _], rfl, i_field_apply_ok B E.2.2.2.2.1 (m := e) hp hp2 (by simp <;> omega) (by omega) he (fun k h1 h2 => by rw [bz_sh]; exact hA.2.2.z (by omega) (by omega) h2 (.inr (.inr (by omega)))), rfl, ⟨⟨_, rfl, fun h => by first | rfl | cases h⟩, trivial⟩, rfl, rfl, rfl, ?_⟩   -- 53
        refine ⟨⟨by first | omega | (simp <;> omega), by first | omega | (simp <;> omega)⟩, ?_⟩   -- 54 := lda [['.t', 11], 0, 8]
        have z55 : ∀ c : Nat, (sm e fun k => bz (sh fa (10 + i1 * 64 + i2 * 8)) k * bz g (1 + i0 * 64 + k * 8 + c)) = sm e fun k => bz fa (10 + i1 * 64 + i2 * 8 + k) * bz g (1 + i0 * 64 + (k * 8 + c)) := fun c => sm_congr fun k _ => by rw [bz_sh, Nat.add_assoc (1 + i0 * 64)]
        refine ⟨fun h55 => ?_, fun h55 => ?_⟩
        · skip
          have q55 : ¬ MAl p n e f fa g i0 i1 i2 := fun q => neB_t h55 fun c hc => by
            rw [sh_zero]
            refine (vec_cg hp hp2 hc).2 ?_
            rw [z55, ml_sum h (by omega)]
            exact q c hc
          refine ⟨rfl, [], ?_, rfl, ⟨rfl, rfl, rfl, trivial⟩, rfl, rfl⟩
          exact one_b (dec_f fun q => q55 ((q i0 (by omega)).2 i1 i2 (by omega) (by omega)))
        · skip
          have q55 : MAl p n e f fa g i0 i1 i2 := fun c hc => by
            have q := neB_f h55 c hc
            rw [sh_zero] at q
            have q := (vec_cg hp hp2 hc).1 q
            rw [z55, ml_sum h (by omega)] at q
            exact q
          refine ⟨((i2 + 1 : Nat) : Int), w64_id _ (by omega) (by omega), ?_⟩   -- 56
          refine ⟨by omega, ?_, ⟨rfl, rfl, rfl, rfl, rfl, rfl, rfl, rfl, rfl, rfl, rfl, rfl, trivial⟩, ⟨rfl, rfl, rfl, rfl, rfl, rfl, rfl, trivial⟩, rfl⟩
          intro y hy
          by_cases e : y = i2
          · subst e; exact q55
          · exact hF2 y (by omega)
      · replace h29 := of_decide_eq_false h29
        have e2 : e = i2 := by omega
        subst e2
        refine ⟨((i1 + 1 : Nat) : Int), w64_id _ (by omega) (by omega), ?_⟩   -- 57
        refine ⟨by omega, ?_, ⟨rfl, rfl, rfl, rfl, rfl, rfl, rfl, rfl, rfl, trivial⟩, ⟨rfl, rfl, rfl, rfl, rfl, rfl, trivial⟩, rfl⟩
        intro x hx
        by_cases e : x = i1
        · subst e; exact hF2
        · exact hF1 x (by omega)
    · replace h24 := of_decide_eq_false h24
      have e1 : e = i1 := by omega
      subst e1
      refine ⟨i0, 1 + i0 * 64, rfl, by omega, by omega, ?_⟩   -- 63
      refine ⟨⟨by first | omega | (simp <;> omega), by first | omega | (simp <;> omega)⟩, ?_⟩   -- 67 := lda [['.t', 66], 0, 8]
      refine ⟨6, [2], _, _, _, _, [_, _, _, _, _, _], rfl, i_field_apply_ok B E.2.2.2.2.1 (m := e) hp hp2 (by simp <;> omega) (by omega) he (fun k h1 h2 => by rw [bz_sh]; exact (hA.2.1 k h2).2 (by omega)), rfl, ⟨⟨_, rfl, fun h => by first | rfl | cases h⟩, trivial⟩, rfl, rfl, rfl, ?_⟩   -- 68
      refine ⟨i0, 522 + i0, rfl, by omega, by omega, ?_⟩   -- 74
      refine ⟨⟨by first | omega | (simp <;> omega), by first | omega | (simp <;> omega)⟩, ?_⟩   -- 75 := ld8 ['.t', 74]
      refine ⟨⟨by first | omega | (simp <;> omega), by first | omega | (simp <;> omega)⟩, ?_⟩   -- 80 := lda [['.t', 79], 0, 8]
      have q3 := bz_nn f (522 + i0)
      have q4 := bz_le f (522 + i0)
      refine ⟨6, [], _, _, _, _, [_, _, _, _, _, _], rfl, i_field_times_ok B E.2.2.2.2.2 (k := bz f (522 + i0)) hp hp2 (by omega) (by omega), rfl, trivial, rfl, rfl, ?_⟩   -- 81
      have z82 : ∀ c : Nat, (sm e fun k => bz (sh fa 2) k * bz g (1 + i0 * 64 + k * 8 + c)) = sm e fun k => bz fa (2 + k) * bz g (1 + i0 * 64 + (k * 8 + c)) := fun c => sm_congr fun k _ => by rw [bz_sh, Nat.add_assoc (1 + i0 * 64)]
      refine ⟨fun h82 => ?_, fun h82 => ?_⟩
      · skip
        have q82 : ¬ MAu p e f fa g i0 := fun q => neB_t h82 fun c hc => by
          refine (vec_cg hp hp2 hc).2 ?_
          rw [z82]
          exact q c hc
        refine ⟨rfl, [], ?_, rfl, ⟨rfl, rfl, rfl, trivial⟩, rfl, rfl⟩
        exact one_b (dec_f fun q => q82 (q i0 (by omega)).1)
      · skip
        have q82 : MAu p e f fa g i0 := fun c hc => by
          have q := (vec_cg hp hp2 hc).1 (neB_f h82 c hc)
          rw [z82] at q
          exact q
        refine ⟨((i0 + 1 : Nat) : Int), w64_id _ (by omega) (by omega), ?_⟩   -- 83
        refine ⟨by omega, ?_, ⟨rfl, rfl, rfl, rfl, rfl, rfl, trivial⟩, ⟨rfl, rfl, rfl, rfl, rfl, rfl, trivial⟩, rfl⟩
        intro i hi
        by_cases e : i = i0
        · subst e; exact ⟨q82, fun x y hx hy => hF1 x hx y hy⟩
        · exact hF0 i (by omega)
  · replace h19 := of_decide_eq_false h19
    have e0 : n = i0 := by omega
    subst e0
    refine ⟨rfl, [], ?_, rfl, ⟨rfl, rfl, rfl, trivial⟩, rfl, rfl⟩
    exact one_b (dec_t hF0)

end Hf
namespace Hf
open Go Classical
variable {P : Program} {ρ : Nat → FuncId}
theorem s_l08Algebra_ok (B : Bs P ρ) (E : E_s_l08Algebra P ρ) {p : Int} {n e : Nat} {f fa g : By} (h : HShp p n f) (hA : AShp p e fa) (hT : TabM p n e g) :
    CallOK P ρ 231 [.ag [p, (n : Int)] 1106 f, .ag [p, (e : Int)] 522 fa, .ag [(e : Int)] 513 g] [] (.one (.b (decide (MAA p n e f fa g)))) [] := by
  refine call_of_vc B.fn B.mo E.1 rfl rfl ?_
  have hb := h.b
  have hp : 1 ≤ p := by omega
  have hp2 : p ≤ 256 := by omega
  have hae := hA.p1
  have he : e ≤ 8 := by omega
  refine ⟨0, rfl, ?_⟩   -- .box 3
  refine ⟨1, rfl, ?_⟩   -- .box 4
  refine ⟨2, rfl, ?_⟩   -- .box 5
  refine ⟨(fun b0 b1 b2 i0 => St.mk [(3, .one (.pt 0 0)), (4, .one (.pt 1 0)), (5, .one (.pt 2 0)), (7, .one (.i .i64 ((i0 : Nat) : Int)))] [b0, b1, b2]) _ _ _ , fun i0 => ∀ i, i < i0 → MAu p e f fa g i ∧ ∀ x y, x < e → y < e → MAl p n e f fa g i x y, n, fun _ _ => by omega, ⟨⟨rfl, rfl, rfl, rfl, trivial⟩, ⟨rfl, rfl, rfl, trivial⟩, rfl⟩, fun i0 hi0 hF0 => ?_⟩
  refine ⟨fun h17 => ?_, fun h17 => ?_⟩
  · replace h17 := of_decide_eq_true h17
    refine ⟨i0, 1 + i0 * 64, rfl, by omega, by omega, ?_⟩   -- 26
    refine ⟨⟨by first | omega | (simp <;> omega), by first | omega | (simp <;> omega)⟩, ?_⟩   -- 27 := lda [['.t', 26], 0, 64]
    refine ⟨⟨by first | omega | (simp <;> omega), by first | omega | (simp <;> omega)⟩, ?_⟩   -- 29 := lda [['.t', 28], 0, 8]
    refine ⟨3, [], _, _, _, _, [_, _, _], rfl, s_l01Apply_ok B E.2.1 (n := e) hp hp2 he, rfl, trivial, rfl, rfl, rfl, ?_⟩   -- 30
    refine ⟨⟨by first | omega | (simp <;> omega), by first | omega | (simp <;> omega)⟩, ?_⟩   -- 35 := lda [['.t', 34], 0, 8]
    refine ⟨i0, 522 + i0, rfl, by omega, by omega, ?_⟩   -- 38
    refine ⟨⟨by first | omega | (simp <;> omega), by first | omega | (simp <;> omega)⟩, ?_⟩   -- 39 := ld8 ['.t', 38]
    have q3 := bz_nn f (522 + i0)
    have q4 := bz_le f (522 + i0)
    refine ⟨3, [], _, _, _, _, [_, _, _], rfl, s_l01Add_ok B E.2.2.1 (k := bz f (522 + i0)) hp (by omega) (by omega) (by omega), rfl, trivial, rfl, rfl, ?_⟩   -- 41
    have z42 : ∀ c : Nat, bz (fun _ => 0) c + bz f (522 + i0) * bz (sh fa 2) c = bz f (522 + i0) * bz fa (2 + c) := fun c => by rw [show bz (fun _ => 0) c = 0 from rfl, Int.zero_add, bz_sh]
    refine ⟨fun h42 => ?_, fun h42 => ?_⟩
    · skip
      have q42 : ¬ MAu p e f fa g i0 := fun q => neB_t h42 fun c hc => by
        refine (vec_cg hp hp2 hc).2 ?_
        rw [z42]
        exact q c hc
      refine ⟨rfl, [], ?_, rfl, trivial, rfl, rfl⟩
      exact one_b (dec_f fun q => q42 (q i0 (by omega)).1)
    · skip
      have q42 : MAu p e f fa g i0 := fun c hc => by
        have q := (vec_cg hp hp2 hc).1 (neB_f h42 c hc)
        rw [z42] at q
        exact q
      refine ⟨(fun a7 b0 b1 b2 i1 => St.mk [(3, .one (.pt 0 0)), (4, .one (.pt 1 0)), (5, .one (.pt 2 0)), (7, a7), (8, .one (.i .i64 ((i1 : Nat) : Int)))] [b0, b1, b2]) _ _ _ _ , fun i1 => ∀ x, x < i1 → ∀ y, y < e → MAl p n e f fa g i0 x y, e, fun _ _ => by omega, ⟨⟨rfl, rfl, rfl, rfl, rfl, trivial⟩, ⟨rfl, rfl, rfl, trivial⟩, rfl⟩, fun i1 hi1 hF1 => ?_⟩
      refine ⟨fun h46 => ?_, fun h46 => ?_⟩
      · replace h46 := of_decide_eq_true h46
        refine ⟨(fun a7 a8 b0 b1 b2 i2 => St.mk [(3, .one (.pt 0 0)), (4, .one (.pt 1 0)), (5, .one (.pt 2 0)), (7, a7), (8, a8), (9, .one (.i .i64 ((i2 : Nat) : Int)))] [b0, b1, b2]) _ _ _ _ _ , fun i2 => ∀ y, y < i2 → MAl p n e f fa g i0 i1 y, e, fun _ _ => by omega, ⟨⟨rfl, rfl, rfl, rfl, rfl, rfl, trivial⟩, ⟨rfl, rfl, rfl, trivial⟩, rfl⟩, fun i2 hi2 hF2 => ?_⟩
        refine ⟨fun h52 => ?_, fun h52 => ?_⟩
        · replace h52 := of_decide_eq_true h52
          refine ⟨3, rfl, ?_⟩   -- .alo 10
          refine ⟨⟨rfl, by first | omega | (simp <;> omega), by first | omega | (simp <;> omega)⟩, ?_⟩   -- sta ['.t', 10] ['.t', 55] 8
          refine ⟨(fun a7 a8 a9 b0 b1 b2 i3 => St.mk [(3, .one (.pt 0 0)), (4, .one (.pt 1 0)), (5, .one (.pt 2 0)), (7, a7), (8, a8), (9, a9), (10, .one (.pt 3 0)), (11, .one (.i .i64 ((i3 : Nat) : Int)))] [b0, b1, b2, Blk.mk false (.by [] 8 (vec 8 p fun c => sm i3 fun j => sm n fun l => bz f (530 + i0 * 64 + j * 8 + l) * prd e fa 10 (sh g (1 + j * 64 + i1 * 8)) (sh g (1 + l * 64 + i2 * 8)) c))]) _ _ _ _ _ _ , fun i3 => True, n, trivial, ⟨⟨rfl, rfl, rfl, rfl, rfl, rfl, rfl, rfl, trivial⟩, ⟨rfl, rfl, rfl, ?_, trivial⟩, rfl⟩, fun i3 hi3 _ => ?_⟩
          · refine blk_by ?_
            rw [z_sta]
            exact vec_0.symm
          refine ⟨fun h59 => ?_, fun h59 => ?_⟩
          · replace h59 := of_decide_eq_true h59
            refine ⟨(fun a7 a8 a9 a11 b0 b1 b2 i4 => St.mk [(3, .one (.pt 0 0)), (4, .one (.pt 1 0)), (5, .one (.pt 2 0)), (7, a7), (8, a8), (9, a9), (10, .one (.pt 3 0)), (11, a11), (12, .one (.i .i64 ((i4 : Nat) : Int)))] [b0, b1, b2, Blk.mk false (.by [] 8 (vec 8 p fun c => (sm i3 fun j => sm n fun l => bz f (530 + i0 * 64 + j * 8 + l) * prd e fa 10 (sh g (1 + j * 64 + i1 * 8)) (sh g (1 + l * 64 + i2 * 8)) c) + sm i4 fun l => bz f (530 + i0 * 64 + i3 * 8 + l) * prd e fa 10 (sh g (1 + i3 * 64 + i1 * 8)) (sh g (1 + l * 64 + i2 * 8)) c))]) _ _ _ _ _ _ _ , fun i4 => True, n, trivial, ⟨⟨rfl, rfl, rfl, rfl, rfl, rfl, rfl, rfl, rfl, trivial⟩, ⟨rfl, rfl, rfl, ?_, trivial⟩, rfl⟩, fun i4 hi4 _ => ?_⟩
            · exact blk_by (vec_congr fun c _ => cg_of_eq (by simp only [sm]; rw [Int.add_zero]))
            have q4 := bz_nn f (530 + i0 * 64 + i3 * 8 + i4)
            have q5 := bz_le f (530 + i0 * 64 + i3 * 8 + i4)
            refine ⟨fun h65 => ?_, fun h65 => ?_⟩
            · replace h65 := of_decide_eq_true h65
              refine ⟨i0, 530 + i0 * 64, rfl, by omega, by omega, ?_⟩   -- 72
              refine ⟨i3, 530 + i0 * 64 + i3 * 8, rfl, by omega, by omega, ?_⟩   -- 73
              refine ⟨i4, 530 + i0 * 64 + i3 * 8 + i4, rfl, by omega, by omega, ?_⟩   -- 74
              refine ⟨⟨by first | omega | (simp <;> omega), by first | omega | (simp <;> omega)⟩, ?_⟩   -- 75 := ld8 ['.t', 74]
              refine ⟨fun h77 => ?_, fun h77 => ?_⟩
              · replace h77 := bne_t h77
                refine ⟨⟨by first | omega | (simp <;> omega), by first | omega | (simp <;> omega)⟩, ?_⟩   -- 80 := lda [['.t', 10], 0, 8]
                refine ⟨i3, 1 + i3 * 64, rfl, by omega, by omega, ?_⟩   -- 85
                refine ⟨i1, 1 + i3 * 64 + i1 * 8, rfl, by omega, by omega, ?_⟩   -- 86
                refine ⟨⟨by first | omega | (simp <;> omega), by first | omega | (simp <;> omega)⟩, ?_⟩   -- 87 := lda [['.t', 86], 0, 8]
                refine ⟨i4, 1 + i4 * 64, rfl, by omega, by omega, ?_⟩   -- 91
                refine ⟨i2, 1 + i4 * 64 + i2 * 8, rfl, by omega, by omega, ?_⟩   -- 92
                refine ⟨⟨by first | omega | (simp <;> omega), by first | omega | (simp <;> omega)⟩, ?_⟩   -- 93 := lda [['.t', 92], 0, 8]
                refine ⟨4, [], _, _, _, _, [_, _, _, _], rfl, s_l01Times_ok B E.2.2.2 (n := e) hp hp2 he, rfl, trivial, rfl, rfl, rfl, ?_⟩   -- 94
                refine ⟨4, [], _, _, _, _, [_, _, _, _], rfl, s_l01Add_ok B E.2.2.1 (k := bz f (530 + i0 * 64 + i3 * 8 + i4)) hp (by omega) (by omega) (by omega), rfl, trivial, rfl, rfl, ?_⟩   -- 97
                refine ⟨⟨rfl, by first | omega | (simp <;> omega), by first | omega | (simp <;> omega)⟩, ?_⟩   -- sta ['.t', 10] ['.t', 97] 8
                refine ⟨((i4 + 1 : Nat) : Int), w64_id _ (by omega) (by omega), ?_⟩   -- 67
                refine ⟨by omega, trivial, ⟨rfl, rfl, rfl, rfl, rfl, rfl, rfl, rfl, rfl, trivial⟩, ⟨rfl, rfl, rfl, ?_, trivial⟩, rfl⟩
                refine blk_by ?_
                rw [spl_plsN, pl_vec0 hp hp2]
                refine vec_congr fun c hc => ?_
                simp only [sm]
                rw [← Int.add_assoc]
                exact cg_add rfl (cg_mul rfl (cg_vec hp hp2 hc).symm)
              · replace h77 := bne_f h77
                refine ⟨((i4 + 1 : Nat) : Int), w64_id _ (by omega) (by omega), ?_⟩   -- 67
                refine ⟨by omega, trivial, ⟨rfl, rfl, rfl, rfl, rfl, rfl, rfl, rfl, rfl, trivial⟩, ⟨rfl, rfl, rfl, ?_, trivial⟩, rfl⟩
                refine blk_by (vec_congr fun c _ => cg_of_eq ?_)
                simp only [sm]
                rw [bz0 h77, Int.zero_mul, Int.add_zero]
            · replace h65 := of_decide_eq_false h65
              have e4 : n = i4 := by omega
              subst e4
              refine ⟨((i3 + 1 : Nat) : Int), w64_id _ (by omega) (by omega), ?_⟩   -- 61
              exact ⟨by omega, trivial, ⟨rfl, rfl, rfl, rfl, rfl, rfl, rfl, rfl, trivial⟩, ⟨rfl, rfl, rfl, rfl, trivial⟩, rfl⟩
          · replace h59 := of_decide_eq_false h59
            have e3 : n = i3 := by omega
            subst e3
            refine ⟨⟨by first | omega | (simp <;> omega), by first | omega | (simp <;> omega)⟩, ?_⟩   -- 98 := lda [['.t', 10], 0, 8]
            refine ⟨i0, 1 + i0 * 64, rfl, by omega, by omega, ?_⟩   -- 105
            refine ⟨⟨by first | omega | (simp <;> omega), by first | omega | (simp <;> omega)⟩, ?_⟩   -- 106 := lda [['.t', 105], 0, 64]
            refine ⟨i1, 10 + i1 * 64, rfl, by omega, by omega, ?_⟩   -- 110
            refine ⟨i2, 10 + i1 * 64 + i2 * 8, rfl, by omega, by omega, ?_⟩   -- 111
            refine ⟨⟨by first | omega | (simp <;> omega), by first | omega | (simp <;> omega)⟩, ?_⟩   -- 112 := lda [['.t', 111], 0, 8]
            refine ⟨4, [], _, _, _, _, [_, _, _, _], rfl, s_l01Apply_ok B E.2.1 (n := e) hp hp2 he, rfl, trivial, rfl, rfl, rfl, ?_⟩   -- 113
            refine ⟨fun h114 => ?_, fun h114 => ?_⟩
            · skip
              have q114 : ¬ MAl p n e f fa g i0 i1 i2 := fun q => neB_t h114 fun c hc => by
                rw [sh_zero]
                exact (vec_cg hp hp2 hc).2 (q c hc).symm
              refine ⟨rfl, [], ?_, rfl, trivial, rfl, rfl⟩
              exact one_b (dec_f fun q => q114 ((q i0 (by omega)).2 i1 i2 (by omega) (by omega)))
            · skip
              have q114 : MAl p n e f fa g i0 i1 i2 := fun c hc => by
                have q := neB_f h114 c hc
                rw [sh_zero] at q
                exact ((vec_cg hp hp2 hc).1 q).symm
              refine ⟨((i2 + 1 : Nat) : Int), w64_id _ (by omega) (by omega), ?_⟩   -- 54
              refine ⟨by omega, ?_, ⟨rfl, rfl, rfl, rfl, rfl, rfl, trivial⟩, ⟨rfl, rfl, rfl, trivial⟩, rfl⟩
              intro y hy
              by_cases e : y = i2
              · subst e; exact q114
              · exact hF2 y (by omega)
        · replace h52 := of_decide_eq_false h52
          have e2 : e = i2 := by omega
          subst e2
          refine ⟨((i1 + 1 : Nat) : Int), w64_id _ (by omega) (by omega), ?_⟩   -- 48
          refine ⟨by omega, ?_, ⟨rfl, rfl, rfl, rfl, rfl, trivial⟩, ⟨rfl, rfl, rfl, trivial⟩, rfl⟩
          intro x hx
          by_cases e : x = i1
          · subst e; exact hF2
          · exact hF1 x (by omega)
      · replace h46 := of_decide_eq_false h46
        have e1 : e = i1 := by omega
        subst e1
        refine ⟨((i0 + 1 : Nat) : Int), w64_id _ (by omega) (by omega), ?_⟩   -- 19
        refine ⟨by omega, ?_, ⟨rfl, rfl, rfl, rfl, trivial⟩, ⟨rfl, rfl, rfl, trivial⟩, rfl⟩
        intro i hi
        by_cases e : i = i0
        · subst e; exact ⟨q42, fun x y hx hy => hF1 x hx y hy⟩
        · exact hF0 i (by omega)
  · replace h17 := of_decide_eq_false h17
    have e0 : n = i0 := by omega
    subst e0
    refine ⟨rfl, [], ?_, rfl, trivial, rfl, rfl⟩
    exact one_b (dec_t hF0)

end Hf
namespace Hf
open Go Classical
variable {P : Program} {ρ : Nat → FuncId}
/-- an algebra's bytes: the unit, and a table modulo p -/
def taU (p : Int) (U : By) (Y : Nat → Nat → Nat → Int) : By := fun x => if 2 ≤ x ∧ x < 10 then U (x - 2) else if 10 ≤ x ∧ x < 522 then byt (Y ((x - 10) / 64) ((x - 10) / 8 % 8) ((x - 10) % 8) % p) else 0
theorem taU_congr {p : Int} {U : By} {Y Y' : Nat → Nat → Nat → Int} (h : ∀ a b c, a < 8 → b < 8 → c < 8 → cg p (Y a b c) (Y' a b c)) : taU p U Y = taU p U Y' := by
  funext x
  simp only [taU]
  by_cases h2 : 2 ≤ x ∧ x < 10
  · rw [if_pos h2, if_pos h2]
  · rw [if_neg h2, if_neg h2]
    by_cases hx : 10 ≤ x ∧ x < 522
    · rw [if_pos hx, if_pos hx]
      exact congrArg byt (h _ _ _ (by omega) (by omega) (by omega))
    · rw [if_neg hx, if_neg hx]
theorem taU_0 {p : Int} {U : By} {Y : Nat → Nat → Nat → Int} (h : ∀ a b c, a < 8 → b < 8 → c < 8 → Y a b c = 0) : taU p U Y = spl (fun _ => 0) 2 8 U := by
  funext x
  simp only [taU, spl]
  by_cases h2 : 2 ≤ x ∧ x < 10
  · rw [if_pos h2, if_pos (by omega)]
  · rw [if_neg h2, if_neg (c := 2 ≤ x ∧ x < 2 + 8) (by omega)]
    by_cases hx : 10 ≤ x ∧ x < 522
    · rw [if_pos hx, h _ _ _ (by omega) (by omega) (by omega), Int.zero_emod]; rfl
    · rw [if_neg hx]
theorem bz_taU {p : Int} {U : By} {Y : Nat → Nat → Nat → Int} {x : Nat} (hp : 1 ≤ p) (hp2 : p ≤ 256) (hx : 10 ≤ x ∧ x < 522) : bz (taU p U Y) x = Y ((x - 10) / 64) ((x - 10) / 8 % 8) ((x - 10) % 8) % p := by
  unfold bz taU
  rw [if_neg (by omega), if_pos hx, byt_toNat]
  have h1 := Int.emod_nonneg (Y ((x - 10) / 64) ((x - 10) / 8 % 8) ((x - 10) % 8)) (show p ≠ 0 by omega)
  have h2 := Int.emod_lt_of_pos (Y ((x - 10) / 64) ((x - 10) / 8 % 8) ((x - 10) % 8)) (show 0 < p by omega)
  omega
theorem taU_lt {p : Int} {U : By} {Y : Nat → Nat → Nat → Int} {x : Nat} (hp : 1 ≤ p) (hp2 : p ≤ 256) (hx : 10 ≤ x ∧ x < 522) : bz (taU p U Y) x < p := by
  rw [bz_taU hp hp2 hx]; exact Int.emod_lt_of_pos _ (by omega)
theorem taU_pls {p : Int} {U : By} {Y : Nat → Nat → Nat → Int} {a0 b0 : Nat} {k : Int} {w : By} (hp : 1 ≤ p) (hp2 : p ≤ 256) (ha : a0 < 8) (hb : b0 < 8) :
    plsN p (taU p U Y) (10 + a0 * 64 + b0 * 8) k w 8 = taU p U (fun a b c => Y a b c + if a = a0 ∧ b = b0 then k * bz w c else 0) := by
  funext x
  simp only [plsN]
  by_cases e : 10 + a0 * 64 + b0 * 8 ≤ x ∧ x < 10 + a0 * 64 + b0 * 8 + 8
  · rw [if_pos e, bz_taU hp hp2 (by omega)]
    simp only [taU]
    rw [if_neg (by omega), if_pos (by omega), if_pos (by omega), show x - (10 + a0 * 64 + b0 * 8) = (x - 10) % 8 by omega]
    exact congrArg byt (cg_add cg_mod rfl)
  · rw [if_neg e]
    simp only [taU]
    by_cases h2 : 2 ≤ x ∧ x < 10
    · rw [if_pos h2, if_pos h2]
    · rw [if_neg h2, if_neg h2]
      by_cases hx : 10 ≤ x ∧ x < 522
      · rw [if_pos hx, if_pos hx, if_neg (by omega), Int.add_zero]
      · rw [if_neg hx, if_neg hx]
theorem taU_row {p : Int} {U : By} {Y : Nat → Nat → Nat → Int} {S : Nat → Int} {a0 b0 : Nat} (ha : a0 < 8) (hb : b0 < 8) :
    spl (taU p U Y) (10 + a0 * 64 + b0 * 8) 8 (vec 8 p S) = taU p U (fun a b c => if a = a0 ∧ b = b0 then S c else Y a b c) := by
  funext x
  simp only [spl]
  by_cases e : 10 + a0 * 64 + b0 * 8 ≤ x ∧ x < 10 + a0 * 64 + b0 * 8 + 8
  · rw [if_pos e]
    simp only [taU, vec]
    rw [if_pos (c := x - (10 + a0 * 64 + b0 * 8) < 8) (by omega), if_neg (c := 2 ≤ x ∧ x < 10) (by omega), if_pos (c := 10 ≤ x ∧ x < 522) (by omega), if_pos (by omega), show x - (10 + a0 * 64 + b0 * 8) = (x - 10) % 8 by omega]
  · rw [if_neg e]
    simp only [taU]
    by_cases h2 : 2 ≤ x ∧ x < 10
    · rw [if_pos h2, if_pos h2]
    · rw [if_neg h2, if_neg h2]
      by_cases hx : 10 ≤ x ∧ x < 522
      · rw [if_pos hx, if_pos hx, if_neg (by omega)]
      · rw [if_neg hx, if_neg hx]
/-- the smash product's entries -/
def spJ (p : Int) (n e : Nat) (f fa g : By) (k l a b c : Nat) : Int := jnX (vec 8 p (prd e fa 10 (bas (a / n)) (sh g (1 + k * 64 + b / n * 8)))) (sh f (10 + l * 64 + b % n * 8)) n c
def spW (p : Int) (n e : Nat) (f fa g : By) (t a b c : Nat) : Int := sm t fun q => bz f (530 + a % n * 64 + q) * spJ p n e f fa g (q / 8) (q % 8) a b c
def spV (p : Int) (n e : Nat) (f fa g : By) (a b c : Nat) : Int := sm n fun k => sm n fun l => bz f (530 + a % n * 64 + k * 8 + l) * spJ p n e f fa g k l a b c
def spU (p : Int) (n : Nat) (f fa : By) : By := vec 8 p (jnX (sh fa 2) (sh f 2) n)
def spT (p : Int) (n e D : Nat) (f fa g : By) : By := taU p (spU p n f fa) fun a b c => if a < D ∧ b < D then spV p n e f fa g a b c else 0
def spK (p : Int) (n e D : Nat) (f fa g : By) (i j t : Nat) : By := taU p (spU p n f fa) fun a b c => (if (a < i ∧ b < D) ∨ (a = i ∧ b < j) then spV p n e f fa g a b c else 0) + if a = i ∧ b = j then spW p n e f fa g t a b c else 0
theorem spW_V {p : Int} {n e a b c : Nat} {f fa g : By} (h : HShp p n f) : spW p n e f fa g 64 a b c = spV p n e f fa g a b c := by
  have hb := h.b
  have ha : a % n < 8 := by have := Nat.mod_lt a (show n > 0 by omega); omega
  unfold spW spV
  rw [sm_64]
  have e1 : ∀ j k, j < 8 → k < 8 → bz f (530 + a % n * 64 + (j * 8 + k)) * spJ p n e f fa g ((j * 8 + k) / 8) ((j * 8 + k) % 8) a b c = bz f (530 + a % n * 64 + j * 8 + k) * spJ p n e f fa g j k a b c := by
    intro j k hj hk
    rw [show (j * 8 + k) / 8 = j by omega, show (j * 8 + k) % 8 = k by omega, ← Nat.add_assoc]
  rw [sm_congr fun j hj => sm_congr fun k hk => e1 j k hj hk]
  rw [sm_8n (n := n) hb.2.2.2 fun j h1 h2 => sm_zero fun k hk => by rw [h.com ha h2 hk (.inr (.inl h1)), Int.zero_mul]]
  exact sm_congr fun j hj => sm_8n hb.2.2.2 fun k h1 h2 => by rw [h.com ha (by omega) h2 (.inr (.inr h1)), Int.zero_mul]
theorem spK_s {p : Int} {n e D i j : Nat} {f fa g : By} (h : HShp p n f) : spK p n e D f fa g i j 64 = spK p n e D f fa g i (j + 1) 0 := by
  unfold spK
  refine taU_congr fun a b c _ _ _ => cg_of_eq ?_
  have e2 : (if a = i ∧ b = j + 1 then spW p n e f fa g 0 a b c else 0) = 0 := by
    by_cases q : a = i ∧ b = j + 1
    · rw [if_pos q]; rfl
    · rw [if_neg q]
  rw [e2, Int.add_zero]
  by_cases q : a = i ∧ b = j
  · rw [if_neg (by omega), if_pos q, if_pos (by omega), Int.zero_add, spW_V h]
  · rw [if_neg q, Int.add_zero]
    by_cases q2 : (a < i ∧ b < D) ∨ (a = i ∧ b < j)
    · rw [if_pos q2, if_pos (by omega)]
    · rw [if_neg q2, if_neg (by omega)]
theorem spK_n {p : Int} {n e D i : Nat} {f fa g : By} : spK p n e D f fa g i D 0 = spK p n e D f fa g (i + 1) 0 0 := by
  unfold spK
  refine taU_congr fun a b c _ _ _ => cg_of_eq ?_
  congr 1
  · by_cases q2 : (a < i ∧ b < D) ∨ (a = i ∧ b < D)
    · rw [if_pos q2, if_pos (by omega)]
    · rw [if_neg q2, if_neg (by omega)]
  · have e2 : ∀ x y : Nat, (if a = x ∧ b = y then spW p n e f fa g 0 a b c else 0) = 0 := fun x y => by
      by_cases q : a = x ∧ b = y
      · rw [if_pos q]; rfl
      · rw [if_neg q]
    rw [e2, e2]
theorem spK_end {p : Int} {n e D : Nat} {f fa g : By} : spK p n e D f fa g D 0 0 = spT p n e D f fa g := by
  unfold spK spT
  refine taU_congr fun a b c _ _ _ => cg_of_eq ?_
  have e2 : (if a = D ∧ b = 0 then spW p n e f fa g 0 a b c else 0) = 0 := by
    by_cases q : a = D ∧ b = 0
    · rw [if_pos q]; rfl
    · rw [if_neg q]
  rw [e2, Int.add_zero]
  by_cases q2 : a < D ∧ b < D
  · rw [if_pos q2, if_pos (by omega)]
  · rw [if_neg q2, if_neg (by omega)]
theorem spK_0 {p : Int} {n e D : Nat} {f fa g : By} : spK p n e D f fa g 0 0 0 = spl (fun _ => 0) 2 8 (spU p n f fa) := by
  unfold spK
  refine taU_0 fun a b c _ _ _ => ?_
  rw [if_neg (by omega), Int.zero_add]
  by_cases q : a = 0 ∧ b = 0
  · rw [if_pos q]; rfl
  · rw [if_neg q]
theorem prd_z {p : Int} {e y : Nat} {fa v w : By} (h : AShp p e fa) (he : e ≤ 8) (h1 : e ≤ y) (h2 : y < 8) : vec 8 p (prd e fa 10 v w) y = 0 := by
  simp only [vec]
  rw [if_pos h2]
  have e1 : prd e fa 10 v w y = 0 := by
    unfold prd
    exact sm_zero fun i hi => sm_zero fun j hj => by rw [h.2.2.z (by omega) (by omega) h2 (.inr (.inr (by omega))), Int.mul_zero]
  rw [e1, Int.zero_emod]; rfl

theorem i_SmashProduct_1_ok (B : Bs P ρ) (E : E_i_SmashProduct_1 P ρ) {p z : Int} {n e D at0 to0 x y j2 k l : Nat} {f fa g g0 U : By} {Y : Nat → Nat → Nat → Int} (h : HShp p n f) (hA : AShp p e fa) (hD : e * n ≤ 8) (hat : at0 < 8) (hto : to0 < 8) (hx : x < 8) (hy : y < 8) (hj2 : j2 < 8) (hk : k < 8) (hl : l < 8) (hz : 0 ≤ z) (hz2 : z ≤ 255) :
    CallOK P ρ 239 [.i .i64 (k : Int), .i .i64 (l : Int), .i .i64 z, .pt 1 0, .pt 2 0, .pt 3 0, .pt 4 0, .pt 5 0, .pt 6 0, .pt 7 0, .pt 8 0, .pt 0 0, .pt 9 0, .pt 10 0] [⟨true, .by [p, (n : Int)] 1106 f⟩, ⟨true, .by [p, (n : Int)] 2 g0⟩, ⟨false, .by [p, (D : Int)] 522 (taU p U Y)⟩, ⟨true, .vr (.i .i64 (at0 : Int))⟩, ⟨true, .vr (.i .i64 (to0 : Int))⟩, ⟨true, .by [p, (e : Int)] 522 fa⟩, ⟨true, .vr (.i .i64 (x : Int))⟩, ⟨true, .by [(e : Int)] 513 g⟩, ⟨true, .vr (.i .i64 (y : Int))⟩, ⟨true, .vr (.i .i64 (j2 : Int))⟩, ⟨true, .vr (.i .i64 (n : Int))⟩] (.tup []) [⟨true, .by [p, (n : Int)] 1106 f⟩, ⟨true, .by [p, (n : Int)] 2 g0⟩, ⟨false, .by [p, (D : Int)] 522 (taU p U fun a b c => Y a b c + if a = at0 ∧ b = to0 then z * jnX (vec 8 p (prd e fa 10 (bas x) (sh g (1 + k * 64 + y * 8)))) (sh f (10 + l * 64 + j2 * 8)) n c else 0)⟩, ⟨true, .vr (.i .i64 (at0 : Int))⟩, ⟨true, .vr (.i .i64 (to0 : Int))⟩, ⟨true, .by [p, (e : Int)] 522 fa⟩, ⟨true, .vr (.i .i64 (x : Int))⟩, ⟨true, .by [(e : Int)] 513 g⟩, ⟨true, .vr (.i .i64 (y : Int))⟩, ⟨true, .vr (.i .i64 (j2 : Int))⟩, ⟨true, .vr (.i .i64 (n : Int))⟩] := by
  refine call_of_vc B.fn B.mo E.1 rfl rfl ?_
  have hb := h.b
  have hp : 1 ≤ p := by omega
  have hp2 : p ≤ 256 := by omega
  have hae := hA.p1
  have he : e ≤ 8 := by omega
  refine ⟨at0, 10 + at0 * 64, rfl, by omega, by omega, ?_⟩   -- 21
  refine ⟨to0, 10 + at0 * 64 + to0 * 8, rfl, by omega, by omega, ?_⟩   -- 22
  refine ⟨11, [], _, _, _, _, [_, _, _, _, _, _, _, _, _, _, _], rfl, i_basis_ok B E.2.1 (i := x) hx, rfl, trivial, rfl, rfl, rfl, ?_⟩   -- 26
  refine ⟨k, 1 + k * 64, rfl, by omega, by omega, ?_⟩   -- 30
  refine ⟨y, 1 + k * 64 + y * 8, rfl, by omega, by omega, ?_⟩   -- 31
  refine ⟨⟨by first | omega | (simp <;> omega), by first | omega | (simp <;> omega)⟩, ?_⟩   -- 32 := lda [['.t', 31], 0, 8]
  refine ⟨11, [5], _, _, _, _, [_, _, _, _, _, _, _, _, _, _, _], rfl, i_Algebra_product_ok B E.2.2.1 hp hp2 he, rfl, ⟨⟨_, rfl, fun h => by first | rfl | cases h⟩, trivial⟩, rfl, rfl, rfl, ?_⟩   -- 33
  refine ⟨l, 10 + l * 64, rfl, by omega, by omega, ?_⟩   -- 37
  refine ⟨j2, 10 + l * 64 + j2 * 8, rfl, by omega, by omega, ?_⟩   -- 38
  refine ⟨⟨by first | omega | (simp <;> omega), by first | omega | (simp <;> omega)⟩, ?_⟩   -- 39 := lda [['.t', 38], 0, 8]
  refine ⟨11, [], _, _, _, _, [_, _, _, _, _, _, _, _, _, _, _], rfl, i_field_joined_ok B E.2.2.2.1 (m := e) (s := n) hp (by omega) (by omega) (by omega) hD (fun y h1 h2 => prd_z hA he h1 h2) (fun y h1 h2 => bz_eq0.1 (by rw [bz_sh]; exact h.mul hl hj2 h2 (.inr (.inr h1)))), rfl, trivial, rfl, rfl, rfl, ?_⟩   -- 41
  refine ⟨11, [2], _, _, _, _, [_, _, _, _, _, _, _, _, _, _, _], rfl, i_field_plus_ok B E.2.2.2.2 hp (by omega) (by simp <;> omega) (by omega) (by omega) (by omega) (fun x h1 h2 => taU_lt hp hp2 (by omega)), rfl, ⟨⟨_, rfl, fun h => by first | rfl | cases h⟩, trivial⟩, rfl, rfl, ?_⟩   -- 42
  refine ⟨rfl, [], rfl, rfl, ⟨rfl, rfl, ?_, rfl, rfl, rfl, rfl, rfl, rfl, rfl, rfl, trivial⟩, rfl, rfl⟩
  refine congrArg some (blk_by ?_)
  rw [taU_pls hp hp2 hat hto]
  refine taU_congr fun a b c _ _ hc => cg_add rfl ?_
  by_cases q : a = at0 ∧ b = to0
  · rw [if_pos q, if_pos q]
    exact cg_mul rfl (cg_vec hp hp2 hc)
  · rw [if_neg q, if_neg q]; rfl

end Hf
namespace Hf
open Go Classical
variable {P : Program} {ρ : Nat → FuncId}
theorem fz_hd {y x : Int} (h : y ≠ 0) : fz [y, x] = y := by simp [fz, h]
theorem fz_tl {x : Int} : fz [0, x] = x := by by_cases h : x = 0 <;> simp [fz, h]
theorem fz_nest {a b x : Int} : fz [a, b, x] = fz [fz [a, b], x] := by
  by_cases ha : a = 0 <;> by_cases hb : b = 0 <;> simp [fz, ha, hb]
theorem fz_nest3 {a b c x : Int} : fz [a, b, c, x] = fz [fz [a, b, c], x] := by
  by_cases ha : a = 0 <;> by_cases hb : b = 0 <;> by_cases hc : c = 0 <;> simp [fz, ha, hb, hc]
theorem fz3_f {q r s : Prop} {c d e : Int} (hc : c ≠ 0) (hd : d ≠ 0) (he : e ≠ 0) : fz [oc q c, oc r d, oc s e] ≠ 0 ↔ ¬ ((q ∧ r) ∧ s) := by
  rw [fz_nest]
  by_cases h : q ∧ r
  · rw [fz2_t h, fz_tl]
    by_cases hs : s
    · rw [oc_t hs]; simp [h, hs]
    · rw [oc_f hs]; simp [hs, he]
  · have h1 := (fz2_f (q := q) (r := r) hc hd).2 h
    rw [fz_hd h1]
    exact ⟨fun _ k => h k.1, fun _ => h1⟩
theorem fz3_t {q r s : Prop} {c d e : Int} (h : (q ∧ r) ∧ s) : fz [oc q c, oc r d, oc s e] = 0 := by rw [fz_nest, fz2_t h.1, fz_tl, oc_t h.2]
/-- all that a smash product asks -/
def SpQ (p n d pa na : Int) (f g fa : By) : Prop := (SmQ p n d pa na f g fa ∧ p = pa ∧ d = na) ∧ MAA p n.toNat d.toNat f fa g
def spC (p : Int) (n e D : Nat) (f fa g g0 : By) (a0 b0 t : Nat) : List Blk :=
  [⟨true, .by [p, (n : Int)] 2 g0⟩, ⟨false, .by [p, (D : Int)] 522 (spK p n e D f fa g a0 b0 t)⟩, ⟨true, .vr (.i .i64 (a0 : Int))⟩, ⟨true, .vr (.i .i64 (b0 : Int))⟩, ⟨true, .by [p, (e : Int)] 522 fa⟩, ⟨true, .vr (.i .i64 ((a0 / n : Nat) : Int))⟩, ⟨true, .by [(e : Int)] 513 g⟩, ⟨true, .vr (.i .i64 ((b0 / n : Nat) : Int))⟩, ⟨true, .vr (.i .i64 ((b0 % n : Nat) : Int))⟩, ⟨true, .vr (.i .i64 (n : Int))⟩]
theorem sp_loop (B : Bs P ρ) (E : E_i_SmashProduct P ρ) {p : Int} {n e D a0 b0 : Nat} {f fa g g0 : By} (h : HShp p n f) (hA : AShp p e fa) (hD : e * n ≤ 8) (ha : a0 < 8) (hb0 : b0 < 8) :
    CallOK P ρ 60 [.pt 0 (530 + a0 % n * 64), .fn 239 [] [(1, 0), (2, 0), (3, 0), (4, 0), (5, 0), (6, 0), (7, 0), (8, 0), (0, 0), (9, 0), (10, 0)]] (⟨true, .by [p, (n : Int)] 1106 f⟩ :: spC p n e D f fa g g0 a0 b0 0) (.tup []) (⟨true, .by [p, (n : Int)] 1106 f⟩ :: spC p n e D f fa g g0 a0 b0 64) := by
  have hb := h.b
  have ham : a0 % n < n := Nat.mod_lt _ (by omega)
  have hbm : b0 % n < n := Nat.mod_lt _ (by omega)
  have had : a0 / n ≤ a0 := Nat.div_le_self _ _
  have hbd : b0 / n ≤ b0 := Nat.div_le_self _ _
  refine i_pairs_ok B E.2.2.2.2.2.2.2 (c := 10) (C := spC p n e D f fa g g0 a0 b0) (by simp; omega) (by omega) (fun _ _ => rfl) (by simp) ?_ ?_ ?_ ?_
  · intro t _ b hb
    simp only [spC, List.mem_cons, List.not_mem_nil, or_false] at hb
    rcases hb with rfl | rfl | rfl | rfl | rfl | rfl | rfl | rfl | rfl | rfl <;> rfl
  · intro k l hk hl _
    have hh := i_SmashProduct_1_ok B E.2.2.2.2.2.2.1 (p := p) (n := n) (e := e) (D := D) (at0 := a0) (to0 := b0) (x := a0 / n) (y := b0 / n) (j2 := b0 % n) (k := k) (l := l) (f := f) (fa := fa) (g := g) (g0 := g0) (U := spU p n f fa) (z := bz f (530 + a0 % n * 64 + k * 8 + l))
      (Y := fun a b c => (if (a < a0 ∧ b < D) ∨ (a = a0 ∧ b < b0) then spV p n e f fa g a b c else 0) + if a = a0 ∧ b = b0 then spW p n e f fa g (k * 8 + l) a b c else 0) h hA hD ha hb0 (by omega) (by omega) (by omega) hk hl (bz_nn _ _) (bz_le _ _)
    have e1 : (taU p (spU p n f fa) fun a b c => ((if (a < a0 ∧ b < D) ∨ (a = a0 ∧ b < b0) then spV p n e f fa g a b c else 0) + if a = a0 ∧ b = b0 then spW p n e f fa g (k * 8 + l) a b c else 0) + if a = a0 ∧ b = b0 then bz f (530 + a0 % n * 64 + k * 8 + l) * jnX (vec 8 p (prd e fa 10 (bas (a0 / n)) (sh g (1 + k * 64 + b0 / n * 8)))) (sh f (10 + l * 64 + b0 % n * 8)) n c else 0) = spK p n e D f fa g a0 b0 (k * 8 + l + 1) := by
      unfold spK
      refine taU_congr fun a b c _ _ _ => cg_of_eq ?_
      rw [Int.add_assoc]
      congr 1
      by_cases q : a = a0 ∧ b = b0
      · rw [if_pos q, if_pos q, if_pos q]
        unfold spW
        simp only [sm]
        rw [show (k * 8 + l) / 8 = k by omega, show (k * 8 + l) % 8 = l by omega, q.1, q.2, Nat.add_assoc (530 + a0 % n * 64)]
        rfl
      · rw [if_neg q, if_neg q, if_neg q]; rfl
    rw [e1] at hh
    exact hh
  · intro k l hk hl hz
    have e1 : spK p n e D f fa g a0 b0 (k * 8 + l + 1) = spK p n e D f fa g a0 b0 (k * 8 + l) := by
      unfold spK
      refine taU_congr fun a b c _ _ _ => cg_of_eq ?_
      congr 1
      by_cases q : a = a0 ∧ b = b0
      · rw [if_pos q, if_pos q]
        unfold spW
        simp only [sm]
        rw [q.1, ← Nat.add_assoc (530 + a0 % n * 64), hz, Int.zero_mul, Int.add_zero]
      · rw [if_neg q, if_neg q]
    unfold spC
    rw [e1]
  · intro t _
    exact ⟨rfl, rfl, rfl, rfl, rfl, rfl, rfl, rfl, rfl, rfl, trivial⟩

theorem i_stateCode_ok (B : Bs P ρ) (E : E_i_stateCode P ρ) {p n d pa na : Int} {f g fa : By} :
    CallOK P ρ 237 [.pt 0 0, .pt 1 0, .pt 2 0] [⟨true, .by [p, n] 1106 f⟩, ⟨true, .by [pa, na] 522 fa⟩, ⟨true, .by [d] 513 g⟩] (.one (.i .i64 (fz [oc (SmQ p n d pa na f g fa) 1, oc (p = pa ∧ d = na) 2, oc (MAA p n.toNat d.toNat f fa g) 5]))) [⟨true, .by [p, n] 1106 f⟩, ⟨true, .by [pa, na] 522 fa⟩, ⟨true, .by [d] 513 g⟩] := by
  refine call_of_vc B.fn B.mo E.1 rfl rfl ?_
  refine ⟨3, [0, 1, 2], _, _, _, _, [_, _, _], rfl, i_smashCode_ok B E.2.1 , rfl, ⟨⟨_, rfl, fun h => by first | rfl | cases h⟩, ⟨_, rfl, fun h => by first | rfl | cases h⟩, ⟨_, rfl, fun h => by first | rfl | cases h⟩, trivial⟩, rfl, rfl, ?_⟩   -- 11
  refine ⟨fun h15 => ?_, fun h15 => ?_⟩
  · replace h15 := bne_t h15
    refine brB_t ?_
    refine brB_t ?_
    refine brB_t ?_
    refine brB_t ?_
    refine ⟨3, [], _, _, _, _, [_, _, _], rfl, i_unless_ok B E.2.2.2.1 , rfl, trivial, rfl, rfl, ?_⟩   -- 21
    refine ⟨3, rfl, ?_⟩   -- .bsa 22
    refine ⟨4, [3], _, _, _, _, [_, _, _, _], rfl, i_first2_ok B E.2.2.2.2 , rfl, ⟨⟨_, rfl, fun h => by first | rfl | cases h⟩, trivial⟩, rfl, rfl, ?_⟩   -- 23
    refine ⟨rfl, [], ?_, rfl, ⟨rfl, rfl, rfl, trivial⟩, rfl, rfl⟩
    rw [fz_nest, fz_hd h15, fz_hd h15]; rfl
  · replace h15 := bne_f h15
    have hQ : SmQ p n d pa na f g fa ∧ p = pa ∧ d = na := Classical.byContradiction fun q => (fz2_f (c := 1) (d := 2) (by omega) (by omega)).2 q h15
    obtain ⟨hS, rfl, rfl⟩ := hQ
    have hb := AShp.p1 (f := f) ⟨hS.1.1.1, hS.1.1.2.1, hS.1.1.2.2.1⟩
    have hd := hS.2.1.1.1.2
    obtain ⟨m, rfl⟩ : ∃ m : Nat, n = (m : Int) := ⟨n.toNat, by omega⟩
    obtain ⟨e, rfl⟩ : ∃ e : Nat, d = (e : Int) := ⟨d.toNat, by omega⟩
    refine brB_f ?_
    refine brB_f ?_
    refine brB_f ?_
    refine ⟨3, [0, 1, 2], _, _, _, _, [_, _, _], rfl, i_Hopf_isModuleAlgebra_ok B E.2.2.1 (n := m) (e := e) hS.1.1 hS.2.2.1 hS.2.1.1.2, rfl, ⟨⟨_, rfl, fun h => by first | rfl | cases h⟩, ⟨_, rfl, fun h => by first | rfl | cases h⟩, ⟨_, rfl, fun h => by first | rfl | cases h⟩, trivial⟩, rfl, rfl, ?_⟩   -- 19
    refine brB_f ?_
    refine ⟨3, [], _, _, _, _, [_, _, _], rfl, i_unless_ok B E.2.2.2.1 , rfl, trivial, rfl, rfl, ?_⟩   -- 21
    refine ⟨3, rfl, ?_⟩   -- .bsa 22
    refine ⟨4, [3], _, _, _, _, [_, _, _, _], rfl, i_first2_ok B E.2.2.2.2 , rfl, ⟨⟨_, rfl, fun h => by first | rfl | cases h⟩, trivial⟩, rfl, rfl, ?_⟩   -- 23
    refine ⟨rfl, [], ?_, rfl, ⟨rfl, rfl, rfl, trivial⟩, rfl, rfl⟩
    rw [oc_dec, fz_nest]; rfl

end Hf
namespace Hf
open Go Classical
variable {P : Program} {ρ : Nat → FuncId}
theorem i_SmashProduct_ok (B : Bs P ρ) (E : E_i_SmashProduct P ρ) {p n d pa na : Int} {f g fa : By} :
    CallOK P ρ 225 [.ag [p, n] 1106 f, .ag [pa, na] 522 fa, .ag [d] 513 g] [] (.tup [.ag [oi (SpQ p n d pa na f g fa ∧ n * na ≤ 8) p, oi (SpQ p n d pa na f g fa ∧ n * na ≤ 8) (n * na)] 522 (ob (SpQ p n d pa na f g fa ∧ n * na ≤ 8) (spT p n.toNat na.toNat (n.toNat * na.toNat) f fa g)), .i .i64 (fz [oc (SmQ p n d pa na f g fa) 1, oc (p = pa ∧ d = na) 2, oc (MAA p n.toNat d.toNat f fa g) 5, oc (n * na ≤ 8) 3])]) [] := by
  refine call_of_vc B.fn B.mo E.1 rfl rfl ?_
  refine ⟨0, rfl, ?_⟩   -- .box 3
  refine ⟨1, rfl, ?_⟩   -- .box 4
  refine ⟨2, rfl, ?_⟩   -- .box 5
  refine ⟨3, rfl, ?_⟩   -- .alo 6
  refine ⟨4, [0, 1, 2], _, _, _, _, [_, _, _, _], rfl, i_stateCode_ok B E.2.1 , rfl, ⟨⟨_, rfl, fun h => by first | rfl | cases h⟩, ⟨_, rfl, fun h => by first | rfl | cases h⟩, ⟨_, rfl, fun h => by first | rfl | cases h⟩, trivial⟩, rfl, rfl, ?_⟩   -- 18
  refine ⟨fun h22 => ?_, fun h22 => ?_⟩
  · replace h22 := bne_t h22
    have hQ : ¬ SpQ p n d pa na f g fa := (fz3_f (c := 1) (d := 2) (e := 5) (by omega) (by omega) (by omega)).1 h22
    refine brB_t ?_
    refine brB_t ?_
    refine brB_t ?_
    refine brB_t ?_
    refine brB_t ?_
    refine brB_t ?_
    refine ⟨4, [], _, _, _, _, [_, _, _, _], rfl, i_unless_ok B E.2.2.1 , rfl, trivial, rfl, rfl, ?_⟩   -- 30
    refine ⟨4, rfl, ?_⟩   -- .bsa 31
    refine ⟨5, [4], _, _, _, _, [_, _, _, _, _], rfl, i_first2_ok B E.2.2.2.1 , rfl, ⟨⟨_, rfl, fun h => by first | rfl | cases h⟩, trivial⟩, rfl, rfl, ?_⟩   -- 32
    rw [fz_hd h22]
    refine ⟨fun h34 => ?_, fun h34 => ?_⟩
    · replace h34 := bne_t h34
      skip
      refine ⟨rfl, ⟨by first | omega | (simp <;> omega), by first | omega | (simp <;> omega)⟩, [], ?_, rfl, trivial, rfl, rfl⟩
      rw [oi_f (fun q : _ ∧ _ => hQ q.1), oi_f (fun q : _ ∧ _ => hQ q.1), ob_f (fun q : _ ∧ _ => hQ q.1), fz_nest3, fz_hd h22]; rfl
    · replace h34 := bne_f h34
      skip
      exact (h22 h34).elim
  · replace h22 := bne_f h22
    have hQ : SpQ p n d pa na f g fa := Classical.byContradiction fun q => (fz3_f (c := 1) (d := 2) (e := 5) (by omega) (by omega) (by omega)).2 q h22
    have hQ2 := hQ
    obtain ⟨⟨hS, rfl, rfl⟩, hM⟩ := hQ
    have hb := AShp.p1 (f := f) ⟨hS.1.1.1, hS.1.1.2.1, hS.1.1.2.2.1⟩
    have hd := hS.2.1.1.1.2
    have hde := mul8 ⟨hb.2.2.1, hb.2.2.2⟩ hd
    have hc : fz [fz [oc (SmQ p n d p d f g fa) 1, oc (p = p ∧ d = d) 2, oc (MAA p n.toNat d.toNat f fa g) 5], if decide (n * d ≤ 8) = true then 0 else 3] = oc (n * d ≤ 8) 3 := by
      rw [h22, fz_tl, oc_dec]
    refine brB_f ?_
    refine brB_f ?_
    refine brB_f ?_
    refine brB_f ?_
    refine ⟨n * d, w64_id (n * d) (by omega) (by omega), ?_⟩
    refine brB_f ?_
    refine brB_f ?_
    refine ⟨4, [], _, _, _, _, [_, _, _, _], rfl, i_unless_ok B E.2.2.1 , rfl, trivial, rfl, rfl, ?_⟩   -- 30
    refine ⟨4, rfl, ?_⟩   -- .bsa 31
    refine ⟨5, [4], _, _, _, _, [_, _, _, _, _], rfl, i_first2_ok B E.2.2.2.1 , rfl, ⟨⟨_, rfl, fun h => by first | rfl | cases h⟩, trivial⟩, rfl, rfl, ?_⟩   -- 32
    rw [hc]
    refine ⟨fun h34 => ?_, fun h34 => ?_⟩
    · replace h34 := bne_t h34
      have hL : ¬ n * d ≤ 8 := fun q => h34 (oc_t q)
      refine ⟨rfl, ⟨by first | omega | (simp <;> omega), by first | omega | (simp <;> omega)⟩, [], ?_, rfl, trivial, rfl, rfl⟩
      rw [oi_f (fun q : _ ∧ _ => hL q.2), oi_f (fun q : _ ∧ _ => hL q.2), ob_f (fun q : _ ∧ _ => hL q.2), fz_nest3, h22, fz_tl]; rfl
    · replace h34 := bne_f h34
      have hL : n * d ≤ 8 := Classical.byContradiction fun q => by rw [oc_f q] at h34; cases h34
      obtain ⟨m, rfl⟩ : ∃ m : Nat, n = (m : Int) := ⟨n.toNat, by omega⟩
      obtain ⟨e, rfl⟩ : ∃ e : Nat, d = (e : Int) := ⟨d.toNat, by omega⟩
      have hD : m * e ≤ 8 := by have : ((m * e : Nat) : Int) ≤ 8 := hL; omega
      refine ⟨5, [0], _, _, _, _, [_, _, _, _, _], rfl, i_Hopf_field_ok B E.2.2.2.2.1 , rfl, ⟨⟨_, rfl, fun h => by first | rfl | cases h⟩, trivial⟩, rfl, rfl, rfl, ?_⟩   -- 37
      refine ⟨5, rfl, rfl, ?_⟩   -- .new 9
      refine ⟨6, rfl, ?_⟩   -- .new 10
      refine ⟨((m * e : Nat) : Int), w64_id _ (by omega) (by omega), ?_⟩
      refine ⟨⟨by first | omega | (simp <;> omega), by first | omega | (simp <;> omega)⟩, ?_⟩   -- 49 := lda [['.t', 48], 0, 8]
      refine ⟨⟨by first | omega | (simp <;> omega), by first | omega | (simp <;> omega)⟩, ?_⟩   -- 51 := lda [['.t', 50], 0, 8]
      refine ⟨7, [], _, _, _, _, [_, _, _, _, _, _, _], rfl, i_field_joined_ok B E.2.2.2.2.2.1 (m := e) (s := m) (by omega) (by omega) (by omega) (by omega) (by rw [Nat.mul_comm]; exact hD) (fun k h1 h2 => bz_eq0.1 (by rw [bz_sh]; exact (hS.2.2.1.2.1 k h2).2 (by omega))) (fun k h1 h2 => bz_eq0.1 (by rw [bz_sh]; exact hS.1.1.unit h1 h2)), rfl, trivial, rfl, rfl, rfl, ?_⟩   -- 53
      refine ⟨7, rfl, ?_⟩   -- .new 11
      refine ⟨(fun a56 b0 b1 b2 b3 b4 b5 b6 i0 => St.mk [(3, .one (.pt 0 0)), (4, .one (.pt 1 0)), (5, .one (.pt 2 0)), (6, .one (.pt 3 0)), (9, .one (.pt 5 0)), (10, .one (.pt 6 0)), (11, .one (.pt 7 0)), (56, a56), (57, .one (.i .i64 ((i0 : Nat) : Int)))] [b0, b1, b2, b3, b4, b5, b6, Blk.mk false (.by [p, ((m * e : Nat) : Int)] 522 (spK p m e (m * e) f fa g i0 0 0))]) _ _ _ _ _ _ _ _ , fun i0 => True, m * e, trivial, ⟨⟨rfl, rfl, rfl, rfl, rfl, rfl, rfl, rfl, rfl, trivial⟩, ⟨rfl, rfl, rfl, rfl, rfl, rfl, rfl, ?_, trivial⟩, rfl⟩, fun i0 hi0 _ => ?_⟩
      · exact blk_by spK_0
      refine ⟨fun h58 => ?_, fun h58 => ?_⟩
      · replace h58 := of_decide_eq_true h58
        refine ⟨8, rfl, ?_⟩   -- .alo 12
        refine ⟨by omega, ((i0 / m : Nat) : Int), ?_, ?_⟩
        · show w64 ((i0 : Int).tdiv (m : Int)) = ((i0 / m : Nat) : Int)
          rw [← Int.ofNat_tdiv]
          exact w64_id _ (by have := Int.natCast_nonneg (i0 / m); omega) (by have := Nat.div_le_self i0 m; omega)
        refine ⟨by omega, ((i0 % m : Nat) : Int), (Int.ofNat_tmod _ _).symm, ?_⟩
        refine ⟨9, rfl, rfl, ?_⟩   -- .new 13
        refine ⟨(fun a14 a56 a57 a67 b0 b1 b2 b3 b4 b5 b6 b8 b9 i1 => St.mk [(3, .one (.pt 0 0)), (4, .one (.pt 1 0)), (5, .one (.pt 2 0)), (6, .one (.pt 3 0)), (9, .one (.pt 5 0)), (10, .one (.pt 6 0)), (11, .one (.pt 7 0)), (12, .one (.pt 8 0)), (13, .one (.pt 9 0)), (14, a14), (56, a56), (57, a57), (67, a67), (68, .one (.i .i64 ((i1 : Nat) : Int)))] [b0, b1, b2, b3, b4, b5, b6, Blk.mk false (.by [p, ((m * e : Nat) : Int)] 522 (spK p m e (m * e) f fa g i0 i1 0)), b8, b9]) _ _ _ _ _ _ _ _ _ _ _ _ _ , fun i1 => True, m * e, trivial, ⟨⟨rfl, rfl, rfl, rfl, rfl, rfl, rfl, rfl, rfl, rfl, rfl, rfl, rfl, rfl, trivial⟩, ⟨rfl, rfl, rfl, rfl, rfl, rfl, rfl, rfl, rfl, rfl, trivial⟩, rfl⟩, fun i1 hi1 _ => ?_⟩
        refine ⟨fun h69 => ?_, fun h69 => ?_⟩
        · replace h69 := of_decide_eq_true h69
          refine ⟨10, rfl, ?_⟩   -- .alo 15
          refine ⟨by omega, ((i1 / m : Nat) : Int), ?_, ?_⟩
          · show w64 ((i1 : Int).tdiv (m : Int)) = ((i1 / m : Nat) : Int)
            rw [← Int.ofNat_tdiv]
            exact w64_id _ (by have := Int.natCast_nonneg (i1 / m); omega) (by have := Nat.div_le_self i1 m; omega)
          refine ⟨by omega, ((i1 % m : Nat) : Int), (Int.ofNat_tmod _ _).symm, ?_⟩
          refine ⟨11, rfl, rfl, ?_⟩   -- .new 16
          refine ⟨12, rfl, ?_⟩   -- .new 17
          have hmm : i0 % m < m := Nat.mod_lt _ (by omega)
          refine ⟨i0 % m, 530 + i0 % m * 64, rfl, by omega, by omega, ?_⟩
          refine ⟨13, [0, 5, 7, 8, 10, 1, 9, 2, 11, 12, 6], _, _, _, _, [_, _, _, _, _, _, _, _, _, _, _, _, _], rfl, sp_loop B E (p := p) (n := m) (e := e) (D := m * e) (a0 := i0) (b0 := i1) (f := f) (fa := fa) (g := g) (g0 := fun _ => 0) hS.1.1 hS.2.2.1 (by rw [Nat.mul_comm]; exact hD) (by omega) (by omega), rfl, ⟨⟨_, rfl, fun h => by first | rfl | cases h⟩, ⟨_, rfl, fun h => by first | rfl | cases h⟩, ⟨_, rfl, fun h => by first | rfl | cases h⟩, ⟨_, rfl, fun h => by first | rfl | cases h⟩, ⟨_, rfl, fun h => by first | rfl | cases h⟩, ⟨_, rfl, fun h => by first | rfl | cases h⟩, ⟨_, rfl, fun h => by first | rfl | cases h⟩, ⟨_, rfl, fun h => by first | rfl | cases h⟩, ⟨_, rfl, fun h => by first | rfl | cases h⟩, ⟨_, rfl, fun h => by first | rfl | cases h⟩, ⟨_, rfl, fun h => by first | rfl | cases h⟩, trivial⟩, rfl, rfl, ?_⟩
          refine ⟨((i1 + 1 : Nat) : Int), w64_id _ (by omega) (by omega), ?_⟩   -- 82
          refine ⟨by omega, trivial, ⟨rfl, rfl, rfl, rfl, rfl, rfl, rfl, rfl, rfl, rfl, rfl, rfl, rfl, rfl, trivial⟩, ⟨rfl, rfl, rfl, rfl, rfl, rfl, rfl, ?_, rfl, rfl, trivial⟩, rfl⟩
          exact blk_by (spK_s hS.1.1).symm
        · replace h69 := of_decide_eq_false h69
          have e1 : m * e = i1 := by omega
          subst e1
          refine ⟨((i0 + 1 : Nat) : Int), w64_id _ (by omega) (by omega), ?_⟩   -- 83
          refine ⟨by omega, trivial, ⟨rfl, rfl, rfl, rfl, rfl, rfl, rfl, rfl, rfl, trivial⟩, ⟨rfl, rfl, rfl, rfl, rfl, rfl, rfl, ?_, trivial⟩, rfl⟩
          exact blk_by spK_n.symm
      · replace h58 := of_decide_eq_false h58
        have e0 : m * e = i0 := by omega
        subst e0
        refine ⟨rfl, ⟨by first | omega | (simp <;> omega), by first | omega | (simp <;> omega)⟩, [], ?_, rfl, trivial, rfl, rfl⟩
        rw [oi_t ⟨hQ2, hL⟩, oi_t ⟨hQ2, hL⟩, ob_t ⟨hQ2, hL⟩, fz_nest3, h22, fz_tl, oc_t hL, spK_end]; rfl

end Hf
namespace Hf
open Go Classical
variable {P : Program} {ρ : Nat → FuncId}
theorem jnX_congr {v v' w : By} {s t : Nat} (h : ∀ i, i < 8 → v i = v' i) (ht : t < 8) : jnX v w s t = jnX v' w s t := by
  unfold jnX bz
  rw [h (t / s) (Nat.lt_of_le_of_lt (Nat.div_le_self _ _) ht)]

theorem s_l08Smash_ok (B : Bs P ρ) (E : E_s_l08Smash P ρ) {p : Int} {n e : Nat} {f fa g : By} (h : HShp p n f) (hA : AShp p e fa) (hD : n * e ≤ 8) :
    CallOK P ρ 236 [.ag [p, (n : Int)] 1106 f, .ag [p, (e : Int)] 522 fa, .ag [(e : Int)] 513 g] [] (.one (.ag [p, ((n * e : Nat) : Int)] 522 (spT p n e (n * e) f fa g))) [] := by
  refine call_of_vc B.fn B.mo E.1 rfl rfl ?_
  have hb := h.b
  have hp : 1 ≤ p := by omega
  have hp2 : p ≤ 256 := by omega
  have hae := hA.p1
  have he : e ≤ 8 := by omega
  have hne : e * n = n * e := Nat.mul_comm _ _
  refine ⟨0, rfl, ?_⟩   -- .box 3
  refine ⟨1, rfl, ?_⟩   -- .box 4
  refine ⟨2, rfl, ?_⟩   -- .box 5
  refine ⟨3, rfl, ?_⟩   -- .alo 6
  refine ⟨((n * e : Nat) : Int), ?_, ?_⟩
  · show w64 ((e : Int) * (n : Int)) = ((n * e : Nat) : Int)
    rw [show (e : Int) * (n : Int) = ((n * e : Nat) : Int) by rw [Int.mul_comm]; rfl]
    exact w64_id _ (by omega) (by omega)
  refine ⟨⟨by first | omega | (simp <;> omega), by first | omega | (simp <;> omega)⟩, ?_⟩   -- 29 := lda [['.t', 28], 0, 8]
  refine ⟨⟨by first | omega | (simp <;> omega), by first | omega | (simp <;> omega)⟩, ?_⟩   -- 31 := lda [['.t', 30], 0, 8]
  refine ⟨4, [], _, _, _, _, [_, _, _, _], rfl, s_l06Both_ok B E.2.1 (m := e) (s := n) hp (by omega) (by omega) (by omega) (by omega) (fun k h1 h2 => bz_eq0.1 (by rw [bz_sh]; exact (hA.2.1 k h2).2 (by omega))), rfl, trivial, rfl, rfl, rfl, ?_⟩   -- 35
  refine ⟨4, rfl, ?_⟩   -- .new 8
  refine ⟨(fun a7 b0 b1 b2 b3 i0 => St.mk [(3, .one (.pt 0 0)), (4, .one (.pt 1 0)), (5, .one (.pt 2 0)), (6, .one (.pt 3 0)), (7, a7), (8, .one (.pt 4 0)), (9, .one (.i .i64 ((i0 : Nat) : Int)))] [b0, b1, b2, b3, Blk.mk false (.by [p, ((n * e : Nat) : Int)] 522 (taU p (spU p n f fa) fun a b c => if a < n * i0 ∧ b < n * e then spV p n e f fa g a b c else 0))]) _ _ _ _ _ , fun i0 => True, e, trivial, ⟨⟨rfl, rfl, rfl, rfl, rfl, rfl, rfl, trivial⟩, ⟨rfl, rfl, rfl, rfl, ?_, trivial⟩, rfl⟩, fun i0 hi0 _ => ?_⟩
  · exact blk_by (taU_0 fun a b c _ _ _ => by rw [if_neg (by omega)])
  refine ⟨fun h40 => ?_, fun h40 => ?_⟩
  · replace h40 := of_decide_eq_true h40
    have q2 : (i0 + 1) * n ≤ e * n := Nat.mul_le_mul_right n (by omega)
    have q3 := jn_s (s := n) (a := i0)
    refine ⟨(fun a7 a9 b0 b1 b2 b3 i1 => St.mk [(3, .one (.pt 0 0)), (4, .one (.pt 1 0)), (5, .one (.pt 2 0)), (6, .one (.pt 3 0)), (7, a7), (8, .one (.pt 4 0)), (9, a9), (10, .one (.i .i64 ((i1 : Nat) : Int)))] [b0, b1, b2, b3, Blk.mk false (.by [p, ((n * e : Nat) : Int)] 522 (taU p (spU p n f fa) fun a b c => if a < n * i0 + i1 ∧ b < n * e then spV p n e f fa g a b c else 0))]) _ _ _ _ _ _ , fun i1 => True, n, trivial, ⟨⟨rfl, rfl, rfl, rfl, rfl, rfl, rfl, rfl, trivial⟩, ⟨rfl, rfl, rfl, rfl, rfl, trivial⟩, rfl⟩, fun i1 hi1 _ => ?_⟩
    refine ⟨fun h45 => ?_, fun h45 => ?_⟩
    · replace h45 := of_decide_eq_true h45
      refine ⟨(fun a7 a9 a10 b0 b1 b2 b3 i2 => St.mk [(3, .one (.pt 0 0)), (4, .one (.pt 1 0)), (5, .one (.pt 2 0)), (6, .one (.pt 3 0)), (7, a7), (8, .one (.pt 4 0)), (9, a9), (10, a10), (11, .one (.i .i64 ((i2 : Nat) : Int)))] [b0, b1, b2, b3, Blk.mk false (.by [p, ((n * e : Nat) : Int)] 522 (taU p (spU p n f fa) fun a b c => if (a < n * i0 + i1 ∧ b < n * e) ∨ (a = n * i0 + i1 ∧ b < n * i2) then spV p n e f fa g a b c else 0))]) _ _ _ _ _ _ _ , fun i2 => True, e, trivial, ⟨⟨rfl, rfl, rfl, rfl, rfl, rfl, rfl, rfl, rfl, trivial⟩, ⟨rfl, rfl, rfl, rfl, ?_, trivial⟩, rfl⟩, fun i2 hi2 _ => ?_⟩
      · refine blk_by (taU_congr fun a b c _ _ _ => cg_of_eq ?_)
        by_cases q : a < n * i0 + i1 ∧ b < n * e
        · rw [if_pos (.inl q), if_pos q]
        · rw [if_neg (by rw [Nat.mul_zero]; omega), if_neg q]
      refine ⟨fun h51 => ?_, fun h51 => ?_⟩
      · replace h51 := of_decide_eq_true h51
        have q6 : (i2 + 1) * n ≤ e * n := Nat.mul_le_mul_right n (by omega)
        have q7 := jn_s (s := n) (a := i2)
        refine ⟨(fun a7 a9 a10 a11 b0 b1 b2 b3 i3 => St.mk [(3, .one (.pt 0 0)), (4, .one (.pt 1 0)), (5, .one (.pt 2 0)), (6, .one (.pt 3 0)), (7, a7), (8, .one (.pt 4 0)), (9, a9), (10, a10), (11, a11), (12, .one (.i .i64 ((i3 : Nat) : Int)))] [b0, b1, b2, b3, Blk.mk false (.by [p, ((n * e : Nat) : Int)] 522 (taU p (spU p n f fa) fun a b c => if (a < n * i0 + i1 ∧ b < n * e) ∨ (a = n * i0 + i1 ∧ b < n * i2 + i3) then spV p n e f fa g a b c else 0))]) _ _ _ _ _ _ _ _ , fun i3 => True, n, trivial, ⟨⟨rfl, rfl, rfl, rfl, rfl, rfl, rfl, rfl, rfl, rfl, trivial⟩, ⟨rfl, rfl, rfl, rfl, rfl, trivial⟩, rfl⟩, fun i3 hi3 _ => ?_⟩
        refine ⟨fun h56 => ?_, fun h56 => ?_⟩
        · replace h56 := of_decide_eq_true h56
          refine ⟨5, rfl, ?_⟩   -- .alo 13
          refine ⟨⟨rfl, by first | omega | (simp <;> omega), by first | omega | (simp <;> omega)⟩, ?_⟩   -- sta ['.t', 13] ['.t', 59] 8
          refine ⟨(fun a7 a9 a10 a11 a12 b0 b1 b2 b3 b4 i4 => St.mk [(3, .one (.pt 0 0)), (4, .one (.pt 1 0)), (5, .one (.pt 2 0)), (6, .one (.pt 3 0)), (7, a7), (8, .one (.pt 4 0)), (9, a9), (10, a10), (11, a11), (12, a12), (13, .one (.pt 5 0)), (14, .one (.i .i64 ((i4 : Nat) : Int)))] [b0, b1, b2, b3, b4, Blk.mk false (.by [] 8 (vec 8 p fun c => sm i4 fun k => sm n fun l => bz f (530 + i1 * 64 + k * 8 + l) * jnX (vec 8 p (prd e fa 10 (bas i0) (sh g (1 + k * 64 + i2 * 8)))) (sh f (10 + l * 64 + i3 * 8)) n c))]) _ _ _ _ _ _ _ _ _ _ , fun i4 => True, n, trivial, ⟨⟨rfl, rfl, rfl, rfl, rfl, rfl, rfl, rfl, rfl, rfl, rfl, rfl, trivial⟩, ⟨rfl, rfl, rfl, rfl, rfl, ?_, trivial⟩, rfl⟩, fun i4 hi4 _ => ?_⟩
          · refine blk_by ?_
            rw [z_sta]
            exact vec_0.symm
          refine ⟨fun h62 => ?_, fun h62 => ?_⟩
          · replace h62 := of_decide_eq_true h62
            refine ⟨(fun a7 a9 a10 a11 a12 a14 b0 b1 b2 b3 b4 i5 => St.mk [(3, .one (.pt 0 0)), (4, .one (.pt 1 0)), (5, .one (.pt 2 0)), (6, .one (.pt 3 0)), (7, a7), (8, .one (.pt 4 0)), (9, a9), (10, a10), (11, a11), (12, a12), (13, .one (.pt 5 0)), (14, a14), (15, .one (.i .i64 ((i5 : Nat) : Int)))] [b0, b1, b2, b3, b4, Blk.mk false (.by [] 8 (vec 8 p fun c => (sm i4 fun k => sm n fun l => bz f (530 + i1 * 64 + k * 8 + l) * jnX (vec 8 p (prd e fa 10 (bas i0) (sh g (1 + k * 64 + i2 * 8)))) (sh f (10 + l * 64 + i3 * 8)) n c) + sm i5 fun l => bz f (530 + i1 * 64 + i4 * 8 + l) * jnX (vec 8 p (prd e fa 10 (bas i0) (sh g (1 + i4 * 64 + i2 * 8)))) (sh f (10 + l * 64 + i3 * 8)) n c))]) _ _ _ _ _ _ _ _ _ _ _ , fun i5 => True, n, trivial, ⟨⟨rfl, rfl, rfl, rfl, rfl, rfl, rfl, rfl, rfl, rfl, rfl, rfl, rfl, trivial⟩, ⟨rfl, rfl, rfl, rfl, rfl, ?_, trivial⟩, rfl⟩, fun i5 hi5 _ => ?_⟩
            · exact blk_by (vec_congr fun c _ => cg_of_eq (by simp only [sm]; rw [Int.add_zero]))
            have q4 := bz_nn f (530 + i1 * 64 + i4 * 8 + i5)
            have q5 := bz_le f (530 + i1 * 64 + i4 * 8 + i5)
            refine ⟨fun h67 => ?_, fun h67 => ?_⟩
            · replace h67 := of_decide_eq_true h67
              refine ⟨i1, 530 + i1 * 64, rfl, by omega, by omega, ?_⟩   -- 74
              refine ⟨i4, 530 + i1 * 64 + i4 * 8, rfl, by omega, by omega, ?_⟩   -- 75
              refine ⟨i5, 530 + i1 * 64 + i4 * 8 + i5, rfl, by omega, by omega, ?_⟩   -- 76
              refine ⟨⟨by first | omega | (simp <;> omega), by first | omega | (simp <;> omega)⟩, ?_⟩   -- 77 := ld8 ['.t', 76]
              refine ⟨fun h79 => ?_, fun h79 => ?_⟩
              · replace h79 := bne_t h79
                refine ⟨6, [], _, _, _, _, [_, _, _, _, _, _], rfl, s_l01Basis_ok B E.2.2.1 (i := i0) (by omega), rfl, trivial, rfl, rfl, rfl, ?_⟩   -- 82
                refine ⟨i4, 1 + i4 * 64, rfl, by omega, by omega, ?_⟩   -- 86
                refine ⟨i2, 1 + i4 * 64 + i2 * 8, rfl, by omega, by omega, ?_⟩   -- 87
                refine ⟨⟨by first | omega | (simp <;> omega), by first | omega | (simp <;> omega)⟩, ?_⟩   -- 88 := lda [['.t', 87], 0, 8]
                refine ⟨6, [], _, _, _, _, [_, _, _, _, _, _], rfl, s_l01Times_ok B E.2.2.2.1 (n := e) hp hp2 he, rfl, trivial, rfl, rfl, rfl, ?_⟩   -- 89
                refine ⟨6, rfl, ?_⟩   -- .new 17
                refine ⟨⟨rfl, by first | omega | (simp <;> omega), by first | omega | (simp <;> omega)⟩, ?_⟩   -- sta ['.t', 17] ['.t', 89] 8
                refine ⟨⟨by first | omega | (simp <;> omega), by first | omega | (simp <;> omega)⟩, ?_⟩   -- 92 := lda [['.t', 13], 0, 8]
                refine ⟨⟨by first | omega | (simp <;> omega), by first | omega | (simp <;> omega)⟩, ?_⟩   -- 95 := lda [['.t', 17], 0, 8]
                refine ⟨i5, 10 + i5 * 64, rfl, by omega, by omega, ?_⟩   -- 99
                refine ⟨i3, 10 + i5 * 64 + i3 * 8, rfl, by omega, by omega, ?_⟩   -- 100
                refine ⟨⟨by first | omega | (simp <;> omega), by first | omega | (simp <;> omega)⟩, ?_⟩   -- 101 := lda [['.t', 100], 0, 8]
                refine ⟨7, [], _, _, _, _, [_, _, _, _, _, _, _], rfl, s_l06Both_ok B E.2.1 (m := e) (s := n) hp (by omega) (by omega) (by omega) (by omega) (fun k h1 h2 => by rw [sh_own h2]; exact prd_z hA he h1 h2), rfl, trivial, rfl, rfl, rfl, ?_⟩   -- 105
                refine ⟨7, [], _, _, _, _, [_, _, _, _, _, _, _], rfl, s_l01Add_ok B E.2.2.2.2 (k := bz f (530 + i1 * 64 + i4 * 8 + i5)) hp (by omega) (by omega) (by omega), rfl, trivial, rfl, rfl, ?_⟩   -- 108
                refine ⟨⟨rfl, by first | omega | (simp <;> omega), by first | omega | (simp <;> omega)⟩, ?_⟩   -- sta ['.t', 13] ['.t', 108] 8
                refine ⟨((i5 + 1 : Nat) : Int), w64_id _ (by omega) (by omega), ?_⟩   -- 69
                refine ⟨by omega, trivial, ⟨rfl, rfl, rfl, rfl, rfl, rfl, rfl, rfl, rfl, rfl, rfl, rfl, rfl, trivial⟩, ⟨rfl, rfl, rfl, rfl, rfl, ?_, trivial⟩, rfl⟩
                refine blk_by ?_
                rw [spl_plsN, pl_vec0 hp hp2]
                refine vec_congr fun c hc => ?_
                simp only [sm]
                rw [← Int.add_assoc]
                exact cg_add rfl (cg_mul rfl ((cg_vec hp hp2 hc).trans (cg_of_eq (jnX_congr (fun i hi => sh_own hi) hc))).symm)
              · replace h79 := bne_f h79
                refine ⟨((i5 + 1 : Nat) : Int), w64_id _ (by omega) (by omega), ?_⟩   -- 69
                refine ⟨by omega, trivial, ⟨rfl, rfl, rfl, rfl, rfl, rfl, rfl, rfl, rfl, rfl, rfl, rfl, rfl, trivial⟩, ⟨rfl, rfl, rfl, rfl, rfl, ?_, trivial⟩, rfl⟩
                refine blk_by (vec_congr fun c _ => cg_of_eq ?_)
                simp only [sm]
                rw [bz0 h79, Int.zero_mul, Int.add_zero]
            · replace h67 := of_decide_eq_false h67
              have e5 : n = i5 := by omega
              subst e5
              refine ⟨((i4 + 1 : Nat) : Int), w64_id _ (by omega) (by omega), ?_⟩   -- 64
              exact ⟨by omega, trivial, ⟨rfl, rfl, rfl, rfl, rfl, rfl, rfl, rfl, rfl, rfl, rfl, rfl, trivial⟩, ⟨rfl, rfl, rfl, rfl, rfl, rfl, trivial⟩, rfl⟩
          · replace h62 := of_decide_eq_false h62
            have e4 : n = i4 := by omega
            subst e4
            refine ⟨((n * i0 : Nat) : Int), w64_id _ (by omega) (by omega), ?_⟩
            refine ⟨((n * i0 + i1 : Nat) : Int), w64_id _ (by omega) (by omega), ?_⟩
            refine ⟨((n * i2 : Nat) : Int), w64_id _ (by omega) (by omega), ?_⟩
            refine ⟨((n * i2 + i3 : Nat) : Int), w64_id _ (by omega) (by omega), ?_⟩
            refine ⟨⟨by first | omega | (simp <;> omega), by first | omega | (simp <;> omega)⟩, ?_⟩   -- 119 := lda [['.t', 13], 0, 8]
            refine ⟨n * i0 + i1, 10 + (n * i0 + i1) * 64, rfl, by omega, by omega, ?_⟩
            refine ⟨n * i2 + i3, 10 + (n * i0 + i1) * 64 + (n * i2 + i3) * 8, rfl, by omega, by omega, ?_⟩
            refine ⟨⟨rfl, by first | omega | (simp <;> omega), by first | omega | (simp <;> omega)⟩, ?_⟩   -- sta ['.t', 122] ['.t', 119] 8
            refine ⟨((i3 + 1 : Nat) : Int), w64_id _ (by omega) (by omega), ?_⟩   -- 58
            refine ⟨by omega, trivial, ⟨rfl, rfl, rfl, rfl, rfl, rfl, rfl, rfl, rfl, rfl, trivial⟩, ⟨rfl, rfl, rfl, rfl, ?_, trivial⟩, rfl⟩
            refine blk_by ?_
            rw [sh_zero, taU_row (by omega) (by omega)]
            refine taU_congr fun a b c _ _ _ => cg_of_eq ?_
            by_cases q : a = n * i0 + i1 ∧ b = n * i2 + i3
            · have hq := jn_div (s := n) (a := i0) (b := i1) (by omega)
              have hr := jn_div (s := n) (a := i2) (b := i3) (by omega)
              rw [if_pos (.inr ⟨q.1, by omega⟩), if_pos q, q.1, q.2]
              unfold spV spJ
              rw [hq.1, hq.2, hr.1, hr.2]
            · rw [if_neg q]
              by_cases q5 : (a < n * i0 + i1 ∧ b < n * e) ∨ (a = n * i0 + i1 ∧ b < n * i2 + i3)
              · rw [if_pos q5, if_pos (q5.imp id fun k => ⟨k.1, by omega⟩)]
              · rw [if_neg q5, if_neg (by omega)]
        · replace h56 := of_decide_eq_false h56
          have e3 : n = i3 := by omega
          subst e3
          refine ⟨((i2 + 1 : Nat) : Int), w64_id _ (by omega) (by omega), ?_⟩   -- 53
          refine ⟨by omega, trivial, ⟨rfl, rfl, rfl, rfl, rfl, rfl, rfl, rfl, rfl, trivial⟩, ⟨rfl, rfl, rfl, rfl, ?_, trivial⟩, rfl⟩
          refine blk_by ?_
          rw [Nat.mul_add, Nat.mul_one]
      · replace h51 := of_decide_eq_false h51
        have e2 : e = i2 := by omega
        subst e2
        refine ⟨((i1 + 1 : Nat) : Int), w64_id _ (by omega) (by omega), ?_⟩   -- 47
        refine ⟨by omega, trivial, ⟨rfl, rfl, rfl, rfl, rfl, rfl, rfl, rfl, trivial⟩, ⟨rfl, rfl, rfl, rfl, ?_, trivial⟩, rfl⟩
        refine blk_by (taU_congr fun a b c _ _ _ => cg_of_eq ?_)
        by_cases q : a < n * i0 + (i1 + 1) ∧ b < n * e
        · rw [if_pos q, if_pos (by omega)]
        · rw [if_neg q, if_neg (by omega)]
    · replace h45 := of_decide_eq_false h45
      have e1 : n = i1 := by omega
      subst e1
      refine ⟨((i0 + 1 : Nat) : Int), w64_id _ (by omega) (by omega), ?_⟩   -- 42
      refine ⟨by omega, trivial, ⟨rfl, rfl, rfl, rfl, rfl, rfl, rfl, trivial⟩, ⟨rfl, rfl, rfl, rfl, ?_, trivial⟩, rfl⟩
      refine blk_by ?_
      rw [Nat.mul_add, Nat.mul_one]
  · replace h40 := of_decide_eq_false h40
    have e0 : e = i0 := by omega
    subst e0
    exact ⟨rfl, ⟨by first | omega | (simp <;> omega), by first | omega | (simp <;> omega)⟩, [], rfl, rfl, trivial, rfl, rfl⟩

theorem s_SmashProduct_ok (B : Bs P ρ) (E : E_s_SmashProduct P ρ) {p n d pa na : Int} {f g fa : By} :
    CallOK P ρ 224 [.ag [p, n] 1106 f, .ag [pa, na] 522 fa, .ag [d] 513 g] [] (.tup [.ag [oi (SpQ p n d pa na f g fa ∧ n * na ≤ 8) p, oi (SpQ p n d pa na f g fa ∧ n * na ≤ 8) (n * na)] 522 (ob (SpQ p n d pa na f g fa ∧ n * na ≤ 8) (spT p n.toNat na.toNat (n.toNat * na.toNat) f fa g)), .i .i64 (fz [oc (SmQ p n d pa na f g fa) 1, oc (p = pa ∧ d = na) 2, oc (MAA p n.toNat d.toNat f fa g) 5, oc (n * na ≤ 8) 3])]) [] := by
  refine call_of_vc B.fn B.mo E.1 rfl rfl ?_
  refine ⟨0, rfl, ?_⟩   -- .box 3
  refine ⟨1, rfl, ?_⟩   -- .box 4
  refine ⟨2, rfl, ?_⟩   -- .box 5
  refine ⟨3, rfl, ?_⟩   -- .alo 6
  refine ⟨4, [], _, _, _, _, [_, _, _, _], rfl, s_l08Code_ok B E.2.1 , rfl, trivial, rfl, rfl, ?_⟩   -- 12
  refine ⟨fun h14 => ?_, fun h14 => ?_⟩
  · replace h14 := bne_t h14
    have hQ1 : ¬ (SmQ p n d pa na f g fa ∧ p = pa ∧ d = na) := (fz2_f (c := 1) (d := 2) (by omega) (by omega)).1 h14
    have hQ : ¬ SpQ p n d pa na f g fa := fun q => hQ1 q.1
    refine ⟨rfl, ⟨by first | omega | (simp <;> omega), by first | omega | (simp <;> omega)⟩, [], ?_, rfl, trivial, rfl, rfl⟩
    rw [oi_f (fun q : _ ∧ _ => hQ q.1), oi_f (fun q : _ ∧ _ => hQ q.1), ob_f (fun q : _ ∧ _ => hQ q.1), fz_nest3, fz_nest, fz_hd h14, fz_hd h14]; rfl
  · replace h14 := bne_f h14
    have hQ : SmQ p n d pa na f g fa ∧ p = pa ∧ d = na := Classical.byContradiction fun q => (fz2_f (c := 1) (d := 2) (by omega) (by omega)).2 q h14
    have h14' := h14
    obtain ⟨hS, rfl, rfl⟩ := hQ
    have hb := AShp.p1 (f := f) ⟨hS.1.1.1, hS.1.1.2.1, hS.1.1.2.2.1⟩
    have hd := hS.2.1.1.1.2
    have hde := mul8 hd ⟨hb.2.2.1, hb.2.2.2⟩
    have hcm : n * d = d * n := Int.mul_comm _ _
    obtain ⟨m, rfl⟩ : ∃ m : Nat, n = (m : Int) := ⟨n.toNat, by omega⟩
    obtain ⟨e, rfl⟩ : ∃ e : Nat, d = (e : Int) := ⟨d.toNat, by omega⟩
    refine ⟨4, [], _, _, _, _, [_, _, _, _], rfl, s_l08Algebra_ok B E.2.2.1 (n := m) (e := e) hS.1.1 hS.2.2.1 hS.2.1.1.2, rfl, trivial, rfl, rfl, ?_⟩   -- 21
    refine ⟨fun h17 => ?_, fun h17 => ?_⟩
    · skip
      have hM : ¬ MAA p m e f fa g := dec_elim_t' (not_t h17)
      have hQ : ¬ SpQ p m e p e f g fa := fun q => hM q.2
      refine ⟨rfl, ⟨by first | omega | (simp <;> omega), by first | omega | (simp <;> omega)⟩, [], ?_, rfl, trivial, rfl, rfl⟩
      rw [oi_f (fun q : _ ∧ _ => hQ q.1), oi_f (fun q : _ ∧ _ => hQ q.1), ob_f (fun q : _ ∧ _ => hQ q.1), fz_nest3, fz_nest, h14', fz_tl, oc_f (q := MAA p (m : Int).toNat (e : Int).toNat f fa g) hM, fz_hd (by omega)]; rfl
    · skip
      have hM : MAA p m e f fa g := dec_elim_t (not_f h17)
      have hQ2 : SpQ p m e p e f g fa := ⟨⟨hS, rfl, rfl⟩, hM⟩
      refine ⟨(e : Int) * m, w64_id ((e : Int) * m) (by omega) (by omega), ?_⟩
      refine ⟨fun h24 => ?_, fun h24 => ?_⟩
      · replace h24 := of_decide_eq_true h24
        have hL : ¬ (m : Int) * e ≤ 8 := by omega
        refine ⟨rfl, ⟨by first | omega | (simp <;> omega), by first | omega | (simp <;> omega)⟩, [], ?_, rfl, trivial, rfl, rfl⟩
        rw [oi_f (fun q : _ ∧ _ => hL q.2), oi_f (fun q : _ ∧ _ => hL q.2), ob_f (fun q : _ ∧ _ => hL q.2), fz_nest3, fz3_t (⟨⟨hS, rfl, rfl⟩, hM⟩ : (SmQ p m e p e f g fa ∧ p = p ∧ (e : Int) = e) ∧ MAA p (m : Int).toNat (e : Int).toNat f fa g), fz_tl, oc_f hL]; rfl
      · replace h24 := of_decide_eq_false h24
        have hL : (m : Int) * e ≤ 8 := by omega
        have hD : m * e ≤ 8 := by have : ((m * e : Nat) : Int) ≤ 8 := hL; omega
        refine ⟨4, [], _, _, _, _, [_, _, _, _], rfl, s_l08Smash_ok B E.2.2.2 (n := m) (e := e) hS.1.1 hS.2.2.1 hD, rfl, trivial, rfl, rfl, ?_⟩   -- 35
        refine ⟨rfl, ⟨by first | omega | (simp <;> omega), by first | omega | (simp <;> omega)⟩, [], ?_, rfl, trivial, rfl, rfl⟩
        rw [oi_t ⟨hQ2, hL⟩, oi_t ⟨hQ2, hL⟩, ob_t ⟨hQ2, hL⟩, fz_nest3, fz3_t (⟨⟨hS, rfl, rfl⟩, hM⟩ : (SmQ p m e p e f g fa ∧ p = p ∧ (e : Int) = e) ∧ MAA p (m : Int).toNat (e : Int).toNat f fa g), fz_tl, oc_t hL]; rfl

theorem l_FnExactSmashProduct_ok (B : Bs P ρ) (E : E_l_FnExactSmashProduct P ρ) {p n d pa na : Int} {f g fa : By} :
    CallOK P ρ 226 [.ag [p, n] 1106 f, .ag [pa, na] 522 fa, .ag [d] 513 g] [] (.one (.b true)) [] := by
  refine call_of_vc B.fn B.mo E.1 rfl rfl ?_
  refine ⟨0, rfl, ?_⟩   -- .box 3
  refine ⟨1, rfl, ?_⟩   -- .box 4
  refine ⟨2, rfl, ?_⟩   -- .box 5
  refine ⟨3, [], _, _, _, _, [_, _, _], rfl, l_toHopf_ok B E.2.1 , rfl, trivial, rfl, rfl, rfl, ?_⟩   -- 13
  refine ⟨3, [], _, _, _, _, [_, _, _], rfl, l_toAlgebra_ok B E.2.2.1 , rfl, trivial, rfl, rfl, rfl, ?_⟩   -- 15
  refine ⟨3, [], _, _, _, _, [_, _, _], rfl, l_toModule_ok B E.2.2.2.1 , rfl, trivial, rfl, rfl, rfl, ?_⟩   -- 17
  refine ⟨3, [], _, _, _, _, [_, _, _], rfl, s_SmashProduct_ok B E.2.2.2.2.1 , rfl, trivial, rfl, rfl, rfl, ?_⟩   -- 18
  refine ⟨3, rfl, rfl, ?_⟩   -- .new 7
  refine ⟨4, [], _, _, _, _, [_, _, _, _], rfl, l_toHopf_ok B E.2.1 , rfl, trivial, rfl, rfl, rfl, ?_⟩   -- 23
  refine ⟨4, [], _, _, _, _, [_, _, _, _], rfl, l_toAlgebra_ok B E.2.2.1 , rfl, trivial, rfl, rfl, rfl, ?_⟩   -- 25
  refine ⟨4, [], _, _, _, _, [_, _, _, _], rfl, l_toModule_ok B E.2.2.2.1 , rfl, trivial, rfl, rfl, rfl, ?_⟩   -- 27
  refine ⟨4, [], _, _, _, _, [_, _, _, _], rfl, i_SmashProduct_ok B E.2.2.2.2.2.1 , rfl, trivial, rfl, rfl, rfl, ?_⟩   -- 28
  refine ⟨4, rfl, rfl, ?_⟩   -- .new 9
  refine ⟨5, [], _, _, _, _, [_, _, _, _, _], rfl, l_eqAlgebra_ok B E.2.2.2.2.2.2 , rfl, trivial, rfl, rfl, ?_⟩   -- 33
  refine ⟨fun h35 => ?_, fun h35 => ?_⟩
  · skip
    exact absurd h35 (by decide)
  · skip
    refine brB_f ?_
    refine brB_f ?_
    refine brB_f ?_
    refine ⟨fun h39 => ?_, fun h39 => ?_⟩
    · replace h39 := bne_t h39
      exact (h39 rfl).elim
    · replace h39 := bne_f h39
      exact ⟨rfl, [], rfl, rfl, trivial, rfl, rfl⟩

end Hf
