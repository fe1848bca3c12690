/- Contracts of the functions that the law reaches. -/
import Derived.Test.YtmdggecfooapoaaC1
set_option linter.unusedVariables false
set_option linter.unusedSimpArgs false
namespace Hf
open Go Classical
variable {P : Program} {ρ : Nat → FuncId}
theorem byt_mod_inj {p a b : Int} (hp : 1 ≤ p) (hp2 : p ≤ 256) (h : byt (a % p) = byt (b % p)) : a % p = b % p := by
  have h1 := byt_toNat (a % p)
  have h2 := byt_toNat (b % p)
  rw [h] at h1
  have := Int.emod_nonneg a (show p ≠ 0 by omega)
  have := Int.emod_lt_of_pos a (show 0 < p by omega)
  have := Int.emod_nonneg b (show p ≠ 0 by omega)
  have := Int.emod_lt_of_pos b (show 0 < p by omega)
  omega

theorem s_l02Sums_ok (B : Bs P ρ) (E : E_s_l02Sums P ρ) {n : Nat} {p : Int} {f : By} {i j k l : Nat} (hp : 1 ≤ p) (hp2 : p ≤ 256) (hn : n ≤ 8) (hi : i < 8) (hj : j < 8) (hk : k < 8) (hl : l < 8) :
    CallOK P ρ 115 [.ag [p, (n : Int)] 522 f, .i .i64 (i : Int), .i .i64 (j : Int), .i .i64 (k : Int), .i .i64 (l : Int)] [] (.tup [.u (byt (coL n f i j k l % p)), .u (byt (coR n f i j k l % p))]) [] := by
  refine call_of_vc B.fn B.mo E.1 rfl rfl ?_
  refine ⟨0, rfl, ?_⟩   -- .box 5
  refine ⟨(fun a1 a2 a3 a4 b0 i0 => St.mk [(1, a1), (2, a2), (3, a3), (4, a4), (5, .one (.pt 0 0)), (12, .one (.i .i64 (coL i0 f i j k l))), (13, .one (.i .i64 (coR i0 f i j k l))), (14, .one (.i .i64 ((i0 : Nat) : Int)))] [b0]) _ _ _ _ _ , fun i0 => True, n, trivial, ⟨⟨rfl, rfl, rfl, rfl, rfl, rfl, rfl, rfl, trivial⟩, ⟨rfl, trivial⟩, rfl⟩, fun i0 hi0 _ => ?_⟩
  have q1 := bz2 f f (10 + i * 64 + i0 * 8 + l) (10 + i0 * 64 + j * 8 + k)
  have q2 := bz2 f f (10 + i * 64 + j * 8 + i0) (10 + i0 * 64 + k * 8 + l)
  have q3 := coL_bd (m := i0) (f := f) (i := i) (j := j) (k := k) (l := l)
  have q4 := coR_bd (m := i0) (f := f) (i := i) (j := j) (k := k) (l := l)
  refine ⟨fun h18 => ?_, fun h18 => ?_⟩
  · replace h18 := of_decide_eq_true h18
    refine ⟨i, 10 + i * 64, rfl, by omega, by omega, ?_⟩   -- 26
    refine ⟨i0, 10 + i * 64 + i0 * 8, rfl, by omega, by omega, ?_⟩   -- 27
    refine ⟨l, 10 + i * 64 + i0 * 8 + l, rfl, by omega, by omega, ?_⟩   -- 28
    refine ⟨⟨by first | omega | (simp <;> omega), by first | omega | (simp <;> omega)⟩, ?_⟩   -- 29 := ld8 ['.t', 28]
    refine ⟨i0, 10 + i0 * 64, rfl, by omega, by omega, ?_⟩   -- 35
    refine ⟨j, 10 + i0 * 64 + j * 8, rfl, by omega, by omega, ?_⟩   -- 36
    refine ⟨k, 10 + i0 * 64 + j * 8 + k, rfl, by omega, by omega, ?_⟩   -- 37
    refine ⟨⟨by first | omega | (simp <;> omega), by first | omega | (simp <;> omega)⟩, ?_⟩   -- 38 := ld8 ['.t', 37]
    refine ⟨bz f (10 + i * 64 + i0 * 8 + l) * bz f (10 + i0 * 64 + j * 8 + k), w64_id (bz f (10 + i * 64 + i0 * 8 + l) * bz f (10 + i0 * 64 + j * 8 + k)) (by omega) (by omega), ?_⟩
    refine ⟨coL i0 f i j k l + bz f (10 + i * 64 + i0 * 8 + l) * bz f (10 + i0 * 64 + j * 8 + k), w64_id (coL i0 f i j k l + bz f (10 + i * 64 + i0 * 8 + l) * bz f (10 + i0 * 64 + j * 8 + k)) (by omega) (by omega), ?_⟩
    refine ⟨i, 10 + i * 64, rfl, by omega, by omega, ?_⟩   -- 47
    refine ⟨j, 10 + i * 64 + j * 8, rfl, by omega, by omega, ?_⟩   -- 48
    refine ⟨i0, 10 + i * 64 + j * 8 + i0, rfl, by omega, by omega, ?_⟩   -- 49
    refine ⟨⟨by first | omega | (simp <;> omega), by first | omega | (simp <;> omega)⟩, ?_⟩   -- 50 := ld8 ['.t', 49]
    refine ⟨i0, 10 + i0 * 64, rfl, by omega, by omega, ?_⟩   -- 56
    refine ⟨k, 10 + i0 * 64 + k * 8, rfl, by omega, by omega, ?_⟩   -- 57
    refine ⟨l, 10 + i0 * 64 + k * 8 + l, rfl, by omega, by omega, ?_⟩   -- 58
    refine ⟨⟨by first | omega | (simp <;> omega), by first | omega | (simp <;> omega)⟩, ?_⟩   -- 59 := ld8 ['.t', 58]
    refine ⟨bz f (10 + i * 64 + j * 8 + i0) * bz f (10 + i0 * 64 + k * 8 + l), w64_id (bz f (10 + i * 64 + j * 8 + i0) * bz f (10 + i0 * 64 + k * 8 + l)) (by omega) (by omega), ?_⟩
    refine ⟨coR i0 f i j k l + bz f (10 + i * 64 + j * 8 + i0) * bz f (10 + i0 * 64 + k * 8 + l), w64_id (coR i0 f i j k l + bz f (10 + i * 64 + j * 8 + i0) * bz f (10 + i0 * 64 + k * 8 + l)) (by omega) (by omega), ?_⟩
    refine ⟨((i0 + 1 : Nat) : Int), w64_id _ (by omega) (by omega), ?_⟩   -- 20
    exact ⟨by omega, trivial, ⟨rfl, rfl, rfl, rfl, rfl, rfl, rfl, rfl, trivial⟩, ⟨rfl, trivial⟩, rfl⟩
  · replace h18 := of_decide_eq_false h18
    have e0 : n = i0 := by omega
    subst e0
    refine ⟨1, [], _, _, _, _, [_], rfl, s_l01Mod_ok B E.2 hp (by omega), rfl, trivial, rfl, rfl, rfl, ?_⟩   -- 66
    refine ⟨1, [], _, _, _, _, [_], rfl, s_l01Mod_ok B E.2 hp (by omega), rfl, trivial, rfl, rfl, ?_⟩   -- 70
    exact ⟨rfl, [], rfl, rfl, trivial, rfl, rfl⟩

theorem s_l02Fault_t_ok (B : Bs P ρ) (E : E_s_l02Fault P ρ) {n : Nat} {p : Int} {f : By} (hp : 1 ≤ p) (hp2 : p ≤ 256) (hn : n ≤ 8) (hA : ∀ t : Nat, t < n * n * n * n → CoaT p n f t) :
    CallOK P ρ 99 [.ag [p, (n : Int)] 522 f] [] (.tup [.sn, .b false]) [] := by
  refine call_of_vc B.fn B.mo E.1 rfl rfl ?_
  have hpw := pw hn
  refine ⟨0, rfl, ?_⟩   -- .box 1
  refine ⟨(fun a4 b0 i0 => St.mk [(1, .one (.pt 0 0)), (4, a4), (5, .one (.i .i64 ((i0 : Nat) : Int)))] [b0]) _ _ , fun i0 => True, n * n * n * n, trivial, ⟨⟨rfl, rfl, rfl, trivial⟩, ⟨rfl, trivial⟩, rfl⟩, fun i0 hi0 _ => ?_⟩
  refine ⟨((n * n : Nat) : Int), ml (by omega), ?_⟩
  refine ⟨((n * n * n : Nat) : Int), ml (by omega), ?_⟩
  refine ⟨((n * n * n * n : Nat) : Int), ml (by omega), ?_⟩
  refine ⟨fun h22 => ?_, fun h22 => ?_⟩
  · replace h22 := of_decide_eq_true h22
    have hlt : i0 < n * n * n * n := by omega
    have hd := dig hlt
    refine ⟨((n * n : Nat) : Int), ml (by omega), ?_⟩
    refine ⟨((n * n * n : Nat) : Int), ml (by omega), ?_⟩
    refine ⟨by have : n * n * n ≠ 0 := Nat.ne_of_gt (Nat.mul_pos (Nat.mul_pos hd.1 hd.1) hd.1); omega, ((i0 / (n * n * n) : Nat) : Int), qd (by omega), ?_⟩
    refine ⟨((n * n : Nat) : Int), ml (by omega), ?_⟩
    refine ⟨by have : n * n ≠ 0 := Nat.ne_of_gt (Nat.mul_pos hd.1 hd.1); omega, ((i0 / (n * n) : Nat) : Int), qd (by omega), ?_⟩
    refine ⟨by omega, ((i0 / (n * n) % n : Nat) : Int), rm, ?_⟩
    refine ⟨by omega, ((i0 / n : Nat) : Int), qd (by omega), ?_⟩
    refine ⟨by omega, ((i0 / n % n : Nat) : Int), rm, ?_⟩
    refine ⟨by omega, ((i0 % n : Nat) : Int), rm, ?_⟩
    refine ⟨1, [], _, _, _, _, [_], rfl, s_l02Sums_ok B E.2 hp hp2 hn (i := i0 / (n * n * n)) (j := i0 / (n * n) % n) (k := i0 / n % n) (l := i0 % n) (by omega) (by omega) (by omega) (by omega), rfl, trivial, rfl, rfl, ?_⟩   -- 53
    refine ⟨fun h58 => ?_, fun h58 => ?_⟩
    · replace h58 := bne_t h58
      exact (h58 (congrArg byt (hA i0 hlt))).elim
    · replace h58 := bne_f h58
      refine ⟨((i0 + 1 : Nat) : Int), w64_id _ (by omega) (by omega), ?_⟩   -- 24
      exact ⟨by omega, trivial, ⟨rfl, rfl, rfl, trivial⟩, ⟨rfl, trivial⟩, rfl⟩
  · replace h22 := of_decide_eq_false h22
    have e0 : n * n * n * n = i0 := by omega
    exact ⟨rfl, [], rfl, rfl, trivial, rfl, rfl⟩

theorem s_l02Fault_f_ok (B : Bs P ρ) (E : E_s_l02Fault P ρ) {n : Nat} {p : Int} {f : By} {a : Nat} (hp : 1 ≤ p) (hp2 : p ≤ 256) (hn : n ≤ 8) (ha : a < n * n * n * n) (hA : ¬ CoaT p n f a) (hL : ∀ t, t < a → CoaT p n f t) :
    CallOK P ρ 99 [.ag [p, (n : Int)] 522 f] [] (.tup [.sl 0 0 4 4, .b true]) [⟨false, .rw [.i .i64 ((a / (n * n * n) : Nat) : Int), .i .i64 ((a / (n * n) % n : Nat) : Int), .i .i64 ((a / n % n : Nat) : Int), .i .i64 ((a % n : Nat) : Int)]⟩] := by
  refine call_of_vc B.fn B.mo E.1 rfl rfl ?_
  have hpw := pw hn
  refine ⟨0, rfl, ?_⟩   -- .box 1
  refine ⟨(fun a4 b0 i0 => St.mk [(1, .one (.pt 0 0)), (4, a4), (5, .one (.i .i64 ((i0 : Nat) : Int)))] [b0]) _ _ , fun i0 => ∀ t, t < i0 → CoaT p n f t, n * n * n * n, fun _ _ => by omega, ⟨⟨rfl, rfl, rfl, trivial⟩, ⟨rfl, trivial⟩, rfl⟩, fun i0 hi0 hF0 => ?_⟩
  refine ⟨((n * n : Nat) : Int), ml (by omega), ?_⟩
  refine ⟨((n * n * n : Nat) : Int), ml (by omega), ?_⟩
  refine ⟨((n * n * n * n : Nat) : Int), ml (by omega), ?_⟩
  refine ⟨fun h22 => ?_, fun h22 => ?_⟩
  · replace h22 := of_decide_eq_true h22
    have hlt : i0 < n * n * n * n := by omega
    have hd := dig hlt
    refine ⟨((n * n : Nat) : Int), ml (by omega), ?_⟩
    refine ⟨((n * n * n : Nat) : Int), ml (by omega), ?_⟩
    refine ⟨by have : n * n * n ≠ 0 := Nat.ne_of_gt (Nat.mul_pos (Nat.mul_pos hd.1 hd.1) hd.1); omega, ((i0 / (n * n * n) : Nat) : Int), qd (by omega), ?_⟩
    refine ⟨((n * n : Nat) : Int), ml (by omega), ?_⟩
    refine ⟨by have : n * n ≠ 0 := Nat.ne_of_gt (Nat.mul_pos hd.1 hd.1); omega, ((i0 / (n * n) : Nat) : Int), qd (by omega), ?_⟩
    refine ⟨by omega, ((i0 / (n * n) % n : Nat) : Int), rm, ?_⟩
    refine ⟨by omega, ((i0 / n : Nat) : Int), qd (by omega), ?_⟩
    refine ⟨by omega, ((i0 / n % n : Nat) : Int), rm, ?_⟩
    refine ⟨by omega, ((i0 % n : Nat) : Int), rm, ?_⟩
    refine ⟨1, [], _, _, _, _, [_], rfl, s_l02Sums_ok B E.2 hp hp2 hn (i := i0 / (n * n * n)) (j := i0 / (n * n) % n) (k := i0 / n % n) (l := i0 % n) (by omega) (by omega) (by omega) (by omega), rfl, trivial, rfl, rfl, ?_⟩   -- 53
    refine ⟨fun h58 => ?_, fun h58 => ?_⟩
    · replace h58 := bne_t h58
      have q : ¬ CoaT p n f i0 := fun q => h58 (congrArg byt q)
      have e : i0 = a := by
        rcases Nat.lt_trichotomy i0 a with e | e | e
        · exact (q (hL i0 e)).elim
        · exact e
        · exact (hA (hF0 a e)).elim
      refine ⟨1, rfl, ?_⟩   -- .bsa 63
      refine ⟨rfl, [1], rfl, rfl, ⟨?_, trivial⟩, rfl, rfl⟩
      show some (Blk.mk false (.rw [.i .i64 ((i0 / (n * n * n) : Nat) : Int), .i .i64 ((i0 / (n * n) % n : Nat) : Int), .i .i64 ((i0 / n % n : Nat) : Int), .i .i64 ((i0 % n : Nat) : Int)])) = some (Blk.mk false (.rw [.i .i64 ((a / (n * n * n) : Nat) : Int), .i .i64 ((a / (n * n) % n : Nat) : Int), .i .i64 ((a / n % n : Nat) : Int), .i .i64 ((a % n : Nat) : Int)]))
      rw [e]
    · replace h58 := bne_f h58
      have q : CoaT p n f i0 := byt_mod_inj hp hp2 h58
      refine ⟨((i0 + 1 : Nat) : Int), w64_id _ (by omega) (by omega), ?_⟩   -- 24
      refine ⟨by omega, ?_, ⟨rfl, rfl, rfl, trivial⟩, ⟨rfl, trivial⟩, rfl⟩
      intro t ht
      by_cases e : t = i0
      · rw [e]; exact q
      · exact hF0 t (by omega)
  · replace h22 := of_decide_eq_false h22
    have e0 : n * n * n * n = i0 := by omega
    exact (hA (hF0 a (by omega))).elim

theorem s_l02Counits_ok (B : Bs P ρ) (E : E_s_l02Counits P ρ) {n : Nat} {p : Int} {f : By} (hp : 1 ≤ p) (hp2 : p ≤ 256) (hn : n ≤ 8) :
    CallOK P ρ 100 [.ag [p, (n : Int)] 522 f] [] (.one (.b (decide (∀ i, i < n → Cou p n f i)))) [] := by
  refine call_of_vc B.fn B.mo E.1 rfl rfl ?_
  refine ⟨0, rfl, ?_⟩   -- .box 1
  refine ⟨(fun b0 i0 => St.mk [(1, .one (.pt 0 0)), (3, .one (.i .i64 ((i0 : Nat) : Int)))] [b0]) _ , fun i0 => ∀ i, i < i0 → Cou p n f i, n, fun _ _ => by omega, ⟨⟨rfl, rfl, trivial⟩, ⟨rfl, trivial⟩, rfl⟩, fun i0 hi0 hF0 => ?_⟩
  refine ⟨fun h12 => ?_, fun h12 => ?_⟩
  · replace h12 := of_decide_eq_true h12
    refine ⟨1, rfl, ?_⟩   -- .alo 4
    refine ⟨2, rfl, ?_⟩   -- .alo 5
    refine ⟨⟨rfl, by first | omega | (simp <;> omega), by first | omega | (simp <;> omega)⟩, ?_⟩   -- sta ['.t', 4] ['.t', 15] 8
    refine ⟨⟨rfl, by first | omega | (simp <;> omega), by first | omega | (simp <;> omega)⟩, ?_⟩   -- sta ['.t', 5] ['.t', 16] 8
    refine ⟨(fun a3 b0 i1 => St.mk [(1, .one (.pt 0 0)), (3, a3), (4, .one (.pt 1 0)), (5, .one (.pt 2 0)), (6, .one (.i .i64 ((i1 : Nat) : Int)))] [b0, Blk.mk false (.by [] 8 (vec 8 p fun x => cuL i1 f i0 x)), Blk.mk false (.by [] 8 (vec i1 p (cuR n f i0)))]) _ _ , fun i1 => True, n, trivial, ⟨⟨rfl, rfl, rfl, rfl, rfl, trivial⟩, ⟨rfl, ?_, ?_, trivial⟩, rfl⟩, fun i1 hi1 _ => ?_⟩
    · refine blk_by ?_
      rw [z_sta]
      exact vec_0.symm
    · refine blk_by ?_
      rw [z_sta]
      rfl
    have q0 := bz_nn f (2 + i1)
    have q1 := bz_le f (2 + i1)
    refine ⟨fun h20 => ?_, fun h20 => ?_⟩
    · replace h20 := of_decide_eq_true h20
      refine ⟨⟨by first | omega | (simp <;> omega), by first | omega | (simp <;> omega)⟩, ?_⟩   -- 25 := lda [['.t', 4], 0, 8]
      refine ⟨i0, 10 + i0 * 64, rfl, by omega, by omega, ?_⟩   -- 29
      refine ⟨i1, 10 + i0 * 64 + i1 * 8, rfl, by omega, by omega, ?_⟩   -- 30
      refine ⟨⟨by first | omega | (simp <;> omega), by first | omega | (simp <;> omega)⟩, ?_⟩   -- 31 := lda [['.t', 30], 0, 8]
      refine ⟨i1, 2 + i1, rfl, by omega, by omega, ?_⟩   -- 34
      refine ⟨⟨by first | omega | (simp <;> omega), by first | omega | (simp <;> omega)⟩, ?_⟩   -- 35 := ld8 ['.t', 34]
      refine ⟨3, [], _, _, _, _, [_, _, _], rfl, s_l01Add_ok B E.2.1 (k := bz f (2 + i1)) hp (by omega) (by omega) (by omega), rfl, trivial, rfl, rfl, ?_⟩   -- 37
      refine ⟨⟨rfl, by first | omega | (simp <;> omega), by first | omega | (simp <;> omega)⟩, ?_⟩   -- sta ['.t', 4] ['.t', 37] 8
      refine ⟨(fun a3 a6 b0 b1 b2 i2 => St.mk [(1, .one (.pt 0 0)), (3, a3), (4, .one (.pt 1 0)), (5, .one (.pt 2 0)), (6, a6), (7, .one (.i .i64 (cuR i2 f i0 i1))), (8, .one (.i .i64 ((i2 : Nat) : Int)))] [b0, b1, b2]) _ _ _ _ _ , fun i2 => True, n, trivial, ⟨⟨rfl, rfl, rfl, rfl, rfl, rfl, rfl, trivial⟩, ⟨rfl, rfl, rfl, trivial⟩, rfl⟩, fun i2 hi2 _ => ?_⟩
      have q2 := bz2 f f (2 + i2) (10 + i0 * 64 + i1 * 8 + i2)
      have q3 := sm_bd (n := i2) (x := fun k => bz f (2 + k) * bz f (10 + i0 * 64 + i1 * 8 + k)) (A := 65025) fun k _ => bz2 f f _ _
      have q4 : sm i2 (fun k => bz f (2 + k) * bz f (10 + i0 * 64 + i1 * 8 + k)) = cuR i2 f i0 i1 := rfl
      refine ⟨fun h41 => ?_, fun h41 => ?_⟩
      · replace h41 := of_decide_eq_true h41
        refine ⟨i2, 2 + i2, rfl, by omega, by omega, ?_⟩   -- 47
        refine ⟨⟨by first | omega | (simp <;> omega), by first | omega | (simp <;> omega)⟩, ?_⟩   -- 48 := ld8 ['.t', 47]
        refine ⟨i0, 10 + i0 * 64, rfl, by omega, by omega, ?_⟩   -- 54
        refine ⟨i1, 10 + i0 * 64 + i1 * 8, rfl, by omega, by omega, ?_⟩   -- 55
        refine ⟨i2, 10 + i0 * 64 + i1 * 8 + i2, rfl, by omega, by omega, ?_⟩   -- 56
        refine ⟨⟨by first | omega | (simp <;> omega), by first | omega | (simp <;> omega)⟩, ?_⟩   -- 57 := ld8 ['.t', 56]
        refine ⟨bz f (2 + i2) * bz f (10 + i0 * 64 + i1 * 8 + i2), w64_id (bz f (2 + i2) * bz f (10 + i0 * 64 + i1 * 8 + i2)) (by omega) (by omega), ?_⟩
        refine ⟨cuR i2 f i0 i1 + bz f (2 + i2) * bz f (10 + i0 * 64 + i1 * 8 + i2), w64_id (cuR i2 f i0 i1 + bz f (2 + i2) * bz f (10 + i0 * 64 + i1 * 8 + i2)) (by omega) (by omega), ?_⟩
        refine ⟨((i2 + 1 : Nat) : Int), w64_id _ (by omega) (by omega), ?_⟩   -- 43
        exact ⟨by omega, trivial, ⟨rfl, rfl, rfl, rfl, rfl, rfl, rfl, trivial⟩, ⟨rfl, rfl, rfl, trivial⟩, rfl⟩
      · replace h41 := of_decide_eq_false h41
        have e2 : n = i2 := by omega
        subst e2
        refine ⟨3, [], _, _, _, _, [_, _, _], rfl, s_l01Mod_ok B E.2.2.1 hp (by omega), rfl, trivial, rfl, rfl, ?_⟩   -- 65
        refine ⟨i1, i1, rfl, by omega, by omega, ?_⟩   -- 66
        refine ⟨⟨by first | omega | (simp <;> omega), by first | omega | (simp <;> omega)⟩, ?_⟩   -- st8 ['.t', 66] ['.t', 65]
        refine ⟨((i1 + 1 : Nat) : Int), w64_id _ (by omega) (by omega), ?_⟩   -- 22
        refine ⟨by omega, trivial, ⟨rfl, rfl, rfl, rfl, rfl, trivial⟩, ⟨rfl, ?_, ?_, trivial⟩, rfl⟩
        · refine blk_by ?_
          rw [spl_plsN, pl_vec0 hp hp2]
          exact vec_congr fun y _ => cg_of_eq rfl
        · exact blk_by (upd_vec rfl).symm
    · replace h20 := of_decide_eq_false h20
      have e1 : n = i1 := by omega
      subst e1
      refine ⟨⟨by first | omega | (simp <;> omega), by first | omega | (simp <;> omega)⟩, ?_⟩   -- 67 := lda [['.t', 4], 0, 8]
      refine ⟨3, [], _, _, _, _, [_, _, _], rfl, s_l01Basis_ok B E.2.2.2 (i := i0) (by omega), rfl, trivial, rfl, rfl, rfl, ?_⟩   -- 69
      refine ⟨fun h71 => ?_, fun h71 => ?_⟩
      · skip
        have z61 := neB_t h71
        rw [sh_zero] at z61
        refine brB_t ?_
        refine brB_t ?_
        refine brB_t ?_
        refine brB_t ?_
        refine brB_t ?_
        refine ⟨rfl, [], ?_, rfl, trivial, rfl, rfl⟩
        exact one_b (dec_f fun q => z61 fun x _ => congrFun (q i0 (by omega)).1 x)
      · skip
        have z61 := neB_f h71
        rw [sh_zero] at z61
        refine ⟨⟨by first | omega | (simp <;> omega), by first | omega | (simp <;> omega)⟩, ?_⟩   -- 72 := lda [['.t', 5], 0, 8]
        refine brB_f ?_
        refine brB_f ?_
        refine ⟨3, [], _, _, _, _, [_, _, _], rfl, s_l01Basis_ok B E.2.2.2 (i := i0) (by omega), rfl, trivial, rfl, rfl, rfl, ?_⟩   -- 74
        refine brB_f ?_
        refine brB_f ?_
        refine ⟨fun h76 => ?_, fun h76 => ?_⟩
        · skip
          have z66 := neB_t h76
          rw [sh_zero] at z66
          refine ⟨rfl, [], ?_, rfl, trivial, rfl, rfl⟩
          exact one_b (dec_f fun q => z66 fun x _ => congrFun (q i0 (by omega)).2 x)
        · skip
          have z66 := neB_f h76
          rw [sh_zero] at z66
          refine ⟨((i0 + 1 : Nat) : Int), w64_id _ (by omega) (by omega), ?_⟩   -- 14
          refine ⟨by omega, ?_, ⟨rfl, rfl, trivial⟩, ⟨rfl, trivial⟩, rfl⟩
          intro k hk
          by_cases e : k = i0
          · subst e
            refine ⟨vec_ext (bas_out (by omega)) z61, ?_⟩
            funext x
            by_cases hx : x < 8
            · exact z66 x hx
            · rw [vec_out (by omega), bas_out (by omega) x (by omega)]
          · exact hF0 k (by omega)
  · replace h12 := of_decide_eq_false h12
    have e0 : n = i0 := by omega
    subst e0
    refine ⟨rfl, [], ?_, rfl, trivial, rfl, rfl⟩
    exact one_b (dec_t hF0)

theorem s_l02Is_s_ok (B : Bs P ρ) (E : E_s_l02Is P ρ) {n : Int} {p : Int} {f : By} (hS : ¬ CShp p n f) :
    CallOK P ρ 77 [.ag [p, n] 522 f] [] (.one (.b false)) [] := by
  refine call_of_vc B.fn B.mo E.1 rfl rfl ?_
  refine ⟨0, rfl, ?_⟩   -- .box 1
  refine ⟨1, [], _, _, _, _, [_], rfl, s_l02Shape_ok B E.2.1 , rfl, trivial, rfl, rfl, ?_⟩   -- 6
  refine ⟨fun h7 => ?_, fun h7 => ?_⟩
  · skip
    exact ⟨rfl, [], rfl, rfl, trivial, rfl, rfl⟩
  · skip
    exact (hS (dec_elim_t (not_f h7))).elim

theorem s_l02Is_t_ok (B : Bs P ρ) (E : E_s_l02Is P ρ) {n : Nat} {p : Int} {f : By} (hS : CShp p n f) (hA : ∀ t : Nat, t < n * n * n * n → CoaT p n f t) :
    CallOK P ρ 77 [.ag [p, (n : Int)] 522 f] [] (.one (.b (decide (∀ i, i < n → Cou p n f i)))) [] := by
  refine call_of_vc B.fn B.mo E.1 rfl rfl ?_
  have hb := AShp.p1 hS
  refine ⟨0, rfl, ?_⟩   -- .box 1
  refine ⟨1, [], _, _, _, _, [_], rfl, s_l02Shape_ok B E.2.1 , rfl, trivial, rfl, rfl, ?_⟩   -- 6
  refine ⟨fun h7 => ?_, fun h7 => ?_⟩
  · skip
    exact (dec_elim_t' (not_t h7) hS).elim
  · skip
    refine ⟨1, [], _, _, _, _, [_], rfl, s_l02Fault_t_ok B E.2.2.1 (by omega) (by omega) (by omega) hA, rfl, trivial, rfl, rfl, ?_⟩   -- 10
    refine ⟨fun h15 => ?_, fun h15 => ?_⟩
    · skip
      refine brB_t ?_
      refine ⟨1, [], _, _, _, _, [_], rfl, s_l02Counits_ok B E.2.2.2 (by omega) (by omega) (by omega), rfl, trivial, rfl, rfl, ?_⟩   -- 17
      refine brB_t ?_
      exact ⟨rfl, [], rfl, rfl, trivial, rfl, rfl⟩
    · skip
      exact absurd h15 (by decide)

theorem s_l02Is_f_ok (B : Bs P ρ) (E : E_s_l02Is P ρ) {n : Nat} {p : Int} {f : By} {a : Nat} (hS : CShp p n f) (ha : a < n * n * n * n) (hA : ¬ CoaT p n f a) (hL : ∀ t, t < a → CoaT p n f t) :
    CallOK P ρ 77 [.ag [p, (n : Int)] 522 f] [] (.one (.b false)) [] := by
  refine call_of_vc B.fn B.mo E.1 rfl rfl ?_
  have hb := AShp.p1 hS
  refine ⟨0, rfl, ?_⟩   -- .box 1
  refine ⟨1, [], _, _, _, _, [_], rfl, s_l02Shape_ok B E.2.1 , rfl, trivial, rfl, rfl, ?_⟩   -- 6
  refine ⟨fun h7 => ?_, fun h7 => ?_⟩
  · skip
    exact (dec_elim_t' (not_t h7) hS).elim
  · skip
    refine ⟨1, [], _, _, _, _, [_, _], rfl, s_l02Fault_f_ok B E.2.2.1 (by omega) (by omega) (by omega) ha hA hL, rfl, trivial, rfl, rfl, ?_⟩   -- 10
    refine ⟨fun h15 => ?_, fun h15 => ?_⟩
    · skip
      exact absurd h15 (by decide)
    · skip
      refine brB_f ?_
      refine brB_f ?_
      exact ⟨rfl, [], rfl, rfl, trivial, rfl, rfl⟩

theorem s_l02Is_ok (B : Bs P ρ) (E : E_s_l02Is P ρ) {n : Int} {p : Int} {f : By} :
    CallOK P ρ 77 [.ag [p, n] 522 f] [] (.one (.b (decide (Cog p n f)))) [] := by
  by_cases hS : CShp p n f
  · obtain ⟨m, rfl⟩ : ∃ m : Nat, n = (m : Int) := ⟨n.toNat, by have := hS.1.2.1; omega⟩
    by_cases hA : ∀ t : Nat, t < m * m * m * m → CoaT p m f t
    · have e : decide (Cog p m f) = decide (∀ i, i < m → Cou p m f i) :=
        decide_eq_decide.2 ⟨fun q i hi => q.2.1 i (by omega), fun q => ⟨hS, fun i hi => q i (by omega), hA⟩⟩
      rw [e]; exact s_l02Is_t_ok B E hS hA
    · rw [decide_eq_false fun q : Cog p m f => hA q.2.2]
      obtain ⟨a, ⟨h1, h2⟩, h3⟩ := least (q := fun t => t < m * m * m * m ∧ ¬ CoaT p m f t) (by
        simp only [Classical.not_forall] at hA
        obtain ⟨t, ht, h⟩ := hA
        exact ⟨t, ht, h⟩)
      exact s_l02Is_f_ok B E hS h1 h2 fun t ht => Classical.byContradiction fun q => h3 t ht ⟨by omega, q⟩
  · rw [decide_eq_false fun q : Cog p n f => hS q.1]
    exact s_l02Is_s_ok B E hS
end Hf
namespace Hf
open Go Classical
variable {P : Program} {ρ : Nat → FuncId}
theorem bz_own {f g : By} {y : Nat} (h : y < 8) : bz (sh (spl f 0 8 g) 0) y = bz g y := by
  rw [sh_zero]; simp only [bz, spl]; rw [if_pos (by omega)]; rfl
theorem ctu_bd {n : Nat} {f v : By} : 0 ≤ ctu n f v ∧ ctu n f v ≤ n * 65025 := sm_bd fun k _ => bz2 f v _ _

theorem s_l01Zero_ok (B : Bs P ρ) (E : E_s_l01Zero P ρ) {v : By} :
    CallOK P ρ 101 [.ag [] 8 v] [] (.one (.b (eqB 8 v fun _ => 0))) [] := by
  refine call_of_vc B.fn B.mo E rfl rfl ?_
  refine ⟨0, rfl, ?_⟩   -- .box 1
  refine ⟨⟨by first | omega | (simp <;> omega), by first | omega | (simp <;> omega)⟩, ?_⟩   -- 3 := lda [['.t', 1], 0, 8]
  exact ⟨rfl, [], rfl, rfl, trivial, rfl, rfl⟩

theorem s_l03Coproduct_ok (B : Bs P ρ) (E : E_s_l03Coproduct P ρ) {n : Nat} {p : Int} {f v : By} (hp : 1 ≤ p) (hp2 : p ≤ 256) (hn : n ≤ 8) :
    CallOK P ρ 54 [.ag [p, (n : Int)] 1106 f, .ag [] 8 v] [] (.one (.ag [] 64 (vec 64 p (cop n f 530 v)))) [] := by
  refine call_of_vc B.fn B.mo E.1 rfl rfl ?_
  refine ⟨0, rfl, ?_⟩   -- .box 2
  refine ⟨1, rfl, ?_⟩   -- .box 3
  refine ⟨2, rfl, ?_⟩   -- .alo 4
  refine ⟨3, rfl, ?_⟩   -- .alo 5
  refine ⟨⟨rfl, by first | omega | (simp <;> omega), by first | omega | (simp <;> omega)⟩, ?_⟩   -- sta ['.t', 5] ['.t', 8] 64
  refine ⟨(fun b0 b1 b2 i0 => St.mk [(2, .one (.pt 0 0)), (3, .one (.pt 1 0)), (4, .one (.pt 2 0)), (5, .one (.pt 3 0)), (6, .one (.i .i64 ((i0 : Nat) : Int)))] [b0, b1, b2, Blk.mk false (.by [] 64 (vec 64 p fun y => if y / 8 < n then sm i0 fun i => bz v i * bz f (530 + i * 64 + y) else 0))]) _ _ _ , fun i0 => True, n, trivial, ⟨⟨rfl, rfl, rfl, rfl, rfl, trivial⟩, ⟨rfl, rfl, rfl, ?_, trivial⟩, rfl⟩, fun i0 hi0 _ => ?_⟩
  · refine blk_by ?_
    rw [z_sta]
    exact vec_zero fun k hk => by simp [sm]
  have q0 := bz_nn v i0
  have q1 := bz_le v i0
  refine ⟨fun h12 => ?_, fun h12 => ?_⟩
  · replace h12 := of_decide_eq_true h12
    refine ⟨(fun a6 b0 b1 b2 i1 => St.mk [(2, .one (.pt 0 0)), (3, .one (.pt 1 0)), (4, .one (.pt 2 0)), (5, .one (.pt 3 0)), (6, a6), (7, .one (.i .i64 ((i1 : Nat) : Int)))] [b0, b1, b2, Blk.mk false (.by [] 64 (vec 64 p fun y => (if y / 8 < n then sm i0 fun i => bz v i * bz f (530 + i * 64 + y) else 0) + if y / 8 < i1 then bz v i0 * bz f (530 + i0 * 64 + y) else 0))]) _ _ _ _ , fun i1 => True, n, trivial, ⟨⟨rfl, rfl, rfl, rfl, rfl, rfl, trivial⟩, ⟨rfl, rfl, rfl, ?_, trivial⟩, rfl⟩, fun i1 hi1 _ => ?_⟩
    · refine blk_by (vec_congr fun y _ => cg_of_eq ?_)
      simp
    refine ⟨fun h19 => ?_, fun h19 => ?_⟩
    · replace h19 := of_decide_eq_true h19
      refine brB_t ?_
      refine ⟨i0, i0, rfl, by omega, by omega, ?_⟩   -- 21
      refine brB_t ?_
      refine ⟨⟨by first | omega | (simp <;> omega), by first | omega | (simp <;> omega)⟩, ?_⟩   -- 22 := ld8 ['.t', 21]
      refine brB_t ?_
      refine brB_t ?_
      refine ⟨fun h24 => ?_, fun h24 => ?_⟩
      · replace h24 := bne_t h24
        refine ⟨i1, i1 * 8, rfl, by omega, by omega, ?_⟩   -- 31
        refine ⟨⟨by first | omega | (simp <;> omega), by first | omega | (simp <;> omega)⟩, ?_⟩   -- 32 := lda [['.t', 31], 0, 8]
        refine ⟨i0, 530 + i0 * 64, rfl, by omega, by omega, ?_⟩   -- 36
        refine ⟨i1, 530 + i0 * 64 + i1 * 8, rfl, by omega, by omega, ?_⟩   -- 37
        refine ⟨⟨by first | omega | (simp <;> omega), by first | omega | (simp <;> omega)⟩, ?_⟩   -- 38 := lda [['.t', 37], 0, 8]
        refine ⟨i0, i0, rfl, by omega, by omega, ?_⟩   -- 40
        refine ⟨⟨by first | omega | (simp <;> omega), by first | omega | (simp <;> omega)⟩, ?_⟩   -- 41 := ld8 ['.t', 40]
        refine ⟨4, [], _, _, _, _, [_, _, _, _], rfl, s_l01Add_ok B E.2 (k := bz v i0) hp (by omega) (by omega) (by omega), rfl, trivial, rfl, rfl, rfl, ?_⟩   -- 43
        refine ⟨i1, i1 * 8, rfl, by omega, by omega, ?_⟩   -- 44
        refine ⟨⟨rfl, by first | omega | (simp <;> omega), by first | omega | (simp <;> omega)⟩, ?_⟩   -- sta ['.t', 44] ['.t', 43] 8
        refine ⟨((i1 + 1 : Nat) : Int), w64_id _ (by omega) (by omega), ?_⟩   -- 26
        refine ⟨by omega, trivial, ⟨rfl, rfl, rfl, rfl, rfl, rfl, trivial⟩, ⟨rfl, rfl, rfl, ?_, trivial⟩, rfl⟩
        refine blk_by ?_
        rw [spl_plsN, pl_vec hp hp2 (by omega)]
        refine vec_congr fun y hy => cg_of_eq ?_
        rw [Int.add_assoc]
        congr 1
        by_cases e1 : i1 * 8 ≤ y ∧ y < i1 * 8 + 8
        · rw [if_pos (by omega), if_neg (by omega), if_pos e1, bz_sh, Int.zero_add, show 530 + i0 * 64 + i1 * 8 + (y - i1 * 8) = 530 + i0 * 64 + y by omega]
        · rw [if_neg e1, Int.add_zero]
          by_cases e2 : y / 8 < i1
          · rw [if_pos (by omega), if_pos e2]
          · rw [if_neg (by omega), if_neg e2]
      · replace h24 := bne_f h24
        refine ⟨((i0 + 1 : Nat) : Int), w64_id _ (by omega) (by omega), ?_⟩   -- 14
        refine ⟨by omega, trivial, ⟨rfl, rfl, rfl, rfl, rfl, trivial⟩, ⟨rfl, rfl, rfl, ?_, trivial⟩, rfl⟩
        refine blk_by (vec_congr fun y hy => cg_of_eq ?_)
        simp only [z0_of h24, Int.zero_mul, sm, Int.add_zero, ite_self]
    · replace h19 := of_decide_eq_false h19
      have e1 : n = i1 := by omega
      subst e1
      refine brB_f ?_
      refine brB_f ?_
      refine brB_f ?_
      refine brB_f ?_
      refine brB_f ?_
      refine ⟨((i0 + 1 : Nat) : Int), w64_id _ (by omega) (by omega), ?_⟩   -- 14
      refine ⟨by omega, trivial, ⟨rfl, rfl, rfl, rfl, rfl, trivial⟩, ⟨rfl, rfl, rfl, ?_, trivial⟩, rfl⟩
      refine blk_by (vec_congr fun y hy => cg_of_eq ?_)
      by_cases e1 : y / 8 < n
      · rw [if_pos e1, if_pos e1, if_pos e1]; rfl
      · rw [if_neg e1, if_neg e1, if_neg e1]; rfl
  · replace h12 := of_decide_eq_false h12
    have e0 : n = i0 := by omega
    subst e0
    refine ⟨⟨by first | omega | (simp <;> omega), by first | omega | (simp <;> omega)⟩, ?_⟩   -- 45 := lda [['.t', 5], 0, 64]
    refine ⟨⟨rfl, by first | omega | (simp <;> omega), by first | omega | (simp <;> omega)⟩, ?_⟩   -- sta ['.t', 4] ['.t', 45] 64
    refine ⟨rfl, ⟨by first | omega | (simp <;> omega), by first | omega | (simp <;> omega)⟩, [], ?_, rfl, trivial, rfl, rfl⟩
    exact one_ag (out_vec.trans rfl)

theorem s_l03Counit_ok (B : Bs P ρ) (E : E_s_l03Counit P ρ) {n : Nat} {p : Int} {f v : By} (hp : 1 ≤ p) (hp2 : p ≤ 256) (hn : n ≤ 8) :
    CallOK P ρ 79 [.ag [p, (n : Int)] 1106 f, .ag [] 8 v] [] (.one (.i .i64 (ctu n f v % p))) [] := by
  refine call_of_vc B.fn B.mo E rfl rfl ?_
  refine ⟨0, rfl, ?_⟩   -- .box 2
  refine ⟨1, rfl, ?_⟩   -- .box 3
  refine ⟨(fun b0 b1 i0 => St.mk [(2, .one (.pt 0 0)), (3, .one (.pt 1 0)), (5, .one (.i .i64 (ctu i0 f v))), (6, .one (.i .i64 ((i0 : Nat) : Int)))] [b0, b1]) _ _ , fun i0 => True, n, trivial, ⟨⟨rfl, rfl, rfl, rfl, trivial⟩, ⟨rfl, rfl, trivial⟩, rfl⟩, fun i0 hi0 _ => ?_⟩
  have q1 := bz2 v f i0 (522 + i0)
  have q2 := ctu_bd (n := i0) (f := f) (v := v)
  refine ⟨fun h10 => ?_, fun h10 => ?_⟩
  · replace h10 := of_decide_eq_true h10
    refine ⟨i0, i0, rfl, by omega, by omega, ?_⟩   -- 15
    refine ⟨⟨by first | omega | (simp <;> omega), by first | omega | (simp <;> omega)⟩, ?_⟩   -- 16 := ld8 ['.t', 15]
    refine ⟨i0, 522 + i0, rfl, by omega, by omega, ?_⟩   -- 20
    refine ⟨⟨by first | omega | (simp <;> omega), by first | omega | (simp <;> omega)⟩, ?_⟩   -- 21 := ld8 ['.t', 20]
    refine ⟨bz v i0 * bz f (522 + i0), w64_id (bz v i0 * bz f (522 + i0)) (by omega) (by omega), ?_⟩
    refine ⟨ctu (i0 + 1) f v, ?_, ?_⟩
    · show w64 (ctu i0 f v + bz v i0 * bz f (522 + i0)) = ctu i0 f v + bz f (522 + i0) * bz v i0
      rw [Int.mul_comm (bz f (522 + i0))]
      exact w64_id _ (by omega) (by omega)
    refine ⟨((i0 + 1 : Nat) : Int), w64_id _ (by omega) (by omega), ?_⟩   -- 12
    exact ⟨by omega, trivial, ⟨rfl, rfl, rfl, rfl, trivial⟩, ⟨rfl, rfl, trivial⟩, rfl⟩
  · replace h10 := of_decide_eq_false h10
    have e0 : n = i0 := by omega
    subst e0
    refine ⟨by omega, ctu n f v % p, Int.tmod_eq_emod_of_nonneg ctu_bd.1, ?_⟩
    exact ⟨rfl, [], rfl, rfl, trivial, rfl, rfl⟩

/-- one share of a product of tables -/
def tr (n : Nat) (f fa fb : By) (a b z : Nat) : Int := mu f a b (z / 8) * prd n f 10 (sh fa (a * 8)) (sh fb (b * 8)) (z % 8)
def trs (n : Nat) (f fa fb : By) (z : Nat) : Int := sm n fun a => sm n fun b => tr n f fa fb a b z
theorem trs_eq {n : Nat} {f fa fb : By} {oa ob z : Nat} : trs n f (sh fa oa) (sh fb ob) z = tns n f fa fb oa ob z := by
  simp only [trs, tr, tns, sh_sh]
theorem row0 {p k : Int} {X : Nat → Int} (hp : 1 ≤ p) (hp2 : p ≤ 256) (h : ∀ x, x < 8 → vec 8 p X x = 0) {y : Nat} (hy : y < 8) : cg p (k * X y) 0 := by
  have h1 := cg_vec (N := 8) (x := X) hp hp2 hy
  have h2 : bz (vec 8 p X) y = 0 := z0_of (h y hy)
  rw [h2] at h1
  exact (cg_mul rfl h1.symm).trans (cg_of_eq (Int.mul_zero k))

theorem s_l03Pairs_ok (B : Bs P ρ) (E : E_s_l03Pairs P ρ) {n : Nat} {p : Int} {f fa fb : By} (h : HShp p n f) (hp : 1 ≤ p) (hp2 : p ≤ 256) (hn : n ≤ 8) :
    CallOK P ρ 78 [.ag [p, (n : Int)] 1106 f, .ag [] 64 fa, .ag [] 64 fb] [] (.one (.ag [] 64 (vec 64 p (trs n f fa fb)))) [] := by
  refine call_of_vc B.fn B.mo E.1 rfl rfl ?_
  refine ⟨0, rfl, ?_⟩   -- .box 3
  refine ⟨1, rfl, ?_⟩   -- .box 4
  refine ⟨2, rfl, ?_⟩   -- .box 5
  refine ⟨3, rfl, ?_⟩   -- .alo 6
  refine ⟨4, rfl, ?_⟩   -- .new 9
  refine ⟨⟨rfl, by first | omega | (simp <;> omega), by first | omega | (simp <;> omega)⟩, ?_⟩   -- sta ['.t', 9] ['.t', 19] 64
  refine ⟨(fun a7 a8 b0 b1 b2 b3 i0 => St.mk [(3, .one (.pt 0 0)), (4, .one (.pt 1 0)), (5, .one (.pt 2 0)), (6, .one (.pt 3 0)), (7, a7), (8, a8), (9, .one (.pt 4 0)), (10, .one (.i .i64 ((i0 : Nat) : Int)))] [b0, b1, b2, b3, Blk.mk false (.by [] 64 (vec 64 p fun z => sm i0 fun a => sm n fun b => tr n f fa fb a b z))]) _ _ _ _ _ _ , fun i0 => True, n, trivial, ⟨⟨rfl, rfl, rfl, rfl, rfl, rfl, rfl, rfl, trivial⟩, ⟨rfl, rfl, rfl, rfl, ?_, trivial⟩, rfl⟩, fun i0 hi0 _ => ?_⟩
  · refine blk_by ?_
    rw [z_sta]
    exact vec_zero fun k hk => rfl
  refine ⟨fun h22 => ?_, fun h22 => ?_⟩
  · replace h22 := of_decide_eq_true h22
    refine ⟨(fun a7 a8 a10 b0 b1 b2 b3 i1 => St.mk [(3, .one (.pt 0 0)), (4, .one (.pt 1 0)), (5, .one (.pt 2 0)), (6, .one (.pt 3 0)), (7, a7), (8, a8), (9, .one (.pt 4 0)), (10, a10), (11, .one (.i .i64 ((i1 : Nat) : Int)))] [b0, b1, b2, b3, Blk.mk false (.by [] 64 (vec 64 p fun z => sm i0 (fun a => sm n fun b => tr n f fa fb a b z) + sm i1 fun b => tr n f fa fb i0 b z))]) _ _ _ _ _ _ _ , fun i1 => True, n, trivial, ⟨⟨rfl, rfl, rfl, rfl, rfl, rfl, rfl, rfl, rfl, trivial⟩, ⟨rfl, rfl, rfl, rfl, ?_, trivial⟩, rfl⟩, fun i1 hi1 _ => ?_⟩
    · refine blk_by (vec_congr fun y _ => cg_of_eq ?_)
      simp only [sm, Int.add_zero]
    refine ⟨fun h27 => ?_, fun h27 => ?_⟩
    · replace h27 := of_decide_eq_true h27
      refine ⟨5, [], _, _, _, _, [_, _, _, _, _], rfl, s_l03Algebra_ok B E.2.1 , rfl, trivial, rfl, rfl, rfl, ?_⟩   -- 31
      refine ⟨i0, i0 * 8, rfl, by omega, by omega, ?_⟩   -- 33
      refine ⟨⟨by first | omega | (simp <;> omega), by first | omega | (simp <;> omega)⟩, ?_⟩   -- 34 := lda [['.t', 33], 0, 8]
      refine ⟨i1, i1 * 8, rfl, by omega, by omega, ?_⟩   -- 36
      refine ⟨⟨by first | omega | (simp <;> omega), by first | omega | (simp <;> omega)⟩, ?_⟩   -- 37 := lda [['.t', 36], 0, 8]
      refine ⟨5, [], _, _, _, _, [_, _, _, _, _], rfl, s_l01Times_ok B E.2.2.1 hp hp2 hn, rfl, trivial, rfl, rfl, rfl, ?_⟩   -- 38
      refine ⟨5, rfl, ?_⟩   -- .new 12
      refine ⟨⟨rfl, by first | omega | (simp <;> omega), by first | omega | (simp <;> omega)⟩, ?_⟩   -- sta ['.t', 12] ['.t', 38] 8
      refine ⟨⟨by first | omega | (simp <;> omega), by first | omega | (simp <;> omega)⟩, ?_⟩   -- 39 := lda [['.t', 12], 0, 8]
      refine ⟨6, [], _, _, _, _, [_, _, _, _, _, _], rfl, s_l01Zero_ok B E.2.2.2.1 , rfl, trivial, rfl, rfl, ?_⟩   -- 40
      refine ⟨fun h40 => ?_, fun h40 => ?_⟩
      · skip
        have z40 := eqB_iff.1 h40
        refine ⟨((i1 + 1 : Nat) : Int), w64_id _ (by omega) (by omega), ?_⟩   -- 29
        refine ⟨by omega, trivial, ⟨rfl, rfl, rfl, rfl, rfl, rfl, rfl, rfl, rfl, trivial⟩, ⟨rfl, rfl, rfl, rfl, ?_, trivial⟩, rfl⟩
        refine blk_by (vec_congr fun z hz => cg_add rfl ?_)
        refine cg.symm ((cg_of_eq (Int.add_zero _).symm).trans (cg_add rfl (row0 hp hp2 (fun x hx => ?_) (Nat.mod_lt _ (by omega))).symm))
        have := z40 x hx
        rw [sh_zero, z_spl _ _ (fun _ h => vec_out h)] at this
        exact this
      · skip
        refine ⟨(fun a7 a8 a10 a11 b0 b1 b2 b3 i2 => St.mk [(3, .one (.pt 0 0)), (4, .one (.pt 1 0)), (5, .one (.pt 2 0)), (6, .one (.pt 3 0)), (7, a7), (8, a8), (9, .one (.pt 4 0)), (10, a10), (11, a11), (12, .one (.pt 5 0)), (13, .one (.i .i64 ((i2 : Nat) : Int)))] [b0, b1, b2, b3, Blk.mk false (.by [] 64 (vec 64 p fun z => (sm i0 (fun a => sm n fun b => tr n f fa fb a b z) + sm i1 fun b => tr n f fa fb i0 b z) + if z / 8 < i2 then tr n f fa fb i0 i1 z else 0)), Blk.mk false (.by [] 8 (vec 8 p (prd n f 10 (sh fa (i0 * 8)) (sh fb (i1 * 8)))))]) _ _ _ _ _ _ _ _ , fun i2 => True, n, trivial, ⟨⟨rfl, rfl, rfl, rfl, rfl, rfl, rfl, rfl, rfl, rfl, rfl, trivial⟩, ⟨rfl, rfl, rfl, rfl, ?_, ?_, trivial⟩, rfl⟩, fun i2 hi2 _ => ?_⟩
        · refine blk_by (vec_congr fun y _ => cg_of_eq ?_)
          simp
        · exact blk_by (z_spl _ _ fun _ h => vec_out h).symm
        have q0 := bz_nn f (10 + i0 * 64 + i1 * 8 + i2)
        have q1 := bz_le f (10 + i0 * 64 + i1 * 8 + i2)
        refine ⟨fun h43 => ?_, fun h43 => ?_⟩
        · replace h43 := of_decide_eq_true h43
          refine ⟨i0, 10 + i0 * 64, rfl, by omega, by omega, ?_⟩   -- 50
          refine ⟨i1, 10 + i0 * 64 + i1 * 8, rfl, by omega, by omega, ?_⟩   -- 51
          refine ⟨i2, 10 + i0 * 64 + i1 * 8 + i2, rfl, by omega, by omega, ?_⟩   -- 52
          refine ⟨⟨by first | omega | (simp <;> omega), by first | omega | (simp <;> omega)⟩, ?_⟩   -- 53 := ld8 ['.t', 52]
          refine ⟨fun h55 => ?_, fun h55 => ?_⟩
          · replace h55 := bne_t h55
            refine ⟨i2, i2 * 8, rfl, by omega, by omega, ?_⟩   -- 59
            refine ⟨⟨by first | omega | (simp <;> omega), by first | omega | (simp <;> omega)⟩, ?_⟩   -- 60 := lda [['.t', 59], 0, 8]
            refine ⟨⟨by first | omega | (simp <;> omega), by first | omega | (simp <;> omega)⟩, ?_⟩   -- 61 := lda [['.t', 12], 0, 8]
            refine ⟨6, [], _, _, _, _, [_, _, _, _, _, _], rfl, s_l01Add_ok B E.2.2.2.2 (k := bz f (10 + i0 * 64 + i1 * 8 + i2)) hp (by omega) (by omega) (by omega), rfl, trivial, rfl, rfl, rfl, ?_⟩   -- 64
            refine ⟨i2, i2 * 8, rfl, by omega, by omega, ?_⟩   -- 65
            refine ⟨⟨rfl, by first | omega | (simp <;> omega), by first | omega | (simp <;> omega)⟩, ?_⟩   -- sta ['.t', 65] ['.t', 64] 8
            refine ⟨((i2 + 1 : Nat) : Int), w64_id _ (by omega) (by omega), ?_⟩   -- 45
            refine ⟨by omega, trivial, ⟨rfl, rfl, rfl, rfl, rfl, rfl, rfl, rfl, rfl, rfl, rfl, trivial⟩, ⟨rfl, rfl, rfl, rfl, ?_, rfl, trivial⟩, rfl⟩
            refine blk_by ?_
            rw [spl_plsN, pl_vec hp hp2 (by omega)]
            refine vec_congr fun z hz => cg.trans (cg_add rfl ?_) (cg_of_eq (Int.add_assoc _ _ _).symm)
            by_cases e1 : i2 * 8 ≤ z ∧ z < i2 * 8 + 8
            · rw [if_pos (by omega), if_neg (by omega), if_pos e1, Int.zero_add, sh_zero, show z - i2 * 8 = z % 8 by omega]
              have e2 : z / 8 = i2 := by omega
              unfold tr mu
              rw [e2]
              exact (cg_mul rfl (cg_vec hp hp2 (Nat.mod_lt _ (by omega)))).symm
            · rw [if_neg e1, Int.add_zero]
              by_cases e2 : z / 8 < i2
              · rw [if_pos (by omega), if_pos e2]; rfl
              · rw [if_neg (by omega), if_neg e2]; rfl
          · replace h55 := bne_f h55
            refine ⟨((i2 + 1 : Nat) : Int), w64_id _ (by omega) (by omega), ?_⟩   -- 45
            refine ⟨by omega, trivial, ⟨rfl, rfl, rfl, rfl, rfl, rfl, rfl, rfl, rfl, rfl, rfl, trivial⟩, ⟨rfl, rfl, rfl, rfl, ?_, rfl, trivial⟩, rfl⟩
            refine blk_by (vec_congr fun z hz => cg_add rfl (cg_of_eq ?_))
            by_cases e1 : z / 8 = i2
            · rw [if_pos (by omega), if_neg (by omega)]
              unfold tr mu
              rw [e1, z0_of h55, Int.zero_mul]
            · by_cases e2 : z / 8 < i2
              · rw [if_pos (by omega), if_pos e2]
              · rw [if_neg (by omega), if_neg e2]
        · replace h43 := of_decide_eq_false h43
          have e2 : n = i2 := by omega
          subst e2
          refine ⟨((i1 + 1 : Nat) : Int), w64_id _ (by omega) (by omega), ?_⟩   -- 29
          refine ⟨by omega, trivial, ⟨rfl, rfl, rfl, rfl, rfl, rfl, rfl, rfl, rfl, trivial⟩, ⟨rfl, rfl, rfl, rfl, ?_, trivial⟩, rfl⟩
          refine blk_by (vec_congr fun z hz => cg_of_eq ?_)
          have e0 : (if z / 8 < n then tr n f fa fb i0 i1 z else 0) = tr n f fa fb i0 i1 z := by
            by_cases e : z / 8 < n
            · rw [if_pos e]
            · rw [if_neg e]
              unfold tr mu
              rw [h.mul (by omega) (by omega) (by omega) (.inr (.inr (by omega))), Int.zero_mul]
          rw [e0, Int.add_assoc]
          rfl
    · replace h27 := of_decide_eq_false h27
      have e1 : n = i1 := by omega
      subst e1
      refine ⟨((i0 + 1 : Nat) : Int), w64_id _ (by omega) (by omega), ?_⟩   -- 24
      exact ⟨by omega, trivial, ⟨rfl, rfl, rfl, rfl, rfl, rfl, rfl, rfl, trivial⟩, ⟨rfl, rfl, rfl, rfl, rfl, trivial⟩, rfl⟩
  · replace h22 := of_decide_eq_false h22
    have e0 : n = i0 := by omega
    subst e0
    refine ⟨⟨by first | omega | (simp <;> omega), by first | omega | (simp <;> omega)⟩, ?_⟩   -- 66 := lda [['.t', 9], 0, 64]
    refine ⟨⟨rfl, by first | omega | (simp <;> omega), by first | omega | (simp <;> omega)⟩, ?_⟩   -- sta ['.t', 6] ['.t', 66] 64
    refine ⟨rfl, ⟨by first | omega | (simp <;> omega), by first | omega | (simp <;> omega)⟩, [], ?_, rfl, trivial, rfl, rfl⟩
    exact one_ag (out_vec.trans rfl)

def prT (n : Nat) (f s : By) (b : Bool) (j k : Nat) : Nat → Int := if b = true then prd n f 10 (bas j) (sh s (k * 8)) else prd n f 10 (sh s (j * 8)) (bas k)
def fldT (n : Nat) (f s : By) (b : Bool) (i y : Nat) : Int := sm n fun j => sm n fun k => bz f (530 + i * 64 + j * 8 + k) * prT n f s b j k y
def AxT (p : Int) (n : Nat) (f s : By) (b : Bool) (i : Nat) : Prop := vec 8 p (fldT n f s b i) = vec 8 p fun y => bz f (522 + i) * bz f (2 + y)
theorem AxT_eq {p : Int} {n : Nat} {f : By} {b : Bool} {i : Nat} : AxT p n f (sh f 1042) b i ↔ AxS p n f (!b) i := by
  have : fldT n f (sh f 1042) b i = fld n f (!b) i := by
    funext y
    simp only [fldT, fld, prT, prS, sh_sh]
    cases b <;> rfl
  unfold AxT AxS
  rw [this]

theorem s_l03Folded_ok (B : Bs P ρ) (E : E_s_l03Folded P ρ) {n i : Nat} {p : Int} {f s : By} {b : Bool} (hp : 1 ≤ p) (hp2 : p ≤ 256) (hn : n ≤ 8) (hi : i < 8) :
    CallOK P ρ 80 [.ag [p, (n : Int)] 1106 f, .i .i64 (i : Int), .ag [] 64 s, .b b] [] (.one (.ag [] 8 (vec 8 p (fldT n f s b i)))) [] := by
  refine call_of_vc B.fn B.mo E.1 rfl rfl ?_
  refine ⟨0, rfl, ?_⟩   -- .box 4
  refine ⟨1, rfl, ?_⟩   -- .box 6
  refine ⟨2, rfl, ?_⟩   -- .alo 8
  refine ⟨3, [], _, _, _, _, [_, _, _], rfl, s_l03Algebra_ok B E.2.1 , rfl, trivial, rfl, rfl, ?_⟩   -- 17
  refine ⟨3, rfl, ?_⟩   -- .alo 9
  refine ⟨4, rfl, ?_⟩   -- .alo 10
  refine ⟨⟨rfl, by first | omega | (simp <;> omega), by first | omega | (simp <;> omega)⟩, ?_⟩   -- sta ['.t', 9] ['.t', 15] 8
  refine ⟨(fun a1 a3 b0 b1 b2 i0 => St.mk [(1, a1), (3, a3), (4, .one (.pt 0 0)), (6, .one (.pt 1 0)), (8, .one (.pt 2 0)), (9, .one (.pt 3 0)), (10, .one (.pt 4 0)), (11, .one (.i .i64 ((i0 : Nat) : Int)))] [b0, b1, b2, Blk.mk false (.by [] 8 (vec 8 p fun y => sm i0 fun j => sm n fun k => bz f (530 + i * 64 + j * 8 + k) * prT n f s b j k y)), Blk.mk false (.by [p, (n : Int)] 522 f)]) _ _ _ _ _ , fun i0 => True, n, trivial, ⟨⟨rfl, rfl, rfl, rfl, rfl, rfl, rfl, rfl, trivial⟩, ⟨rfl, rfl, rfl, ?_, rfl, trivial⟩, rfl⟩, fun i0 hi0 _ => ?_⟩
  · refine blk_by ?_
    rw [z_sta]
    exact vec_0.symm
  refine ⟨fun h21 => ?_, fun h21 => ?_⟩
  · replace h21 := of_decide_eq_true h21
    refine ⟨(fun a1 a3 a11 b0 b1 b2 b4 i1 => St.mk [(1, a1), (3, a3), (4, .one (.pt 0 0)), (6, .one (.pt 1 0)), (8, .one (.pt 2 0)), (9, .one (.pt 3 0)), (10, .one (.pt 4 0)), (11, a11), (12, .one (.i .i64 ((i1 : Nat) : Int)))] [b0, b1, b2, Blk.mk false (.by [] 8 (vec 8 p fun y => sm i0 (fun j => sm n fun k => bz f (530 + i * 64 + j * 8 + k) * prT n f s b j k y) + sm i1 fun k => bz f (530 + i * 64 + i0 * 8 + k) * prT n f s b i0 k y)), b4]) _ _ _ _ _ _ _ , fun i1 => True, n, trivial, ⟨⟨rfl, rfl, rfl, rfl, rfl, rfl, rfl, rfl, rfl, trivial⟩, ⟨rfl, rfl, rfl, ?_, rfl, trivial⟩, rfl⟩, fun i1 hi1 _ => ?_⟩
    · refine blk_by (vec_congr fun y _ => cg_of_eq ?_)
      simp only [sm, Int.add_zero]
    have q0 := bz_nn f (530 + i * 64 + i0 * 8 + i1)
    have q1 := bz_le f (530 + i * 64 + i0 * 8 + i1)
    refine ⟨fun h27 => ?_, fun h27 => ?_⟩
    · replace h27 := of_decide_eq_true h27
      refine ⟨i, 530 + i * 64, rfl, by omega, by omega, ?_⟩   -- 34
      refine ⟨i0, 530 + i * 64 + i0 * 8, rfl, by omega, by omega, ?_⟩   -- 35
      refine ⟨i1, 530 + i * 64 + i0 * 8 + i1, rfl, by omega, by omega, ?_⟩   -- 36
      refine ⟨⟨by first | omega | (simp <;> omega), by first | omega | (simp <;> omega)⟩, ?_⟩   -- 37 := ld8 ['.t', 36]
      refine ⟨fun h40 => ?_, fun h40 => ?_⟩
      · replace h40 := bne_t h40
        refine ⟨i0, i0 * 8, rfl, by omega, by omega, ?_⟩   -- 43
        refine ⟨⟨by first | omega | (simp <;> omega), by first | omega | (simp <;> omega)⟩, ?_⟩   -- 44 := lda [['.t', 43], 0, 8]
        refine ⟨5, [], _, _, _, _, [_, _, _, _, _], rfl, s_l01Basis_ok B E.2.2.1 (i := i1) (by omega), rfl, trivial, rfl, rfl, rfl, ?_⟩   -- 46
        refine ⟨5, [], _, _, _, _, [_, _, _, _, _], rfl, s_l01Times_ok B E.2.2.2.1 hp hp2 hn, rfl, trivial, rfl, rfl, rfl, ?_⟩   -- 47
        refine ⟨5, rfl, ?_⟩   -- .new 14
        refine ⟨⟨rfl, by first | omega | (simp <;> omega), by first | omega | (simp <;> omega)⟩, ?_⟩   -- sta ['.t', 14] ['.t', 47] 8
        refine ⟨fun h48 => ?_, fun h48 => ?_⟩
        · skip
          refine ⟨6, [], _, _, _, _, [_, _, _, _, _, _], rfl, s_l01Basis_ok B E.2.2.1 (i := i0) (by omega), rfl, trivial, rfl, rfl, rfl, ?_⟩   -- 51
          refine ⟨i1, i1 * 8, rfl, by omega, by omega, ?_⟩   -- 53
          refine ⟨⟨by first | omega | (simp <;> omega), by first | omega | (simp <;> omega)⟩, ?_⟩   -- 54 := lda [['.t', 53], 0, 8]
          refine ⟨6, [], _, _, _, _, [_, _, _, _, _, _], rfl, s_l01Times_ok B E.2.2.2.1 hp hp2 hn, rfl, trivial, rfl, rfl, ?_⟩   -- 55
          refine ⟨⟨rfl, by first | omega | (simp <;> omega), by first | omega | (simp <;> omega)⟩, ?_⟩   -- sta ['.t', 14] ['.t', 55] 8
          refine ⟨⟨by first | omega | (simp <;> omega), by first | omega | (simp <;> omega)⟩, ?_⟩   -- 58 := lda [['.t', 9], 0, 8]
          refine ⟨⟨by first | omega | (simp <;> omega), by first | omega | (simp <;> omega)⟩, ?_⟩   -- 59 := lda [['.t', 14], 0, 8]
          refine ⟨6, [], _, _, _, _, [_, _, _, _, _, _], rfl, s_l01Add_ok B E.2.2.2.2 (k := bz f (530 + i * 64 + i0 * 8 + i1)) hp (by omega) (by omega) (by omega), rfl, trivial, rfl, rfl, ?_⟩   -- 61
          refine ⟨⟨rfl, by first | omega | (simp <;> omega), by first | omega | (simp <;> omega)⟩, ?_⟩   -- sta ['.t', 9] ['.t', 61] 8
          refine ⟨((i1 + 1 : Nat) : Int), w64_id _ (by omega) (by omega), ?_⟩   -- 29
          refine ⟨by omega, trivial, ⟨rfl, rfl, rfl, rfl, rfl, rfl, rfl, rfl, rfl, trivial⟩, ⟨rfl, rfl, rfl, ?_, rfl, trivial⟩, rfl⟩
          refine blk_by ?_
          rw [spl_plsN, pl_vec0 hp hp2]
          refine vec_congr fun y hy => cg.symm ((cg_of_eq (Int.add_assoc _ _ _)).trans (cg_add rfl (cg_add rfl (cg_mul rfl ?_))))
          rw [bz_own hy, prT, if_pos h48]
          exact cg_vec hp hp2 hy
        · skip
          refine ⟨⟨by first | omega | (simp <;> omega), by first | omega | (simp <;> omega)⟩, ?_⟩   -- 58 := lda [['.t', 9], 0, 8]
          refine ⟨⟨by first | omega | (simp <;> omega), by first | omega | (simp <;> omega)⟩, ?_⟩   -- 59 := lda [['.t', 14], 0, 8]
          refine ⟨6, [], _, _, _, _, [_, _, _, _, _, _], rfl, s_l01Add_ok B E.2.2.2.2 (k := bz f (530 + i * 64 + i0 * 8 + i1)) hp (by omega) (by omega) (by omega), rfl, trivial, rfl, rfl, ?_⟩   -- 61
          refine ⟨⟨rfl, by first | omega | (simp <;> omega), by first | omega | (simp <;> omega)⟩, ?_⟩   -- sta ['.t', 9] ['.t', 61] 8
          refine ⟨((i1 + 1 : Nat) : Int), w64_id _ (by omega) (by omega), ?_⟩   -- 29
          refine ⟨by omega, trivial, ⟨rfl, rfl, rfl, rfl, rfl, rfl, rfl, rfl, rfl, trivial⟩, ⟨rfl, rfl, rfl, ?_, rfl, trivial⟩, rfl⟩
          refine blk_by ?_
          rw [spl_plsN, pl_vec0 hp hp2]
          refine vec_congr fun y hy => cg.symm ((cg_of_eq (Int.add_assoc _ _ _)).trans (cg_add rfl (cg_add rfl (cg_mul rfl ?_))))
          rw [bz_own hy, prT, if_neg (by simp [h48])]
          exact cg_vec hp hp2 hy
      · replace h40 := bne_f h40
        refine ⟨((i1 + 1 : Nat) : Int), w64_id _ (by omega) (by omega), ?_⟩   -- 29
        refine ⟨by omega, trivial, ⟨rfl, rfl, rfl, rfl, rfl, rfl, rfl, rfl, rfl, trivial⟩, ⟨rfl, rfl, rfl, ?_, rfl, trivial⟩, rfl⟩
        refine blk_by (vec_congr fun y _ => cg_add rfl (cg_of_eq ?_))
        simp only [sm]
        rw [show bz f (530 + i * 64 + i0 * 8 + i1) = 0 from h40, Int.zero_mul, Int.add_zero]
    · replace h27 := of_decide_eq_false h27
      have e1 : n = i1 := by omega
      subst e1
      refine ⟨((i0 + 1 : Nat) : Int), w64_id _ (by omega) (by omega), ?_⟩   -- 23
      exact ⟨by omega, trivial, ⟨rfl, rfl, rfl, rfl, rfl, rfl, rfl, rfl, trivial⟩, ⟨rfl, rfl, rfl, rfl, rfl, trivial⟩, rfl⟩
  · replace h21 := of_decide_eq_false h21
    have e0 : n = i0 := by omega
    subst e0
    refine ⟨⟨by first | omega | (simp <;> omega), by first | omega | (simp <;> omega)⟩, ?_⟩   -- 62 := lda [['.t', 9], 0, 8]
    refine ⟨⟨rfl, by first | omega | (simp <;> omega), by first | omega | (simp <;> omega)⟩, ?_⟩   -- sta ['.t', 8] ['.t', 62] 8
    refine ⟨rfl, ⟨by first | omega | (simp <;> omega), by first | omega | (simp <;> omega)⟩, [], ?_, rfl, trivial, rfl, rfl⟩
    exact one_ag (out_vec.trans rfl)

theorem s_l03Antipode_ok (B : Bs P ρ) (E : E_s_l03Antipode P ρ) {n : Nat} {p : Int} {f s : By} {b : Bool} (hp : 1 ≤ p) (hp2 : p ≤ 256) (hn : n ≤ 8) :
    CallOK P ρ 66 [.ag [p, (n : Int)] 1106 f, .ag [] 64 s, .b b] [] (.one (.b (decide (∀ i, i < n → AxT p n f s b i)))) [] := by
  refine call_of_vc B.fn B.mo E.1 rfl rfl ?_
  refine ⟨0, rfl, ?_⟩   -- .box 3
  refine ⟨1, rfl, ?_⟩   -- .box 4
  refine ⟨(fun a2 b0 b1 i0 => St.mk [(2, a2), (3, .one (.pt 0 0)), (4, .one (.pt 1 0)), (7, .one (.i .i64 ((i0 : Nat) : Int)))] [b0, b1]) _ _ _ , fun i0 => ∀ i, i < i0 → AxT p n f s b i, n, fun _ _ => by omega, ⟨⟨rfl, rfl, rfl, rfl, trivial⟩, ⟨rfl, rfl, trivial⟩, rfl⟩, fun i0 hi0 hF0 => ?_⟩
  have q0 := bz_nn f (522 + i0)
  have q1 := bz_le f (522 + i0)
  refine ⟨fun h11 => ?_, fun h11 => ?_⟩
  · replace h11 := of_decide_eq_true h11
    refine ⟨⟨by first | omega | (simp <;> omega), by first | omega | (simp <;> omega)⟩, ?_⟩   -- 16 := lda [['.t', 4], 0, 64]
    refine ⟨2, [], _, _, _, _, [_, _], rfl, s_l03Folded_ok B E.2.1 (i := i0) hp hp2 hn (by omega), rfl, trivial, rfl, rfl, rfl, ?_⟩   -- 18
    refine ⟨⟨by first | omega | (simp <;> omega), by first | omega | (simp <;> omega)⟩, ?_⟩   -- 23 := lda [['.t', 22], 0, 8]
    refine ⟨i0, 522 + i0, rfl, by omega, by omega, ?_⟩   -- 26
    refine ⟨⟨by first | omega | (simp <;> omega), by first | omega | (simp <;> omega)⟩, ?_⟩   -- 27 := ld8 ['.t', 26]
    refine ⟨2, [], _, _, _, _, [_, _], rfl, s_l01Add_ok B E.2.2 (k := bz f (522 + i0)) hp (by omega) (by omega) (by omega), rfl, trivial, rfl, rfl, ?_⟩   -- 29
    have e30 : (vec 8 p fun y => bz (fun _ => 0) y + bz f (522 + i0) * bz (sh f 2) y) = vec 8 p fun y => bz f (522 + i0) * bz f (2 + y) := vec_congr fun y _ => cg_of_eq (Int.zero_add _)
    refine ⟨fun h30 => ?_, fun h30 => ?_⟩
    · skip
      have z30 := neB_t h30
      rw [sh_zero s] at z30
      refine ⟨rfl, [], ?_, rfl, trivial, rfl, rfl⟩
      exact one_b (dec_f fun q => z30 fun x _ => congrFun ((q i0 (by omega)).trans e30.symm) x)
    · skip
      have z30 := neB_f h30
      rw [sh_zero s] at z30
      refine ⟨((i0 + 1 : Nat) : Int), w64_id _ (by omega) (by omega), ?_⟩   -- 13
      refine ⟨by omega, ?_, ⟨rfl, rfl, rfl, rfl, trivial⟩, ⟨rfl, rfl, trivial⟩, rfl⟩
      intro k hk
      by_cases e : k = i0
      · subst e
        exact (vec_ext (fun x hx => vec_out hx) z30).trans e30
      · exact hF0 k (by omega)
  · replace h11 := of_decide_eq_false h11
    have e0 : n = i0 := by omega
    subst e0
    refine ⟨rfl, [], ?_, rfl, trivial, rfl, rfl⟩
    exact one_b (dec_t hF0)

end Hf
namespace Hf
open Go Classical
variable {P : Program} {ρ : Nat → FuncId}
/-- the first of the axioms 1 to 5 that does not hold -/
noncomputable def bia (p : Int) (n : Nat) (f : By) : Int :=
  if ¬ AxN p n f 0 then 1 else if ¬ AxN p n f 1 then 2 else if ¬ AxN p n f 2 then 3 else if ¬ AxN p n f 3 then 4 else if ¬ AxN p n f 4 then 5 else 0
theorem bia1 {p : Int} {n : Nat} {f : By} (h : ¬ AxN p n f 0) : 1 = bia p n f := by unfold bia; rw [if_pos h]
theorem bia2 {p : Int} {n : Nat} {f : By} (h0 : AxN p n f 0) (h : ¬ AxN p n f 1) : 2 = bia p n f := by unfold bia; rw [if_neg (not_not_intro h0), if_pos h]
theorem bia3 {p : Int} {n : Nat} {f : By} (h0 : AxN p n f 0) (h1 : AxN p n f 1) (h : ¬ AxN p n f 2) : 3 = bia p n f := by unfold bia; rw [if_neg (not_not_intro h0), if_neg (not_not_intro h1), if_pos h]
theorem bia4 {p : Int} {n : Nat} {f : By} (h0 : AxN p n f 0) (h1 : AxN p n f 1) (h2 : AxN p n f 2) (h : ¬ AxN p n f 3) : 4 = bia p n f := by unfold bia; rw [if_neg (not_not_intro h0), if_neg (not_not_intro h1), if_neg (not_not_intro h2), if_pos h]
theorem bia5 {p : Int} {n : Nat} {f : By} (h0 : AxN p n f 0) (h1 : AxN p n f 1) (h2 : AxN p n f 2) (h3 : AxN p n f 3) (h : ¬ AxN p n f 4) : 5 = bia p n f := by unfold bia; rw [if_neg (not_not_intro h0), if_neg (not_not_intro h1), if_neg (not_not_intro h2), if_neg (not_not_intro h3), if_pos h]
theorem bia0 {p : Int} {n : Nat} {f : By} (h0 : AxN p n f 0) (h1 : AxN p n f 1) (h2 : AxN p n f 2) (h3 : AxN p n f 3) (h : AxN p n f 4) : 0 = bia p n f := by unfold bia; rw [if_neg (not_not_intro h0), if_neg (not_not_intro h1), if_neg (not_not_intro h2), if_neg (not_not_intro h3), if_neg (not_not_intro h)]
theorem bia_0 {p : Int} {n : Nat} {f : By} : bia p n f = 0 ↔ ∀ i, i < 5 → AxN p n f i := by
  constructor
  · intro h
    have h0 : AxN p n f 0 := Classical.byContradiction fun q => by rw [← bia1 q] at h; cases h
    have h1 : AxN p n f 1 := Classical.byContradiction fun q => by rw [← bia2 h0 q] at h; cases h
    have h2 : AxN p n f 2 := Classical.byContradiction fun q => by rw [← bia3 h0 h1 q] at h; cases h
    have h3 : AxN p n f 3 := Classical.byContradiction fun q => by rw [← bia4 h0 h1 h2 q] at h; cases h
    have h4 : AxN p n f 4 := Classical.byContradiction fun q => by rw [← bia5 h0 h1 h2 h3 q] at h; cases h
    intro i hi
    have : i = 0 ∨ i = 1 ∨ i = 2 ∨ i = 3 ∨ i = 4 := by omega
    rcases this with rfl | rfl | rfl | rfl | rfl <;> assumption
  · intro h
    exact (bia0 (h 0 (by omega)) (h 1 (by omega)) (h 2 (by omega)) (h 3 (by omega)) (h 4 (by omega))).symm
/-- axiom 4 by rows -/
theorem Ax4_iff {p : Int} {n : Nat} {f : By} (h : HShp p n f) : Ax4 p n f ↔ ∀ j, j < n → ∀ x, x < 8 → vec 64 p (cop n f 530 (sh f 2)) (j * 8 + x) = vec 8 p (fun y => bz (fun _ => 0) y + bz f (2 + j) * bz (sh f 2) y) x := by
  have hb := h.b
  unfold Ax4
  have e1 : ∀ j x, j < 8 → x < 8 → vec 8 p (fun y => bz (fun _ => 0) y + bz f (2 + j) * bz (sh f 2) y) x = vec 64 p (fun y => bz f (2 + y / 8) * bz f (2 + y % 8)) (j * 8 + x) := by
    intro j x hj hx
    simp only [vec]
    rw [if_pos hx, if_pos (by omega), show (j * 8 + x) / 8 = j by omega, show (j * 8 + x) % 8 = x by omega]
    have : bz (fun _ => 0) x = 0 := rfl
    rw [this, Int.zero_add]; rfl
  constructor
  · intro q j hj x hx
    rw [q, e1 j x (by omega) hx]
  · intro q
    refine vec_ext (fun x hx => vec_out hx) fun x hx => ?_
    by_cases hj : x / 8 < n
    · have := q (x / 8) hj (x % 8) (by omega)
      rw [e1 (x / 8) (x % 8) (by omega) (by omega), show x / 8 * 8 + x % 8 = x by omega] at this
      exact this
    · simp only [vec]
      rw [if_pos hx, if_pos hx]
      congr 2
      rw [cop, if_neg hj, h.unit (by omega) (by omega), Int.zero_mul]

theorem s_l03Bialgebra_ok (B : Bs P ρ) (E : E_s_l03Bialgebra P ρ) {n : Nat} {p : Int} {f : By} (h : HShp p n f) :
    CallOK P ρ 65 [.ag [p, (n : Int)] 1106 f] [] (.one (.i .i64 (bia p n f))) [] := by
  refine call_of_vc B.fn B.mo E.1 rfl rfl ?_
  have hb := h.b
  refine ⟨0, rfl, ?_⟩   -- .box 1
  refine ⟨1, [], _, _, _, _, [_], rfl, s_l03Algebra_ok B E.2.1 , rfl, trivial, rfl, rfl, rfl, ?_⟩   -- 14
  refine ⟨1, rfl, ?_⟩   -- .new 4
  refine ⟨2, [], _, _, _, _, [_, _], rfl, s_l01Is_ok B E.2.2.1 , rfl, trivial, rfl, rfl, ?_⟩   -- 17
  refine ⟨fun h15 => ?_, fun h15 => ?_⟩
  · skip
    have a0 : ¬ AxN p n f 0 := dec_elim_t' (not_t h15)
    refine ⟨rfl, [], ?_, rfl, trivial, rfl, rfl⟩
    exact one_i (bia1 a0)
  · skip
    have a0 : AxN p n f 0 := dec_elim_t (not_f h15)
    refine ⟨2, [], _, _, _, _, [_, _], rfl, s_l03Coalgebra_ok B E.2.2.2.1 , rfl, trivial, rfl, rfl, ?_⟩   -- 21
    refine ⟨2, [], _, _, _, _, [_, _], rfl, s_l02Is_ok B E.2.2.2.2.1 , rfl, trivial, rfl, rfl, ?_⟩   -- 22
    refine ⟨fun h19 => ?_, fun h19 => ?_⟩
    · skip
      have a1 : ¬ AxN p n f 1 := dec_elim_t' (not_t h19)
      refine ⟨rfl, [], ?_, rfl, trivial, rfl, rfl⟩
      exact one_i (bia2 a0 a1)
    · skip
      have a1 : AxN p n f 1 := dec_elim_t (not_f h19)
      refine ⟨(fun a3 b0 b1 i0 => St.mk [(1, .one (.pt 0 0)), (3, a3), (5, .one (.i .i64 ((i0 : Nat) : Int)))] [b0, b1]) _ _ _ , fun i0 => ∀ i, i < i0 → ∀ j, j < n → Ax3 p n f i j, n, fun _ _ => by omega, ⟨⟨rfl, rfl, rfl, trivial⟩, ⟨rfl, rfl, trivial⟩, rfl⟩, fun i0 hi0 hF0 => ?_⟩
      refine ⟨fun h26 => ?_, fun h26 => ?_⟩
      · replace h26 := of_decide_eq_true h26
        refine ⟨(fun a3 a5 b0 b1 i1 => St.mk [(1, .one (.pt 0 0)), (3, a3), (5, a5), (6, .one (.i .i64 ((i1 : Nat) : Int)))] [b0, b1]) _ _ _ _ , fun i1 => ∀ j, j < i1 → Ax3 p n f i0 j, n, fun _ _ => by omega, ⟨⟨rfl, rfl, rfl, rfl, trivial⟩, ⟨rfl, rfl, trivial⟩, rfl⟩, fun i1 hi1 hF1 => ?_⟩
        refine ⟨fun h31 => ?_, fun h31 => ?_⟩
        · replace h31 := of_decide_eq_true h31
          refine ⟨i0, 10 + i0 * 64, rfl, by omega, by omega, ?_⟩   -- 38
          refine ⟨i1, 10 + i0 * 64 + i1 * 8, rfl, by omega, by omega, ?_⟩   -- 39
          refine ⟨⟨by first | omega | (simp <;> omega), by first | omega | (simp <;> omega)⟩, ?_⟩   -- 40 := lda [['.t', 39], 0, 8]
          refine ⟨2, [], _, _, _, _, [_, _], rfl, s_l03Coproduct_ok B E.2.2.2.2.2.1 (by omega) (by omega) (by omega), rfl, trivial, rfl, rfl, rfl, ?_⟩   -- 41
          refine ⟨i0, 530 + i0 * 64, rfl, by omega, by omega, ?_⟩   -- 45
          refine ⟨⟨by first | omega | (simp <;> omega), by first | omega | (simp <;> omega)⟩, ?_⟩   -- 46 := lda [['.t', 45], 0, 64]
          refine ⟨i1, 530 + i1 * 64, rfl, by omega, by omega, ?_⟩   -- 49
          refine ⟨⟨by first | omega | (simp <;> omega), by first | omega | (simp <;> omega)⟩, ?_⟩   -- 50 := lda [['.t', 49], 0, 64]
          refine ⟨2, [], _, _, _, _, [_, _], rfl, s_l03Pairs_ok B E.2.2.2.2.2.2.1 h (by omega) (by omega) (by omega), rfl, trivial, rfl, rfl, ?_⟩   -- 51
          refine ⟨fun h52 => ?_, fun h52 => ?_⟩
          · skip
            have z52 := neB_t h52
            refine ⟨rfl, [], ?_, rfl, trivial, rfl, rfl⟩
            refine one_i (bia3 a0 a1 fun q => z52 fun x _ => ?_)
            have := congrFun (q i0 i1 (by omega) (by omega)) x
            rw [this]
            exact congrFun (congrArg (vec 64 p) (funext fun z => trs_eq.symm)) x
          · skip
            have z52 := neB_f h52
            refine ⟨((i1 + 1 : Nat) : Int), w64_id _ (by omega) (by omega), ?_⟩   -- 33
            refine ⟨by omega, ?_, ⟨rfl, rfl, rfl, rfl, trivial⟩, ⟨rfl, rfl, trivial⟩, rfl⟩
            intro j hj
            by_cases e : j = i1
            · subst e
              refine (vec_ext (fun x hx => vec_out hx) z52).trans ?_
              exact congrArg (vec 64 p) (funext fun z => trs_eq)
            · exact hF1 j (by omega)
        · replace h31 := of_decide_eq_false h31
          have e1 : n = i1 := by omega
          subst e1
          refine ⟨((i0 + 1 : Nat) : Int), w64_id _ (by omega) (by omega), ?_⟩   -- 28
          refine ⟨by omega, ?_, ⟨rfl, rfl, rfl, trivial⟩, ⟨rfl, rfl, trivial⟩, rfl⟩
          intro i hi j hj
          by_cases e : i = i0
          · subst e; exact hF1 j hj
          · exact hF0 i (by omega) j hj
      · replace h26 := of_decide_eq_false h26
        have e0 : n = i0 := by omega
        subst e0
        refine ⟨⟨by first | omega | (simp <;> omega), by first | omega | (simp <;> omega)⟩, ?_⟩   -- 55 := lda [['.t', 54], 0, 8]
        refine ⟨2, [], _, _, _, _, [_, _], rfl, s_l03Coproduct_ok B E.2.2.2.2.2.1 (by omega) (by omega) (by omega), rfl, trivial, rfl, rfl, ?_⟩   -- 56
        refine ⟨2, rfl, ?_⟩   -- .alo 7
        refine ⟨⟨rfl, by first | omega | (simp <;> omega), by first | omega | (simp <;> omega)⟩, ?_⟩   -- sta ['.t', 7] ['.t', 56] 64
        have a2 : AxN p n f 2 := fun i j hi hj => hF0 i hi j hj
        refine ⟨(fun a3 b0 b1 i2 => St.mk [(1, .one (.pt 0 0)), (3, a3), (7, .one (.pt 2 0)), (8, .one (.i .i64 ((i2 : Nat) : Int)))] [b0, b1, Blk.mk false (.by [] 64 (vec 64 p (cop n f 530 (sh f 2))))]) _ _ _ , fun i2 => ∀ j, j < i2 → ∀ x, x < 8 → vec 64 p (cop n f 530 (sh f 2)) (j * 8 + x) = vec 8 p (fun y => bz (fun _ => 0) y + bz f (2 + j) * bz (sh f 2) y) x, n, fun _ _ => by omega, ⟨⟨rfl, rfl, rfl, rfl, trivial⟩, ⟨rfl, rfl, ?_, trivial⟩, rfl⟩, fun i2 hi2 hF2 => ?_⟩
        · exact blk_by (z_spl _ _ fun _ h => vec_out h).symm
        have q0 := bz_nn f (2 + i2)
        have q1 := bz_le f (2 + i2)
        have a2 : AxN p n f 2 := fun i j hi hj => hF0 i hi j hj
        refine ⟨fun h59 => ?_, fun h59 => ?_⟩
        · replace h59 := of_decide_eq_true h59
          refine ⟨i2, i2 * 8, rfl, by omega, by omega, ?_⟩   -- 63
          refine ⟨⟨by first | omega | (simp <;> omega), by first | omega | (simp <;> omega)⟩, ?_⟩   -- 64 := lda [['.t', 63], 0, 8]
          refine ⟨⟨by first | omega | (simp <;> omega), by first | omega | (simp <;> omega)⟩, ?_⟩   -- 69 := lda [['.t', 68], 0, 8]
          refine ⟨i2, 2 + i2, rfl, by omega, by omega, ?_⟩   -- 72
          refine ⟨⟨by first | omega | (simp <;> omega), by first | omega | (simp <;> omega)⟩, ?_⟩   -- 73 := ld8 ['.t', 72]
          refine ⟨3, [], _, _, _, _, [_, _, _], rfl, s_l01Add_ok B E.2.2.2.2.2.2.2.1 (k := bz f (2 + i2)) (by omega) (by omega) (by omega) (by omega), rfl, trivial, rfl, rfl, rfl, ?_⟩   -- 75
          refine ⟨fun h76 => ?_, fun h76 => ?_⟩
          · skip
            have z76 := neB_t h76
            refine ⟨rfl, [], ?_, rfl, trivial, rfl, rfl⟩
            refine one_i (bia4 a0 a1 a2 fun q => z76 fun x hx => ?_)
            exact (Ax4_iff h).1 q i2 (by omega) x hx
          · skip
            have z76 := neB_f h76
            refine ⟨((i2 + 1 : Nat) : Int), w64_id _ (by omega) (by omega), ?_⟩   -- 61
            refine ⟨by omega, ?_, ⟨rfl, rfl, rfl, rfl, trivial⟩, ⟨rfl, rfl, rfl, trivial⟩, rfl⟩
            intro j hj
            by_cases e : j = i2
            · subst e; exact z76
            · exact hF2 j (by omega)
        · replace h59 := of_decide_eq_false h59
          have e2 : n = i2 := by omega
          subst e2
          have a3 : AxN p n f 3 := (Ax4_iff h).2 hF2
          refine ⟨(fun a3 b0 b1 b2 i3 => St.mk [(1, .one (.pt 0 0)), (3, a3), (9, .one (.i .i64 ((i3 : Nat) : Int)))] [b0, b1, b2]) _ _ _ _ , fun i3 => ∀ i, i < i3 → ∀ j, j < n → Ax5 p n f i j, n, fun _ _ => by omega, ⟨⟨rfl, rfl, rfl, trivial⟩, ⟨rfl, rfl, rfl, trivial⟩, rfl⟩, fun i3 hi3 hF3 => ?_⟩
          refine ⟨fun h79 => ?_, fun h79 => ?_⟩
          · replace h79 := of_decide_eq_true h79
            refine ⟨(fun a3 a9 b0 b1 b2 i4 => St.mk [(1, .one (.pt 0 0)), (3, a3), (9, a9), (10, .one (.i .i64 ((i4 : Nat) : Int)))] [b0, b1, b2]) _ _ _ _ _ , fun i4 => ∀ j, j < i4 → Ax5 p n f i3 j, n, fun _ _ => by omega, ⟨⟨rfl, rfl, rfl, rfl, trivial⟩, ⟨rfl, rfl, rfl, trivial⟩, rfl⟩, fun i4 hi4 hF4 => ?_⟩
            have q0 := bz2 f f (522 + i3) (522 + i4)
            refine ⟨fun h84 => ?_, fun h84 => ?_⟩
            · replace h84 := of_decide_eq_true h84
              refine ⟨i3, 10 + i3 * 64, rfl, by omega, by omega, ?_⟩   -- 91
              refine ⟨i4, 10 + i3 * 64 + i4 * 8, rfl, by omega, by omega, ?_⟩   -- 92
              refine ⟨⟨by first | omega | (simp <;> omega), by first | omega | (simp <;> omega)⟩, ?_⟩   -- 93 := lda [['.t', 92], 0, 8]
              refine ⟨3, [], _, _, _, _, [_, _, _], rfl, s_l03Counit_ok B E.2.2.2.2.2.2.2.2 (by omega) (by omega) (by omega), rfl, trivial, rfl, rfl, rfl, ?_⟩   -- 94
              refine ⟨i3, 522 + i3, rfl, by omega, by omega, ?_⟩   -- 97
              refine ⟨⟨by first | omega | (simp <;> omega), by first | omega | (simp <;> omega)⟩, ?_⟩   -- 98 := ld8 ['.t', 97]
              refine ⟨i4, 522 + i4, rfl, by omega, by omega, ?_⟩   -- 102
              refine ⟨⟨by first | omega | (simp <;> omega), by first | omega | (simp <;> omega)⟩, ?_⟩   -- 103 := ld8 ['.t', 102]
              refine ⟨bz f (522 + i3) * bz f (522 + i4), w64_id (bz f (522 + i3) * bz f (522 + i4)) (by omega) (by omega), ?_⟩
              refine ⟨by omega, bz f (522 + i3) * bz f (522 + i4) % p, Int.tmod_eq_emod_of_nonneg q0.1, ?_⟩
              refine ⟨fun h109 => ?_, fun h109 => ?_⟩
              · replace h109 := bne_t h109
                refine ⟨rfl, [], ?_, rfl, trivial, rfl, rfl⟩
                exact one_i (bia5 a0 a1 a2 a3 fun q => h109 (q.1 i3 i4 (by omega) (by omega)))
              · replace h109 := bne_f h109
                refine ⟨((i4 + 1 : Nat) : Int), w64_id _ (by omega) (by omega), ?_⟩   -- 86
                refine ⟨by omega, ?_, ⟨rfl, rfl, rfl, rfl, trivial⟩, ⟨rfl, rfl, rfl, trivial⟩, rfl⟩
                intro j hj
                by_cases e : j = i4
                · subst e; exact h109
                · exact hF4 j (by omega)
            · replace h84 := of_decide_eq_false h84
              have e4 : n = i4 := by omega
              subst e4
              refine ⟨((i3 + 1 : Nat) : Int), w64_id _ (by omega) (by omega), ?_⟩   -- 81
              refine ⟨by omega, ?_, ⟨rfl, rfl, rfl, trivial⟩, ⟨rfl, rfl, rfl, trivial⟩, rfl⟩
              intro i hi j hj
              by_cases e : i = i3
              · subst e; exact hF4 j hj
              · exact hF3 i (by omega) j hj
          · replace h79 := of_decide_eq_false h79
            have e3 : n = i3 := by omega
            subst e3
            refine ⟨⟨by first | omega | (simp <;> omega), by first | omega | (simp <;> omega)⟩, ?_⟩   -- 112 := lda [['.t', 111], 0, 8]
            refine ⟨3, [], _, _, _, _, [_, _, _], rfl, s_l03Counit_ok B E.2.2.2.2.2.2.2.2 (by omega) (by omega) (by omega), rfl, trivial, rfl, rfl, ?_⟩   -- 113
            refine ⟨fun h114 => ?_, fun h114 => ?_⟩
            · replace h114 := bne_t h114
              refine ⟨rfl, [], ?_, rfl, trivial, rfl, rfl⟩
              exact one_i (bia5 a0 a1 a2 a3 fun q => h114 q.2)
            · replace h114 := bne_f h114
              refine ⟨rfl, [], ?_, rfl, trivial, rfl, rfl⟩
              exact one_i (bia0 a0 a1 a2 a3 ⟨fun i j hi hj => hF3 i hi j hj, h114⟩)

theorem s_l03Fails_ok (B : Bs P ρ) (E : E_s_l03Fails P ρ) {n : Nat} {p : Int} {f : By} (h : HShp p n f) :
    CallOK P ρ 46 [.ag [p, (n : Int)] 1106 f] [] (.one (.i .i64 (if bia p n f ≠ 0 then bia p n f else if ¬ AxN p n f 5 then 6 else if ¬ AxN p n f 6 then 7 else 0))) [] := by
  refine call_of_vc B.fn B.mo E.1 rfl rfl ?_
  have hb := h.b
  refine ⟨0, rfl, ?_⟩   -- .box 1
  refine ⟨1, [], _, _, _, _, [_], rfl, s_l03Bialgebra_ok B E.2.1 h, rfl, trivial, rfl, rfl, ?_⟩   -- 5
  refine ⟨fun h6 => ?_, fun h6 => ?_⟩
  · replace h6 := bne_t h6
    have h6' : bia p n f ≠ 0 := h6
    refine ⟨rfl, [], ?_, rfl, trivial, rfl, rfl⟩
    exact one_i (if_pos h6').symm
  · replace h6 := bne_f h6
    have h6' : ¬ bia p n f ≠ 0 := fun q => q h6
    refine ⟨⟨by first | omega | (simp <;> omega), by first | omega | (simp <;> omega)⟩, ?_⟩   -- 13 := lda [['.t', 12], 0, 64]
    refine ⟨1, [], _, _, _, _, [_], rfl, s_l03Antipode_ok B E.2.2 (by omega) (by omega) (by omega), rfl, trivial, rfl, rfl, ?_⟩   -- 14
    refine ⟨fun h10 => ?_, fun h10 => ?_⟩
    · skip
      have h10' : ¬ AxN p n f 5 := fun q => dec_elim_t' (not_t h10) fun i hi => AxT_eq.2 (q i hi)
      refine ⟨rfl, [], ?_, rfl, trivial, rfl, rfl⟩
      exact one_i (by rw [if_neg h6', if_pos h10'])
    · skip
      have w10 : ∀ i, i < n → AxT p n f (sh f 1042) false i := dec_elim_t (not_f h10)
      have v10 : AxN p n f 5 := show ∀ i, i < n → AxS p n f true i from fun i hi => (AxT_eq (b := false)).1 (w10 i hi)
      have h10' : ¬ ¬ AxN p n f 5 := not_not_intro v10
      refine ⟨⟨by first | omega | (simp <;> omega), by first | omega | (simp <;> omega)⟩, ?_⟩   -- 19 := lda [['.t', 18], 0, 64]
      refine ⟨1, [], _, _, _, _, [_], rfl, s_l03Antipode_ok B E.2.2 (by omega) (by omega) (by omega), rfl, trivial, rfl, rfl, ?_⟩   -- 20
      refine ⟨fun h16 => ?_, fun h16 => ?_⟩
      · skip
        have h16' : ¬ AxN p n f 6 := fun q => dec_elim_t' (not_t h16) fun i hi => AxT_eq.2 (q i hi)
        refine ⟨rfl, [], ?_, rfl, trivial, rfl, rfl⟩
        exact one_i (by rw [if_neg h6', if_neg h10', if_pos h16'])
      · skip
        have w16 : ∀ i, i < n → AxT p n f (sh f 1042) true i := dec_elim_t (not_f h16)
        have v16 : AxN p n f 6 := show ∀ i, i < n → AxS p n f false i from fun i hi => (AxT_eq (b := true)).1 (w16 i hi)
        have h16' : ¬ ¬ AxN p n f 6 := not_not_intro v16
        refine ⟨rfl, [], ?_, rfl, trivial, rfl, rfl⟩
        exact one_i (by rw [if_neg h6', if_neg h10', if_neg h16'])

theorem fails_0 {p : Int} {n : Nat} {f : By} : (if bia p n f ≠ 0 then bia p n f else if ¬ AxN p n f 5 then 6 else if ¬ AxN p n f 6 then 7 else 0) = 0 ↔ ∀ i, i < 7 → AxN p n f i := by
  by_cases h : bia p n f ≠ 0
  · rw [if_pos h]
    exact ⟨fun q => (h q).elim, fun q => (h (bia_0.2 fun i hi => q i (by omega))).elim⟩
  · rw [if_neg h]
    have h' := bia_0.1 (Classical.not_not.1 h)
    by_cases h5 : AxN p n f 5
    · rw [if_neg (not_not_intro h5)]
      by_cases h6 : AxN p n f 6
      · rw [if_neg (not_not_intro h6)]
        refine ⟨fun _ i hi => ?_, fun _ => rfl⟩
        have : i < 5 ∨ i = 5 ∨ i = 6 := by omega
        rcases this with e | rfl | rfl
        · exact h' i e
        · exact h5
        · exact h6
      · rw [if_pos h6]
        exact ⟨fun q => (by omega), fun q => (h6 (q 6 (by omega))).elim⟩
    · rw [if_pos h5]
      exact ⟨fun q => (by omega), fun q => (h5 (q 5 (by omega))).elim⟩

theorem s_l03Is_s_ok (B : Bs P ρ) (E : E_s_l03Is P ρ) {n p : Int} {f : By} (hS : ¬ HShp p n f) :
    CallOK P ρ 24 [.ag [p, n] 1106 f] [] (.one (.b false)) [] := by
  refine call_of_vc B.fn B.mo E.1 rfl rfl ?_
  refine ⟨0, rfl, ?_⟩   -- .box 1
  refine ⟨1, [], _, _, _, _, [_], rfl, s_l03Shape_ok B E.2.1 , rfl, trivial, rfl, rfl, ?_⟩   -- 4
  refine ⟨fun h5 => ?_, fun h5 => ?_⟩
  · skip
    exact (hS (dec_elim_t h5)).elim
  · skip
    refine brB_f ?_
    refine brB_f ?_
    refine brB_f ?_
    exact ⟨rfl, [], rfl, rfl, trivial, rfl, rfl⟩

theorem s_l03Is_t_ok (B : Bs P ρ) (E : E_s_l03Is P ρ) {n : Nat} {p : Int} {f : By} (h : HShp p n f) :
    CallOK P ρ 24 [.ag [p, (n : Int)] 1106 f] [] (.one (.b (decide (Hop p n f)))) [] := by
  refine call_of_vc B.fn B.mo E.1 rfl rfl ?_
  refine ⟨0, rfl, ?_⟩   -- .box 1
  refine ⟨1, [], _, _, _, _, [_], rfl, s_l03Shape_ok B E.2.1 , rfl, trivial, rfl, rfl, ?_⟩   -- 4
  refine ⟨fun h5 => ?_, fun h5 => ?_⟩
  · skip
    refine brB_t ?_
    refine ⟨1, [], _, _, _, _, [_], rfl, s_l03Fails_ok B E.2.2 h, rfl, trivial, rfl, rfl, ?_⟩   -- 7
    refine brB_t ?_
    refine brB_t ?_
    refine ⟨rfl, [], ?_, rfl, trivial, rfl, rfl⟩
    refine one_b ?_
    rw [Bool.eq_iff_iff, beq_iff_eq, decide_eq_true_iff]
    exact fails_0.trans ⟨fun q => ⟨h, q⟩, fun q => q.2⟩
  · skip
    exact (dec_elim_t' h5 h).elim

theorem s_l03Is_ok (B : Bs P ρ) (E : E_s_l03Is P ρ) {n p : Int} {f : By} : CallOK P ρ 24 [.ag [p, n] 1106 f] [] (.one (.b (decide (Hop p n f)))) [] := by
  by_cases hS : HShp p n f
  · obtain ⟨m, rfl⟩ : ∃ m : Nat, n = (m : Int) := ⟨n.toNat, by have := hS.1.2.1; omega⟩
    exact s_l03Is_t_ok B E hS
  · rw [decide_eq_false fun q : Hop p n f => hS q.1]
    exact s_l03Is_s_ok B E hS
end Hf
namespace Hf
open Go Classical
variable {P : Program} {ρ : Nat → FuncId}
def cut (n : Nat) (f : By) : By := fun x => if x < n then f x else 0
theorem cut_lt {n : Nat} {f : By} {x : Nat} (h : x < n) : cut n f x = f x := by simp only [cut]; rw [if_pos h]
theorem cut_ge {n : Nat} {f : By} {x : Nat} (h : n ≤ x) : cut n f x = 0 := by simp only [cut]; rw [if_neg (by omega)]
theorem cut_0 {f : By} : cut 0 f = fun _ => 0 := by funext x; exact cut_ge (Nat.zero_le _)
theorem cut_upd {f : By} {i : Nat} : upd (cut i f) i (f i) = cut (i + 1) f := by
  funext x
  simp only [upd, cut]
  by_cases e : x = i
  · subst e; rw [if_pos rfl, if_pos (by omega)]
  · rw [if_neg e]
    by_cases h : x < i
    · rw [if_pos h, if_pos (by omega)]
    · rw [if_neg h, if_neg (by omega)]
theorem cut_spl {f : By} {a m b : Nat} (hb : b = a + m) : spl (cut a f) a m (sh f a) = cut b f := by
  subst hb
  funext x
  simp only [spl, cut, sh]
  by_cases e : a ≤ x ∧ x < a + m
  · rw [if_pos e, if_pos (by omega), show a + (x - a) = x by omega]
  · rw [if_neg e]
    by_cases h : x < a
    · rw [if_pos h, if_pos (by omega)]
    · rw [if_neg h, if_neg (by omega)]
theorem out_cut {n : Nat} {f : By} : sh (spl (fun _ => 0) 0 n (sh (cut n f) 0)) 0 = cut n f := out_eq (fun _ _ => rfl) fun _ h => cut_ge h
theorem eq_cut {n : Nat} {f : By} : eqA (.ag [] n (cut n f)) (.ag [] n f) := ⟨_, rfl, fun _ _ h => cut_lt h⟩

theorem l_toVector_raw_ok (B : Bs P ρ) (E : E_l_toVector P ρ) {f : By} :
    CallOK P ρ 16 [.ag [] 8 f] [] (.one (.ag [] 8 (cut 8 f))) [] := by
  refine call_of_vc B.fn B.mo E rfl rfl ?_
  refine ⟨0, rfl, ?_⟩   -- .box 1
  refine ⟨1, rfl, ?_⟩   -- .alo 2
  refine ⟨2, rfl, ?_⟩   -- .alo 3
  refine ⟨(fun b0 b1 i0 => St.mk [(1, .one (.pt 0 0)), (2, .one (.pt 1 0)), (3, .one (.pt 2 0)), (4, .one (.i .i64 ((i0 : Nat) : Int)))] [b0, b1, Blk.mk false (.by [] 8 (cut i0 f))]) _ _ , fun i0 => True, 8, trivial, ⟨⟨rfl, rfl, rfl, rfl, trivial⟩, ⟨rfl, rfl, ?_, trivial⟩, rfl⟩, fun i0 hi0 _ => ?_⟩
  · exact blk_by cut_0
  refine ⟨fun h6 => ?_, fun h6 => ?_⟩
  · replace h6 := of_decide_eq_true h6
    refine ⟨i0, i0, rfl, by omega, by omega, ?_⟩   -- 11
    refine ⟨⟨by first | omega | (simp <;> omega), by first | omega | (simp <;> omega)⟩, ?_⟩   -- 12 := ld8 ['.t', 11]
    refine ⟨i0, i0, rfl, by omega, by omega, ?_⟩   -- 13
    refine ⟨⟨by first | omega | (simp <;> omega), by first | omega | (simp <;> omega)⟩, ?_⟩   -- st8 ['.t', 13] ['.t', 12]
    refine ⟨((i0 + 1 : Nat) : Int), w64_id _ (by omega) (by omega), ?_⟩   -- 8
    refine ⟨by omega, trivial, ⟨rfl, rfl, rfl, rfl, trivial⟩, ⟨rfl, rfl, ?_, trivial⟩, rfl⟩
    exact blk_by cut_upd.symm
  · replace h6 := of_decide_eq_false h6
    have e0 : 8 = i0 := by omega
    subst e0
    refine ⟨⟨by first | omega | (simp <;> omega), by first | omega | (simp <;> omega)⟩, ?_⟩   -- 14 := lda [['.t', 3], 0, 8]
    refine ⟨⟨rfl, by first | omega | (simp <;> omega), by first | omega | (simp <;> omega)⟩, ?_⟩   -- sta ['.t', 2] ['.t', 14] 8
    refine ⟨rfl, ⟨by first | omega | (simp <;> omega), by first | omega | (simp <;> omega)⟩, [], ?_, rfl, trivial, rfl, rfl⟩
    exact one_ag out_cut

theorem l_toVector_ok (B : Bs P ρ) (E : E_l_toVector P ρ) {f : By} : CallOK P ρ 16 [.ag [] 8 f] [] (.one (.ag [] 8 f)) [] := (l_toVector_raw_ok B E).conv eqL_rfl eq_cut eqH_rfl

theorem l_toLinear_raw_ok (B : Bs P ρ) (E : E_l_toLinear P ρ) {f : By} :
    CallOK P ρ 26 [.ag [] 64 f] [] (.one (.ag [] 64 (cut 64 f))) [] := by
  refine call_of_vc B.fn B.mo E.1 rfl rfl ?_
  refine ⟨0, rfl, ?_⟩   -- .box 1
  refine ⟨1, rfl, ?_⟩   -- .alo 2
  refine ⟨2, rfl, ?_⟩   -- .alo 3
  refine ⟨(fun b0 b1 i0 => St.mk [(1, .one (.pt 0 0)), (2, .one (.pt 1 0)), (3, .one (.pt 2 0)), (4, .one (.i .i64 ((i0 : Nat) : Int)))] [b0, b1, Blk.mk false (.by [] 64 (cut (i0 * 8) f))]) _ _ , fun i0 => True, 8, trivial, ⟨⟨rfl, rfl, rfl, rfl, trivial⟩, ⟨rfl, rfl, ?_, trivial⟩, rfl⟩, fun i0 hi0 _ => ?_⟩
  · exact blk_by (by rw [Nat.zero_mul]; exact cut_0)
  refine ⟨fun h6 => ?_, fun h6 => ?_⟩
  · replace h6 := of_decide_eq_true h6
    refine ⟨i0, i0 * 8, rfl, by omega, by omega, ?_⟩   -- 11
    refine ⟨⟨by first | omega | (simp <;> omega), by first | omega | (simp <;> omega)⟩, ?_⟩   -- 12 := lda [['.t', 11], 0, 8]
    refine ⟨3, [], _, _, _, _, [_, _, _], rfl, l_toVector_ok B E.2 , rfl, trivial, rfl, rfl, ?_⟩   -- 13
    refine ⟨i0, i0 * 8, rfl, by omega, by omega, ?_⟩   -- 14
    refine ⟨⟨rfl, by first | omega | (simp <;> omega), by first | omega | (simp <;> omega)⟩, ?_⟩   -- sta ['.t', 14] ['.t', 13] 8
    refine ⟨((i0 + 1 : Nat) : Int), w64_id _ (by omega) (by omega), ?_⟩   -- 8
    refine ⟨by omega, trivial, ⟨rfl, rfl, rfl, rfl, trivial⟩, ⟨rfl, rfl, ?_, trivial⟩, rfl⟩
    exact blk_by (cut_spl (by omega)).symm
  · replace h6 := of_decide_eq_false h6
    have e0 : 8 = i0 := by omega
    subst e0
    refine ⟨⟨by first | omega | (simp <;> omega), by first | omega | (simp <;> omega)⟩, ?_⟩   -- 15 := lda [['.t', 3], 0, 64]
    refine ⟨⟨rfl, by first | omega | (simp <;> omega), by first | omega | (simp <;> omega)⟩, ?_⟩   -- sta ['.t', 2] ['.t', 15] 64
    refine ⟨rfl, ⟨by first | omega | (simp <;> omega), by first | omega | (simp <;> omega)⟩, [], ?_, rfl, trivial, rfl, rfl⟩
    exact one_ag out_cut

theorem l_toLinear_ok (B : Bs P ρ) (E : E_l_toLinear P ρ) {f : By} : CallOK P ρ 26 [.ag [] 64 f] [] (.one (.ag [] 64 f)) [] := (l_toLinear_raw_ok B E).conv eqL_rfl eq_cut eqH_rfl

theorem l_toTable_raw_ok (B : Bs P ρ) (E : E_l_toTable P ρ) {f : By} :
    CallOK P ρ 25 [.ag [] 512 f] [] (.one (.ag [] 512 (cut 512 f))) [] := by
  refine call_of_vc B.fn B.mo E.1 rfl rfl ?_
  refine ⟨0, rfl, ?_⟩   -- .box 1
  refine ⟨1, rfl, ?_⟩   -- .alo 2
  refine ⟨2, rfl, ?_⟩   -- .alo 3
  refine ⟨(fun b0 b1 i0 => St.mk [(1, .one (.pt 0 0)), (2, .one (.pt 1 0)), (3, .one (.pt 2 0)), (4, .one (.i .i64 ((i0 : Nat) : Int)))] [b0, b1, Blk.mk false (.by [] 512 (cut (i0 * 64) f))]) _ _ , fun i0 => True, 8, trivial, ⟨⟨rfl, rfl, rfl, rfl, trivial⟩, ⟨rfl, rfl, ?_, trivial⟩, rfl⟩, fun i0 hi0 _ => ?_⟩
  · exact blk_by (by rw [Nat.zero_mul]; exact cut_0)
  refine ⟨fun h6 => ?_, fun h6 => ?_⟩
  · replace h6 := of_decide_eq_true h6
    refine ⟨i0, i0 * 64, rfl, by omega, by omega, ?_⟩   -- 11
    refine ⟨⟨by first | omega | (simp <;> omega), by first | omega | (simp <;> omega)⟩, ?_⟩   -- 12 := lda [['.t', 11], 0, 64]
    refine ⟨3, [], _, _, _, _, [_, _, _], rfl, l_toLinear_ok B E.2 , rfl, trivial, rfl, rfl, ?_⟩   -- 13
    refine ⟨i0, i0 * 64, rfl, by omega, by omega, ?_⟩   -- 14
    refine ⟨⟨rfl, by first | omega | (simp <;> omega), by first | omega | (simp <;> omega)⟩, ?_⟩   -- sta ['.t', 14] ['.t', 13] 64
    refine ⟨((i0 + 1 : Nat) : Int), w64_id _ (by omega) (by omega), ?_⟩   -- 8
    refine ⟨by omega, trivial, ⟨rfl, rfl, rfl, rfl, trivial⟩, ⟨rfl, rfl, ?_, trivial⟩, rfl⟩
    exact blk_by (cut_spl (by omega)).symm
  · replace h6 := of_decide_eq_false h6
    have e0 : 8 = i0 := by omega
    subst e0
    refine ⟨⟨by first | omega | (simp <;> omega), by first | omega | (simp <;> omega)⟩, ?_⟩   -- 15 := lda [['.t', 3], 0, 512]
    refine ⟨⟨rfl, by first | omega | (simp <;> omega), by first | omega | (simp <;> omega)⟩, ?_⟩   -- sta ['.t', 2] ['.t', 15] 512
    refine ⟨rfl, ⟨by first | omega | (simp <;> omega), by first | omega | (simp <;> omega)⟩, [], ?_, rfl, trivial, rfl, rfl⟩
    exact one_ag out_cut

theorem l_toTable_ok (B : Bs P ρ) (E : E_l_toTable P ρ) {f : By} : CallOK P ρ 25 [.ag [] 512 f] [] (.one (.ag [] 512 f)) [] := (l_toTable_raw_ok B E).conv eqL_rfl eq_cut eqH_rfl
def hopR (f : By) : By := spl (spl (spl (spl (spl (fun _ => 0) 2 8 (sh f 2)) 10 512 (sh f 10)) 522 8 (sh f 522)) 530 512 (sh f 530)) 1042 64 (sh f 1042)
theorem hopR_eq {f : By} {x : Nat} (h1 : 2 ≤ x) (h2 : x < 1106) : hopR f x = f x := by
  simp only [hopR, spl, sh]
  by_cases e1 : 1042 ≤ x
  · rw [if_pos (by omega), show 1042 + (x - 1042) = x by omega]
  · rw [if_neg (by omega)]
    by_cases e2 : 530 ≤ x
    · rw [if_pos (by omega), show 530 + (x - 530) = x by omega]
    · rw [if_neg (by omega)]
      by_cases e3 : 522 ≤ x
      · rw [if_pos (by omega), show 522 + (x - 522) = x by omega]
      · rw [if_neg (by omega)]
        by_cases e4 : 10 ≤ x
        · rw [if_pos (by omega), show 10 + (x - 10) = x by omega]
        · rw [if_neg (by omega), if_pos (by omega), show 2 + (x - 2) = x by omega]

theorem l_toHopf_raw_ok (B : Bs P ρ) (E : E_l_toHopf P ρ) {p n : Int} {f : By} :
    CallOK P ρ 0 [.ag [p, n] 1106 f] [] (.one (.ag [p, n] 1106 (hopR f))) [] := by
  refine call_of_vc B.fn B.mo E.1 rfl rfl ?_
  refine ⟨0, rfl, ?_⟩   -- .box 1
  refine ⟨1, rfl, ?_⟩   -- .alo 2
  refine ⟨2, rfl, ?_⟩   -- .alo 3
  refine ⟨⟨by first | omega | (simp <;> omega), by first | omega | (simp <;> omega)⟩, ?_⟩   -- 11 := lda [['.t', 10], 0, 8]
  refine ⟨3, [], _, _, _, _, [_, _, _], rfl, l_toVector_ok B E.2.1 , rfl, trivial, rfl, rfl, ?_⟩   -- 12
  refine ⟨⟨rfl, by first | omega | (simp <;> omega), by first | omega | (simp <;> omega)⟩, ?_⟩   -- sta ['.t', 13] ['.t', 12] 8
  refine ⟨⟨by first | omega | (simp <;> omega), by first | omega | (simp <;> omega)⟩, ?_⟩   -- 15 := lda [['.t', 14], 0, 512]
  refine ⟨3, [], _, _, _, _, [_, _, _], rfl, l_toTable_ok B E.2.2.1 , rfl, trivial, rfl, rfl, ?_⟩   -- 16
  refine ⟨⟨rfl, by first | omega | (simp <;> omega), by first | omega | (simp <;> omega)⟩, ?_⟩   -- sta ['.t', 17] ['.t', 16] 512
  refine ⟨⟨by first | omega | (simp <;> omega), by first | omega | (simp <;> omega)⟩, ?_⟩   -- 19 := lda [['.t', 18], 0, 8]
  refine ⟨3, [], _, _, _, _, [_, _, _], rfl, l_toVector_ok B E.2.1 , rfl, trivial, rfl, rfl, ?_⟩   -- 20
  refine ⟨⟨rfl, by first | omega | (simp <;> omega), by first | omega | (simp <;> omega)⟩, ?_⟩   -- sta ['.t', 21] ['.t', 20] 8
  refine ⟨⟨by first | omega | (simp <;> omega), by first | omega | (simp <;> omega)⟩, ?_⟩   -- 23 := lda [['.t', 22], 0, 512]
  refine ⟨3, [], _, _, _, _, [_, _, _], rfl, l_toTable_ok B E.2.2.1 , rfl, trivial, rfl, rfl, ?_⟩   -- 24
  refine ⟨⟨rfl, by first | omega | (simp <;> omega), by first | omega | (simp <;> omega)⟩, ?_⟩   -- sta ['.t', 25] ['.t', 24] 512
  refine ⟨⟨by first | omega | (simp <;> omega), by first | omega | (simp <;> omega)⟩, ?_⟩   -- 27 := lda [['.t', 26], 0, 64]
  refine ⟨3, [], _, _, _, _, [_, _, _], rfl, l_toLinear_ok B E.2.2.2 , rfl, trivial, rfl, rfl, ?_⟩   -- 28
  refine ⟨⟨rfl, by first | omega | (simp <;> omega), by first | omega | (simp <;> omega)⟩, ?_⟩   -- sta ['.t', 29] ['.t', 28] 64
  exact ⟨rfl, ⟨by first | omega | (simp <;> omega), by first | omega | (simp <;> omega)⟩, [], rfl, rfl, trivial, rfl, rfl⟩

theorem l_toHopf_ok (B : Bs P ρ) (E : E_l_toHopf P ρ) {p n : Int} {f : By} : CallOK P ρ 0 [.ag [p, n] 1106 f] [] (.one (.ag [p, n] 1106 f)) [] := (l_toHopf_raw_ok B E).conv eqL_rfl ⟨_, rfl, fun _ h1 h2 => hopR_eq h1 h2⟩ eqH_rfl

theorem l_eqVector_ok (B : Bs P ρ) (E : E_l_eqVector P ρ) {f : By} :
    CallOK P ρ 19 [.ag [] 8 f, .ag [] 8 f] [] (.one (.b true)) [] := by
  refine call_of_vc B.fn B.mo E rfl rfl ?_
  refine ⟨0, rfl, ?_⟩   -- .box 2
  refine ⟨1, rfl, ?_⟩   -- .box 3
  refine ⟨(fun b0 b1 i0 => St.mk [(2, .one (.pt 0 0)), (3, .one (.pt 1 0)), (5, .one (.i .i64 ((i0 : Nat) : Int)))] [b0, b1]) _ _ , fun i0 => True, 8, trivial, ⟨⟨rfl, rfl, rfl, trivial⟩, ⟨rfl, rfl, trivial⟩, rfl⟩, fun i0 hi0 _ => ?_⟩
  refine ⟨fun h7 => ?_, fun h7 => ?_⟩
  · replace h7 := of_decide_eq_true h7
    refine ⟨i0, i0, rfl, by omega, by omega, ?_⟩   -- 11
    refine ⟨⟨by first | omega | (simp <;> omega), by first | omega | (simp <;> omega)⟩, ?_⟩   -- 12 := ld8 ['.t', 11]
    refine ⟨i0, i0, rfl, by omega, by omega, ?_⟩   -- 14
    refine ⟨⟨by first | omega | (simp <;> omega), by first | omega | (simp <;> omega)⟩, ?_⟩   -- 15 := ld8 ['.t', 14]
    refine ⟨fun h16 => ?_, fun h16 => ?_⟩
    · replace h16 := bne_t h16
      exact (h16 rfl).elim
    · replace h16 := bne_f h16
      refine ⟨((i0 + 1 : Nat) : Int), w64_id _ (by omega) (by omega), ?_⟩   -- 9
      exact ⟨by omega, trivial, ⟨rfl, rfl, rfl, trivial⟩, ⟨rfl, rfl, trivial⟩, rfl⟩
  · replace h7 := of_decide_eq_false h7
    have e0 : 8 = i0 := by omega
    subst e0
    exact ⟨rfl, [], rfl, rfl, trivial, rfl, rfl⟩

theorem l_eqLinear_ok (B : Bs P ρ) (E : E_l_eqLinear P ρ) {f : By} :
    CallOK P ρ 50 [.ag [] 64 f, .ag [] 64 f] [] (.one (.b true)) [] := by
  refine call_of_vc B.fn B.mo E.1 rfl rfl ?_
  refine ⟨0, rfl, ?_⟩   -- .box 2
  refine ⟨1, rfl, ?_⟩   -- .box 3
  refine ⟨(fun b0 b1 i0 => St.mk [(2, .one (.pt 0 0)), (3, .one (.pt 1 0)), (5, .one (.i .i64 ((i0 : Nat) : Int)))] [b0, b1]) _ _ , fun i0 => True, 8, trivial, ⟨⟨rfl, rfl, rfl, trivial⟩, ⟨rfl, rfl, trivial⟩, rfl⟩, fun i0 hi0 _ => ?_⟩
  refine ⟨fun h7 => ?_, fun h7 => ?_⟩
  · replace h7 := of_decide_eq_true h7
    refine ⟨i0, i0 * 8, rfl, by omega, by omega, ?_⟩   -- 11
    refine ⟨⟨by first | omega | (simp <;> omega), by first | omega | (simp <;> omega)⟩, ?_⟩   -- 12 := lda [['.t', 11], 0, 8]
    refine ⟨i0, i0 * 8, rfl, by omega, by omega, ?_⟩   -- 14
    refine ⟨⟨by first | omega | (simp <;> omega), by first | omega | (simp <;> omega)⟩, ?_⟩   -- 15 := lda [['.t', 14], 0, 8]
    refine ⟨2, [], _, _, _, _, [_, _], rfl, l_eqVector_ok B E.2 , rfl, trivial, rfl, rfl, ?_⟩   -- 16
    refine ⟨fun h17 => ?_, fun h17 => ?_⟩
    · skip
      exact absurd h17 (by decide)
    · skip
      refine ⟨((i0 + 1 : Nat) : Int), w64_id _ (by omega) (by omega), ?_⟩   -- 9
      exact ⟨by omega, trivial, ⟨rfl, rfl, rfl, trivial⟩, ⟨rfl, rfl, trivial⟩, rfl⟩
  · replace h7 := of_decide_eq_false h7
    have e0 : 8 = i0 := by omega
    subst e0
    exact ⟨rfl, [], rfl, rfl, trivial, rfl, rfl⟩

theorem l_eqLinearA8_ok (B : Bs P ρ) (E : E_l_eqLinearA8 P ρ) {f : By} :
    CallOK P ρ 29 [.ag [] 512 f, .ag [] 512 f] [] (.one (.b true)) [] := by
  refine call_of_vc B.fn B.mo E.1 rfl rfl ?_
  refine ⟨0, rfl, ?_⟩   -- .box 2
  refine ⟨1, rfl, ?_⟩   -- .box 3
  refine ⟨(fun b0 b1 i0 => St.mk [(2, .one (.pt 0 0)), (3, .one (.pt 1 0)), (5, .one (.i .i64 ((i0 : Nat) : Int)))] [b0, b1]) _ _ , fun i0 => True, 8, trivial, ⟨⟨rfl, rfl, rfl, trivial⟩, ⟨rfl, rfl, trivial⟩, rfl⟩, fun i0 hi0 _ => ?_⟩
  refine ⟨fun h7 => ?_, fun h7 => ?_⟩
  · replace h7 := of_decide_eq_true h7
    refine ⟨i0, i0 * 64, rfl, by omega, by omega, ?_⟩   -- 11
    refine ⟨⟨by first | omega | (simp <;> omega), by first | omega | (simp <;> omega)⟩, ?_⟩   -- 12 := lda [['.t', 11], 0, 64]
    refine ⟨i0, i0 * 64, rfl, by omega, by omega, ?_⟩   -- 14
    refine ⟨⟨by first | omega | (simp <;> omega), by first | omega | (simp <;> omega)⟩, ?_⟩   -- 15 := lda [['.t', 14], 0, 64]
    refine ⟨2, [], _, _, _, _, [_, _], rfl, l_eqLinear_ok B E.2 , rfl, trivial, rfl, rfl, ?_⟩   -- 16
    refine ⟨fun h17 => ?_, fun h17 => ?_⟩
    · skip
      exact absurd h17 (by decide)
    · skip
      refine ⟨((i0 + 1 : Nat) : Int), w64_id _ (by omega) (by omega), ?_⟩   -- 9
      exact ⟨by omega, trivial, ⟨rfl, rfl, rfl, trivial⟩, ⟨rfl, rfl, trivial⟩, rfl⟩
  · replace h7 := of_decide_eq_false h7
    have e0 : 8 = i0 := by omega
    subst e0
    exact ⟨rfl, [], rfl, rfl, trivial, rfl, rfl⟩

theorem l_eqModule_ok (B : Bs P ρ) (E : E_l_eqModule P ρ) {n : Int} {f : By} :
    CallOK P ρ 3 [.ag [n] 513 f, .ag [n] 513 f] [] (.one (.b true)) [] := by
  refine call_of_vc B.fn B.mo E.1 rfl rfl ?_
  refine ⟨0, rfl, ?_⟩   -- .box 2
  refine ⟨1, rfl, ?_⟩   -- .box 3
  refine ⟨fun h9 => ?_, fun h9 => ?_⟩
  · replace h9 := bne_t h9
    exact (h9 rfl).elim
  · replace h9 := bne_f h9
    refine ⟨⟨by first | omega | (simp <;> omega), by first | omega | (simp <;> omega)⟩, ?_⟩   -- 11 := lda [['.t', 10], 0, 512]
    refine ⟨⟨by first | omega | (simp <;> omega), by first | omega | (simp <;> omega)⟩, ?_⟩   -- 13 := lda [['.t', 12], 0, 512]
    refine ⟨2, [], _, _, _, _, [_, _], rfl, l_eqLinearA8_ok B E.2 , rfl, trivial, rfl, rfl, ?_⟩   -- 14
    refine ⟨fun h15 => ?_, fun h15 => ?_⟩
    · skip
      exact absurd h15 (by decide)
    · skip
      exact ⟨rfl, [], rfl, rfl, trivial, rfl, rfl⟩

/-- what a function answers, or nothing -/
noncomputable def oi (q : Prop) (a : Int) : Int := if q then a else 0
noncomputable def ob (q : Prop) (f : By) : By := if q then f else fun _ => 0
noncomputable def oc (q : Prop) (c : Int) : Int := if q then 0 else c
theorem oi_t {q : Prop} (h : q) {a : Int} : oi q a = a := if_pos h
theorem ob_t {q : Prop} (h : q) {f : By} : ob q f = f := if_pos h
theorem oc_t {q : Prop} (h : q) {c : Int} : oc q c = 0 := if_pos h
theorem oi_f {q : Prop} (h : ¬ q) {a : Int} : oi q a = 0 := if_neg h
theorem ob_f {q : Prop} (h : ¬ q) {f : By} : ob q f = fun _ => 0 := if_neg h
theorem oc_f {q : Prop} (h : ¬ q) {c : Int} : oc q c = c := if_neg h

theorem i_RegularModule_ok (B : Bs P ρ) (E : E_i_RegularModule P ρ) {n p : Int} {f : By} :
    CallOK P ρ 2 [.ag [p, n] 1106 f] [] (.tup [.ag [oi (Hop p n f) n] 513 (ob (Hop p n f) (modT f 10)), .i .i64 (oc (Hop p n f) 1)]) [] := by
  refine call_of_vc B.fn B.mo E.1 rfl rfl ?_
  refine ⟨0, rfl, ?_⟩   -- .box 1
  refine ⟨1, rfl, ?_⟩   -- .alo 2
  refine ⟨2, [0], _, _, _, _, [_, _], rfl, i_Hopf_code_nil_ok B E.2.1 , rfl, ⟨⟨_, rfl, fun h => by first | rfl | cases h⟩, trivial⟩, rfl, rfl, ?_⟩   -- 5
  refine ⟨fun h7 => ?_, fun h7 => ?_⟩
  · replace h7 := bne_t h7
    have hH : ¬ Hop p n f := fun q => h7 (if_pos q)
    refine ⟨rfl, ⟨by first | omega | (simp <;> omega), by first | omega | (simp <;> omega)⟩, [], ?_, rfl, trivial, rfl, rfl⟩
    rw [oi_f hH, ob_f hH, oc_f hH, if_neg hH]; rfl
  · replace h7 := bne_f h7
    have hH : Hop p n f := Classical.byContradiction fun q => by rw [if_neg q] at h7; cases h7
    refine ⟨2, [0], _, _, _, _, [_, _], rfl, i_Hopf_regular_ok B E.2.2 , rfl, ⟨⟨_, rfl, fun h => by first | rfl | cases h⟩, trivial⟩, rfl, rfl, ?_⟩   -- 10
    refine ⟨rfl, ⟨by first | omega | (simp <;> omega), by first | omega | (simp <;> omega)⟩, [], ?_, rfl, trivial, rfl, rfl⟩
    rw [oi_t hH, ob_t hH, oc_t hH]; rfl

theorem s_RegularModule_ok (B : Bs P ρ) (E : E_s_RegularModule P ρ) {n p : Int} {f : By} :
    CallOK P ρ 1 [.ag [p, n] 1106 f] [] (.tup [.ag [oi (Hop p n f) n] 513 (ob (Hop p n f) (modT f 10)), .i .i64 (oc (Hop p n f) 1)]) [] := by
  refine call_of_vc B.fn B.mo E.1 rfl rfl ?_
  refine ⟨0, rfl, ?_⟩   -- .box 1
  refine ⟨1, rfl, ?_⟩   -- .alo 2
  refine ⟨2, [], _, _, _, _, [_, _], rfl, s_l03Is_ok B E.2 , rfl, trivial, rfl, rfl, ?_⟩   -- 5
  refine ⟨fun h6 => ?_, fun h6 => ?_⟩
  · skip
    have hH : ¬ Hop p n f := dec_elim_t' (not_t h6)
    refine ⟨rfl, ⟨by first | omega | (simp <;> omega), by first | omega | (simp <;> omega)⟩, [], ?_, rfl, trivial, rfl, rfl⟩
    rw [oi_f hH, ob_f hH, oc_f hH]; rfl
  · skip
    have hH : Hop p n f := dec_elim_t (not_f h6)
    refine ⟨⟨by first | omega | (simp <;> omega), by first | omega | (simp <;> omega)⟩, ?_⟩   -- 11 := lda [['.t', 10], 0, 512]
    refine ⟨rfl, ⟨by first | omega | (simp <;> omega), by first | omega | (simp <;> omega)⟩, [], ?_, rfl, trivial, rfl, rfl⟩
    rw [oi_t hH, ob_t hH, oc_t hH]; rfl

theorem l_FnExactRegularModule_ok (B : Bs P ρ) (E : E_l_FnExactRegularModule P ρ) {n p : Int} {f : By} :
    CallOK P ρ 4 [.ag [p, n] 1106 f] [] (.one (.b true)) [] := by
  refine call_of_vc B.fn B.mo E.1 rfl rfl ?_
  refine ⟨0, rfl, ?_⟩   -- .box 1
  refine ⟨1, [], _, _, _, _, [_], rfl, l_toHopf_ok B E.2.1 , rfl, trivial, rfl, rfl, ?_⟩   -- 9
  refine ⟨1, [], _, _, _, _, [_], rfl, s_RegularModule_ok B E.2.2.1 , rfl, trivial, rfl, rfl, ?_⟩   -- 10
  refine ⟨1, rfl, ?_⟩   -- .alo 3
  refine ⟨2, [], _, _, _, _, [_, _], rfl, l_toHopf_ok B E.2.1 , rfl, trivial, rfl, rfl, ?_⟩   -- 15
  refine ⟨2, [], _, _, _, _, [_, _], rfl, i_RegularModule_ok B E.2.2.2.1 , rfl, trivial, rfl, rfl, ?_⟩   -- 16
  refine ⟨2, rfl, ?_⟩   -- .alo 5
  refine ⟨3, [], _, _, _, _, [_, _, _], rfl, l_eqModule_ok B E.2.2.2.2 , rfl, trivial, rfl, rfl, ?_⟩   -- 21
  refine ⟨fun h23 => ?_, fun h23 => ?_⟩
  · skip
    exact absurd h23 (by decide)
  · skip
    refine brB_f ?_
    refine brB_f ?_
    refine brB_f ?_
    refine ⟨fun h27 => ?_, fun h27 => ?_⟩
    · replace h27 := bne_t h27
      exact (h27 rfl).elim
    · replace h27 := bne_f h27
      exact ⟨rfl, [], rfl, rfl, trivial, rfl, rfl⟩

end Hf
namespace Hf
open Go Classical
variable {P : Program} {ρ : Nat → FuncId}
theorem l_eqTable_ok (B : Bs P ρ) (E : E_l_eqTable P ρ) {f : By} :
    CallOK P ρ 37 [.ag [] 512 f, .ag [] 512 f] [] (.one (.b true)) [] := by
  refine call_of_vc B.fn B.mo E.1 rfl rfl ?_
  refine ⟨0, rfl, ?_⟩   -- .box 2
  refine ⟨1, rfl, ?_⟩   -- .box 3
  refine ⟨(fun b0 b1 i0 => St.mk [(2, .one (.pt 0 0)), (3, .one (.pt 1 0)), (5, .one (.i .i64 ((i0 : Nat) : Int)))] [b0, b1]) _ _ , fun i0 => True, 8, trivial, ⟨⟨rfl, rfl, rfl, trivial⟩, ⟨rfl, rfl, trivial⟩, rfl⟩, fun i0 hi0 _ => ?_⟩
  refine ⟨fun h7 => ?_, fun h7 => ?_⟩
  · replace h7 := of_decide_eq_true h7
    refine ⟨i0, i0 * 64, rfl, by omega, by omega, ?_⟩   -- 11
    refine ⟨⟨by first | omega | (simp <;> omega), by first | omega | (simp <;> omega)⟩, ?_⟩   -- 12 := lda [['.t', 11], 0, 64]
    refine ⟨i0, i0 * 64, rfl, by omega, by omega, ?_⟩   -- 14
    refine ⟨⟨by first | omega | (simp <;> omega), by first | omega | (simp <;> omega)⟩, ?_⟩   -- 15 := lda [['.t', 14], 0, 64]
    refine ⟨2, [], _, _, _, _, [_, _], rfl, l_eqLinear_ok B E.2 , rfl, trivial, rfl, rfl, ?_⟩   -- 16
    refine ⟨fun h17 => ?_, fun h17 => ?_⟩
    · skip
      exact absurd h17 (by decide)
    · skip
      refine ⟨((i0 + 1 : Nat) : Int), w64_id _ (by omega) (by omega), ?_⟩   -- 9
      exact ⟨by omega, trivial, ⟨rfl, rfl, rfl, trivial⟩, ⟨rfl, rfl, trivial⟩, rfl⟩
  · replace h7 := of_decide_eq_false h7
    have e0 : 8 = i0 := by omega
    subst e0
    exact ⟨rfl, [], rfl, rfl, trivial, rfl, rfl⟩

theorem l_eqAlgebra_ok (B : Bs P ρ) (E : E_l_eqAlgebra P ρ) {p n : Int} {f : By} :
    CallOK P ρ 10 [.ag [p, n] 522 f, .ag [p, n] 522 f] [] (.one (.b true)) [] := by
  refine call_of_vc B.fn B.mo E.1 rfl rfl ?_
  refine ⟨0, rfl, ?_⟩   -- .box 2
  refine ⟨1, rfl, ?_⟩   -- .box 3
  refine ⟨fun h9 => ?_, fun h9 => ?_⟩
  · replace h9 := bne_t h9
    exact (h9 rfl).elim
  · replace h9 := bne_f h9
    refine ⟨fun h14 => ?_, fun h14 => ?_⟩
    · replace h14 := bne_t h14
      exact (h14 rfl).elim
    · replace h14 := bne_f h14
      refine ⟨⟨by first | omega | (simp <;> omega), by first | omega | (simp <;> omega)⟩, ?_⟩   -- 16 := lda [['.t', 15], 0, 8]
      refine ⟨⟨by first | omega | (simp <;> omega), by first | omega | (simp <;> omega)⟩, ?_⟩   -- 18 := lda [['.t', 17], 0, 8]
      refine ⟨2, [], _, _, _, _, [_, _], rfl, l_eqVector_ok B E.2.1 , rfl, trivial, rfl, rfl, ?_⟩   -- 19
      refine ⟨fun h20 => ?_, fun h20 => ?_⟩
      · skip
        exact absurd h20 (by decide)
      · skip
        refine ⟨⟨by first | omega | (simp <;> omega), by first | omega | (simp <;> omega)⟩, ?_⟩   -- 22 := lda [['.t', 21], 0, 512]
        refine ⟨⟨by first | omega | (simp <;> omega), by first | omega | (simp <;> omega)⟩, ?_⟩   -- 24 := lda [['.t', 23], 0, 512]
        refine ⟨2, [], _, _, _, _, [_, _], rfl, l_eqTable_ok B E.2.2 , rfl, trivial, rfl, rfl, ?_⟩   -- 25
        refine ⟨fun h26 => ?_, fun h26 => ?_⟩
        · skip
          exact absurd h26 (by decide)
        · skip
          exact ⟨rfl, [], rfl, rfl, trivial, rfl, rfl⟩

theorem l_eqCoalgebra_ok (B : Bs P ρ) (E : E_l_eqCoalgebra P ρ) {p n : Int} {f : By} :
    CallOK P ρ 14 [.ag [p, n] 522 f, .ag [p, n] 522 f] [] (.one (.b true)) [] := by
  refine call_of_vc B.fn B.mo E.1 rfl rfl ?_
  refine ⟨0, rfl, ?_⟩   -- .box 2
  refine ⟨1, rfl, ?_⟩   -- .box 3
  refine ⟨fun h9 => ?_, fun h9 => ?_⟩
  · replace h9 := bne_t h9
    exact (h9 rfl).elim
  · replace h9 := bne_f h9
    refine ⟨fun h14 => ?_, fun h14 => ?_⟩
    · replace h14 := bne_t h14
      exact (h14 rfl).elim
    · replace h14 := bne_f h14
      refine ⟨⟨by first | omega | (simp <;> omega), by first | omega | (simp <;> omega)⟩, ?_⟩   -- 16 := lda [['.t', 15], 0, 8]
      refine ⟨⟨by first | omega | (simp <;> omega), by first | omega | (simp <;> omega)⟩, ?_⟩   -- 18 := lda [['.t', 17], 0, 8]
      refine ⟨2, [], _, _, _, _, [_, _], rfl, l_eqVector_ok B E.2.1 , rfl, trivial, rfl, rfl, ?_⟩   -- 19
      refine ⟨fun h20 => ?_, fun h20 => ?_⟩
      · skip
        exact absurd h20 (by decide)
      · skip
        refine ⟨⟨by first | omega | (simp <;> omega), by first | omega | (simp <;> omega)⟩, ?_⟩   -- 22 := lda [['.t', 21], 0, 512]
        refine ⟨⟨by first | omega | (simp <;> omega), by first | omega | (simp <;> omega)⟩, ?_⟩   -- 24 := lda [['.t', 23], 0, 512]
        refine ⟨2, [], _, _, _, _, [_, _], rfl, l_eqTable_ok B E.2.2 , rfl, trivial, rfl, rfl, ?_⟩   -- 25
        refine ⟨fun h26 => ?_, fun h26 => ?_⟩
        · skip
          exact absurd h26 (by decide)
        · skip
          exact ⟨rfl, [], rfl, rfl, trivial, rfl, rfl⟩

theorem i_AlgebraOf_ok (B : Bs P ρ) (E : E_i_AlgebraOf P ρ) {n p : Int} {f : By} :
    CallOK P ρ 9 [.ag [p, n] 1106 f] [] (.tup [.ag [oi (Hop p n f) p, oi (Hop p n f) n] 522 (ob (Hop p n f) f), .i .i64 (oc (Hop p n f) 1)]) [] := by
  refine call_of_vc B.fn B.mo E.1 rfl rfl ?_
  refine ⟨0, rfl, ?_⟩   -- .box 1
  refine ⟨1, rfl, ?_⟩   -- .alo 2
  refine ⟨2, [0], _, _, _, _, [_, _], rfl, i_Hopf_code_nil_ok B E.2.1 , rfl, ⟨⟨_, rfl, fun h => by first | rfl | cases h⟩, trivial⟩, rfl, rfl, ?_⟩   -- 5
  refine ⟨fun h7 => ?_, fun h7 => ?_⟩
  · replace h7 := bne_t h7
    have hH : ¬ Hop p n f := fun q => h7 (if_pos q)
    refine ⟨rfl, ⟨by first | omega | (simp <;> omega), by first | omega | (simp <;> omega)⟩, [], ?_, rfl, trivial, rfl, rfl⟩
    rw [oi_f hH, oi_f hH, ob_f hH, oc_f hH, if_neg hH]; rfl
  · replace h7 := bne_f h7
    have hH : Hop p n f := Classical.byContradiction fun q => by rw [if_neg q] at h7; cases h7
    refine ⟨2, [0], _, _, _, _, [_, _, _], rfl, i_Hopf_algebra_ok B E.2.2 , rfl, ⟨⟨_, rfl, fun h => by first | rfl | cases h⟩, trivial⟩, rfl, rfl, ?_⟩   -- 10
    refine ⟨rfl, ⟨by first | omega | (simp <;> omega), by first | omega | (simp <;> omega)⟩, [], ?_, rfl, trivial, rfl, rfl⟩
    rw [oi_t hH, oi_t hH, ob_t hH, oc_t hH]; rfl

theorem i_CoalgebraOf_ok (B : Bs P ρ) (E : E_i_CoalgebraOf P ρ) {n p : Int} {f : By} :
    CallOK P ρ 13 [.ag [p, n] 1106 f] [] (.tup [.ag [oi (Hop p n f) p, oi (Hop p n f) n] 522 (ob (Hop p n f) (sh f 520)), .i .i64 (oc (Hop p n f) 1)]) [] := by
  refine call_of_vc B.fn B.mo E.1 rfl rfl ?_
  refine ⟨0, rfl, ?_⟩   -- .box 1
  refine ⟨1, rfl, ?_⟩   -- .alo 2
  refine ⟨2, [0], _, _, _, _, [_, _], rfl, i_Hopf_code_nil_ok B E.2.1 , rfl, ⟨⟨_, rfl, fun h => by first | rfl | cases h⟩, trivial⟩, rfl, rfl, ?_⟩   -- 5
  refine ⟨fun h7 => ?_, fun h7 => ?_⟩
  · replace h7 := bne_t h7
    have hH : ¬ Hop p n f := fun q => h7 (if_pos q)
    refine ⟨rfl, ⟨by first | omega | (simp <;> omega), by first | omega | (simp <;> omega)⟩, [], ?_, rfl, trivial, rfl, rfl⟩
    rw [oi_f hH, oi_f hH, ob_f hH, oc_f hH, if_neg hH]; rfl
  · replace h7 := bne_f h7
    have hH : Hop p n f := Classical.byContradiction fun q => by rw [if_neg q] at h7; cases h7
    refine ⟨2, [0], _, _, _, _, [_, _, _], rfl, i_Hopf_coalgebra_ok B E.2.2 , rfl, ⟨⟨_, rfl, fun h => by first | rfl | cases h⟩, trivial⟩, rfl, rfl, ?_⟩   -- 10
    refine ⟨rfl, ⟨by first | omega | (simp <;> omega), by first | omega | (simp <;> omega)⟩, [], ?_, rfl, trivial, rfl, rfl⟩
    rw [oi_t hH, oi_t hH, ob_t hH, oc_t hH]; rfl

theorem s_AlgebraOf_ok (B : Bs P ρ) (E : E_s_AlgebraOf P ρ) {n p : Int} {f : By} :
    CallOK P ρ 8 [.ag [p, n] 1106 f] [] (.tup [.ag [oi (Hop p n f) p, oi (Hop p n f) n] 522 (ob (Hop p n f) f), .i .i64 (oc (Hop p n f) 1)]) [] := by
  refine call_of_vc B.fn B.mo E.1 rfl rfl ?_
  refine ⟨0, rfl, ?_⟩   -- .box 1
  refine ⟨1, rfl, ?_⟩   -- .alo 2
  refine ⟨2, [], _, _, _, _, [_, _], rfl, s_l03Is_ok B E.2.1 , rfl, trivial, rfl, rfl, ?_⟩   -- 5
  refine ⟨fun h6 => ?_, fun h6 => ?_⟩
  · skip
    have hH : ¬ Hop p n f := dec_elim_t' (not_t h6)
    refine ⟨rfl, ⟨by first | omega | (simp <;> omega), by first | omega | (simp <;> omega)⟩, [], ?_, rfl, trivial, rfl, rfl⟩
    rw [oi_f hH, oi_f hH, ob_f hH, oc_f hH]; rfl
  · skip
    have hH : Hop p n f := dec_elim_t (not_f h6)
    refine ⟨2, [], _, _, _, _, [_, _], rfl, s_l03Algebra_ok B E.2.2 , rfl, trivial, rfl, rfl, ?_⟩   -- 9
    refine ⟨rfl, ⟨by first | omega | (simp <;> omega), by first | omega | (simp <;> omega)⟩, [], ?_, rfl, trivial, rfl, rfl⟩
    rw [oi_t hH, oi_t hH, ob_t hH, oc_t hH]; rfl

theorem s_CoalgebraOf_ok (B : Bs P ρ) (E : E_s_CoalgebraOf P ρ) {n p : Int} {f : By} :
    CallOK P ρ 12 [.ag [p, n] 1106 f] [] (.tup [.ag [oi (Hop p n f) p, oi (Hop p n f) n] 522 (ob (Hop p n f) (sh f 520)), .i .i64 (oc (Hop p n f) 1)]) [] := by
  refine call_of_vc B.fn B.mo E.1 rfl rfl ?_
  refine ⟨0, rfl, ?_⟩   -- .box 1
  refine ⟨1, rfl, ?_⟩   -- .alo 2
  refine ⟨2, [], _, _, _, _, [_, _], rfl, s_l03Is_ok B E.2.1 , rfl, trivial, rfl, rfl, ?_⟩   -- 5
  refine ⟨fun h6 => ?_, fun h6 => ?_⟩
  · skip
    have hH : ¬ Hop p n f := dec_elim_t' (not_t h6)
    refine ⟨rfl, ⟨by first | omega | (simp <;> omega), by first | omega | (simp <;> omega)⟩, [], ?_, rfl, trivial, rfl, rfl⟩
    rw [oi_f hH, oi_f hH, ob_f hH, oc_f hH]; rfl
  · skip
    have hH : Hop p n f := dec_elim_t (not_f h6)
    refine ⟨2, [], _, _, _, _, [_, _], rfl, s_l03Coalgebra_ok B E.2.2 , rfl, trivial, rfl, rfl, ?_⟩   -- 9
    refine ⟨rfl, ⟨by first | omega | (simp <;> omega), by first | omega | (simp <;> omega)⟩, [], ?_, rfl, trivial, rfl, rfl⟩
    rw [oi_t hH, oi_t hH, ob_t hH, oc_t hH]; rfl

theorem l_FnExactAlgebraOf_ok (B : Bs P ρ) (E : E_l_FnExactAlgebraOf P ρ) {p n : Int} {f : By} :
    CallOK P ρ 11 [.ag [p, n] 1106 f] [] (.one (.b true)) [] := by
  refine call_of_vc B.fn B.mo E.1 rfl rfl ?_
  refine ⟨0, rfl, ?_⟩   -- .box 1
  refine ⟨1, [], _, _, _, _, [_], rfl, l_toHopf_ok B E.2.1 , rfl, trivial, rfl, rfl, ?_⟩   -- 9
  refine ⟨1, [], _, _, _, _, [_], rfl, s_AlgebraOf_ok B E.2.2.1 , rfl, trivial, rfl, rfl, ?_⟩   -- 10
  refine ⟨1, rfl, ?_⟩   -- .alo 3
  refine ⟨2, [], _, _, _, _, [_, _], rfl, l_toHopf_ok B E.2.1 , rfl, trivial, rfl, rfl, ?_⟩   -- 15
  refine ⟨2, [], _, _, _, _, [_, _], rfl, i_AlgebraOf_ok B E.2.2.2.1 , rfl, trivial, rfl, rfl, ?_⟩   -- 16
  refine ⟨2, rfl, ?_⟩   -- .alo 5
  refine ⟨3, [], _, _, _, _, [_, _, _], rfl, l_eqAlgebra_ok B E.2.2.2.2 , rfl, trivial, rfl, rfl, ?_⟩   -- 21
  refine ⟨fun h23 => ?_, fun h23 => ?_⟩
  · skip
    exact absurd h23 (by decide)
  · skip
    refine brB_f ?_
    refine brB_f ?_
    refine brB_f ?_
    refine ⟨fun h27 => ?_, fun h27 => ?_⟩
    · replace h27 := bne_t h27
      exact (h27 rfl).elim
    · replace h27 := bne_f h27
      exact ⟨rfl, [], rfl, rfl, trivial, rfl, rfl⟩

theorem l_FnExactCoalgebraOf_ok (B : Bs P ρ) (E : E_l_FnExactCoalgebraOf P ρ) {p n : Int} {f : By} :
    CallOK P ρ 15 [.ag [p, n] 1106 f] [] (.one (.b true)) [] := by
  refine call_of_vc B.fn B.mo E.1 rfl rfl ?_
  refine ⟨0, rfl, ?_⟩   -- .box 1
  refine ⟨1, [], _, _, _, _, [_], rfl, l_toHopf_ok B E.2.1 , rfl, trivial, rfl, rfl, ?_⟩   -- 9
  refine ⟨1, [], _, _, _, _, [_], rfl, s_CoalgebraOf_ok B E.2.2.1 , rfl, trivial, rfl, rfl, ?_⟩   -- 10
  refine ⟨1, rfl, ?_⟩   -- .alo 3
  refine ⟨2, [], _, _, _, _, [_, _], rfl, l_toHopf_ok B E.2.1 , rfl, trivial, rfl, rfl, ?_⟩   -- 15
  refine ⟨2, [], _, _, _, _, [_, _], rfl, i_CoalgebraOf_ok B E.2.2.2.1 , rfl, trivial, rfl, rfl, ?_⟩   -- 16
  refine ⟨2, rfl, ?_⟩   -- .alo 5
  refine ⟨3, [], _, _, _, _, [_, _, _], rfl, l_eqCoalgebra_ok B E.2.2.2.2 , rfl, trivial, rfl, rfl, ?_⟩   -- 21
  refine ⟨fun h23 => ?_, fun h23 => ?_⟩
  · skip
    exact absurd h23 (by decide)
  · skip
    refine brB_f ?_
    refine brB_f ?_
    refine brB_f ?_
    refine ⟨fun h27 => ?_, fun h27 => ?_⟩
    · replace h27 := bne_t h27
      exact (h27 rfl).elim
    · replace h27 := bne_f h27
      exact ⟨rfl, [], rfl, rfl, trivial, rfl, rfl⟩

theorem spl_cut {n : Nat} {g : By} : spl (fun _ => 0) 0 n g = cut n g := by
  funext x
  simp only [spl, cut]
  by_cases h : x < n
  · rw [if_pos (by omega), if_pos h]; rfl
  · rw [if_neg (by omega), if_neg h]
theorem vec_more {a N : Nat} {p : Int} {X : Nat → Int} (h : a ≤ N) (h0 : ∀ y, a ≤ y → y < N → X y = 0) : vec a p X = vec N p X := by
  funext y
  simp only [vec]
  by_cases e : y < a
  · rw [if_pos e, if_pos (by omega)]
  · rw [if_neg e]
    by_cases e2 : y < N
    · rw [if_pos e2, h0 y (by omega) e2]; simp; rfl
    · rw [if_neg e2]
/-- two linear maps one after the other: first fb, at ob -/
def aft (fa fb : By) (oa ob y : Nat) : Int := sm 8 fun k => bz fb (ob + y / 8 * 8 + k) * bz fa (oa + k * 8 + y % 8)
def thn (n : Nat) (f g : By) (y : Nat) : Int := if y / 8 < n then sm n fun k => bz f (y / 8 * 8 + k) * bz g (k * 8 + y % 8) else 0
/-- the linear map that leads each vector to itself -/
def sam (n : Nat) : By := fun y => if y / 8 < n ∧ y % 8 = y / 8 then 1 else 0
theorem sam_0 : sam 0 = fun _ => 0 := by funext y; simp only [sam]; rw [if_neg (by omega)]
theorem sam_s {i : Nat} (hi : i < 8) : spl (sam i) (i * 8) 8 (bas i) = sam (i + 1) := by
  funext y
  simp only [spl, sam, bas]
  by_cases e : i * 8 ≤ y ∧ y < i * 8 + 8
  · rw [if_pos e]
    by_cases e2 : y - i * 8 = i
    · rw [if_pos e2, if_pos (by omega)]
    · rw [if_neg e2, if_neg (by omega)]
  · rw [if_neg e]
    by_cases e2 : y / 8 < i ∧ y % 8 = y / 8
    · rw [if_pos e2, if_pos (by omega)]
    · rw [if_neg e2, if_neg (by omega)]
theorem sam_out {n : Nat} (hn : n ≤ 8) : ∀ y, 64 ≤ y → sam n y = 0 := fun y hy => by simp only [sam]; rw [if_neg (by omega)]

theorem i_field_after_ok (B : Bs P ρ) (E : E_i_field_after P ρ) {p n : Int} {g fa fb : By} {hda hdb : List Int} {Na Nb oa ob : Nat} (hp : 1 ≤ p) (hp2 : p ≤ 256) (hoa : hda.length ≤ oa) (hNa : oa + 64 ≤ Na) (hob : hdb.length ≤ ob) (hNb : ob + 64 ≤ Nb) :
    CallOK P ρ 33 [.ag [p, n] 2 g, .pt 0 oa, .pt 1 ob] [⟨true, .by hda Na fa⟩, ⟨true, .by hdb Nb fb⟩] (.one (.ag [] 64 (vec 64 p (aft fa fb oa ob)))) [⟨true, .by hda Na fa⟩, ⟨true, .by hdb Nb fb⟩] := by
  refine call_of_vc B.fn B.mo E.1 rfl rfl ?_
  refine ⟨2, rfl, ?_⟩   -- .box 3
  refine ⟨3, rfl, ?_⟩   -- .alo 6
  refine ⟨4, rfl, ?_⟩   -- .alo 7
  refine ⟨⟨rfl, by first | omega | (simp <;> omega), by first | omega | (simp <;> omega)⟩, ?_⟩   -- sta ['.t', 7] ['.t', 9] 64
  refine ⟨(fun a1 a2 b0 b1 b2 b3 i0 => St.mk [(1, a1), (2, a2), (3, .one (.pt 2 0)), (6, .one (.pt 3 0)), (7, .one (.pt 4 0)), (10, .one (.i .i64 ((i0 : Nat) : Int)))] [b0, b1, b2, b3, Blk.mk false (.by [] 64 (vec (i0 * 8) p (aft fa fb oa ob)))]) _ _ _ _ _ _ , fun i0 => True, 8, trivial, ⟨⟨rfl, rfl, rfl, rfl, rfl, rfl, trivial⟩, ⟨rfl, rfl, rfl, rfl, ?_, trivial⟩, rfl⟩, fun i0 hi0 _ => ?_⟩
  · refine blk_by ?_
    rw [z_spl _ _ (fun _ _ => rfl)]
    rfl
  refine ⟨fun h11 => ?_, fun h11 => ?_⟩
  · replace h11 := of_decide_eq_true h11
    refine ⟨i0, ob + i0 * 8, rfl, by omega, by omega, ?_⟩   -- 19
    refine ⟨⟨by first | omega | (simp <;> omega), by first | omega | (simp <;> omega)⟩, ?_⟩   -- 20 := lda [['.t', 19], 0, 8]
    refine ⟨5, [0], _, _, _, _, [_, _, _, _, _], rfl, i_field_apply_ok B E.2 (m := 8) hp hp2 hoa hNa (by omega) (fun i h1 h2 => by omega), rfl, ⟨⟨_, rfl, fun h => by first | rfl | cases h⟩, trivial⟩, rfl, rfl, rfl, ?_⟩   -- 21
    refine ⟨i0, i0 * 8, rfl, by omega, by omega, ?_⟩   -- 22
    refine ⟨⟨rfl, by first | omega | (simp <;> omega), by first | omega | (simp <;> omega)⟩, ?_⟩   -- sta ['.t', 22] ['.t', 21] 8
    refine ⟨((i0 + 1 : Nat) : Int), w64_id _ (by omega) (by omega), ?_⟩   -- 23
    refine ⟨by omega, trivial, ⟨rfl, rfl, rfl, rfl, rfl, rfl, trivial⟩, ⟨rfl, rfl, rfl, rfl, ?_, trivial⟩, rfl⟩
    refine blk_by ?_
    rw [show (i0 + 1) * 8 = i0 * 8 + 8 by omega]
    refine (spl_vec (y := fun y => sm 8 fun k => bz fb (ob + i0 * 8 + k) * bz fa (oa + k * 8 + y)) (fun k hk => rfl) fun k hk => ?_).symm
    unfold aft
    rw [show (i0 * 8 + k) / 8 = i0 by omega, show (i0 * 8 + k) % 8 = k by omega]
    rfl
  · replace h11 := of_decide_eq_false h11
    have e0 : 8 = i0 := by omega
    subst e0
    refine ⟨⟨by first | omega | (simp <;> omega), by first | omega | (simp <;> omega)⟩, ?_⟩   -- 24 := lda [['.t', 7], 0, 64]
    refine ⟨⟨rfl, by first | omega | (simp <;> omega), by first | omega | (simp <;> omega)⟩, ?_⟩   -- sta ['.t', 6] ['.t', 24] 64
    refine ⟨rfl, ⟨by first | omega | (simp <;> omega), by first | omega | (simp <;> omega)⟩, [], ?_, rfl, ⟨rfl, rfl, trivial⟩, rfl, rfl⟩
    exact one_ag out_vec

theorem s_l01Then_ok (B : Bs P ρ) (E : E_s_l01Then P ρ) {p : Int} {n : Nat} {f g : By} (hp : 1 ≤ p) (hp2 : p ≤ 256) (hn : n ≤ 8) :
    CallOK P ρ 30 [.i .i64 p, .i .i64 (n : Int), .ag [] 64 f, .ag [] 64 g] [] (.one (.ag [] 64 (vec 64 p (thn n f g)))) [] := by
  refine call_of_vc B.fn B.mo E.1 rfl rfl ?_
  refine ⟨0, rfl, ?_⟩   -- .box 6
  refine ⟨1, rfl, ?_⟩   -- .box 7
  refine ⟨2, rfl, ?_⟩   -- .alo 8
  refine ⟨3, rfl, ?_⟩   -- .alo 9
  refine ⟨⟨rfl, by first | omega | (simp <;> omega), by first | omega | (simp <;> omega)⟩, ?_⟩   -- sta ['.t', 9] ['.t', 11] 64
  refine ⟨(fun a0 a1 b0 b1 b2 i0 => St.mk [(0, a0), (1, a1), (6, .one (.pt 0 0)), (7, .one (.pt 1 0)), (8, .one (.pt 2 0)), (9, .one (.pt 3 0)), (10, .one (.i .i64 ((i0 : Nat) : Int)))] [b0, b1, b2, Blk.mk false (.by [] 64 (vec (i0 * 8) p (thn n f g)))]) _ _ _ _ _ , fun i0 => True, n, trivial, ⟨⟨rfl, rfl, rfl, rfl, rfl, rfl, rfl, trivial⟩, ⟨rfl, rfl, rfl, ?_, trivial⟩, rfl⟩, fun i0 hi0 _ => ?_⟩
  · refine blk_by ?_
    rw [z_spl _ _ (fun _ _ => rfl)]
    rfl
  refine ⟨fun h14 => ?_, fun h14 => ?_⟩
  · replace h14 := of_decide_eq_true h14
    refine ⟨⟨by first | omega | (simp <;> omega), by first | omega | (simp <;> omega)⟩, ?_⟩   -- 20 := lda [['.t', 7], 0, 64]
    refine ⟨i0, i0 * 8, rfl, by omega, by omega, ?_⟩   -- 22
    refine ⟨⟨by first | omega | (simp <;> omega), by first | omega | (simp <;> omega)⟩, ?_⟩   -- 23 := lda [['.t', 22], 0, 8]
    refine ⟨4, [], _, _, _, _, [_, _, _, _], rfl, s_l01Apply_ok B E.2 hp hp2 hn, rfl, trivial, rfl, rfl, rfl, ?_⟩   -- 24
    refine ⟨i0, i0 * 8, rfl, by omega, by omega, ?_⟩   -- 25
    refine ⟨⟨rfl, by first | omega | (simp <;> omega), by first | omega | (simp <;> omega)⟩, ?_⟩   -- sta ['.t', 25] ['.t', 24] 8
    refine ⟨((i0 + 1 : Nat) : Int), w64_id _ (by omega) (by omega), ?_⟩   -- 16
    refine ⟨by omega, trivial, ⟨rfl, rfl, rfl, rfl, rfl, rfl, rfl, trivial⟩, ⟨rfl, rfl, rfl, ?_, trivial⟩, rfl⟩
    refine blk_by ?_
    rw [show (i0 + 1) * 8 = i0 * 8 + 8 by omega]
    refine (spl_vec (y := fun y => sm n fun k => bz f (i0 * 8 + k) * bz (sh g 0) (k * 8 + y)) (fun k hk => rfl) fun k hk => ?_).symm
    unfold thn
    rw [show (i0 * 8 + k) / 8 = i0 by omega, show (i0 * 8 + k) % 8 = k by omega, if_pos (by omega), sh_zero]
    rfl
  · replace h14 := of_decide_eq_false h14
    have e0 : n = i0 := by omega
    subst e0
    refine ⟨⟨by first | omega | (simp <;> omega), by first | omega | (simp <;> omega)⟩, ?_⟩   -- 26 := lda [['.t', 9], 0, 64]
    refine ⟨⟨rfl, by first | omega | (simp <;> omega), by first | omega | (simp <;> omega)⟩, ?_⟩   -- sta ['.t', 8] ['.t', 26] 64
    refine ⟨rfl, ⟨by first | omega | (simp <;> omega), by first | omega | (simp <;> omega)⟩, [], ?_, rfl, trivial, rfl, rfl⟩
    rw [vec_more (N := 64) (by omega) fun y h1 h2 => by unfold thn; rw [if_neg (by omega)]]
    exact one_ag out_vec

theorem i_field_trace_ok (B : Bs P ρ) (E : E_i_field_trace P ρ) {p n : Int} {g l : By} (hp : 1 ≤ p) (hp2 : p ≤ 1000) :
    CallOK P ρ 34 [.ag [p, n] 2 g, .ag [] 64 l] [] (.one (.i .i64 (sm 8 (fun i => bz l (i * 8 + i)) % p))) [] := by
  refine call_of_vc B.fn B.mo E rfl rfl ?_
  refine ⟨0, rfl, ?_⟩   -- .box 2
  refine ⟨1, rfl, ?_⟩   -- .box 3
  refine ⟨(fun b0 b1 i0 => St.mk [(2, .one (.pt 0 0)), (3, .one (.pt 1 0)), (5, .one (.i .i64 (sm i0 fun i => bz l (i * 8 + i)))), (7, .one (.i .i64 ((i0 : Nat) : Int)))] [b0, b1]) _ _ , fun i0 => True, 8, trivial, ⟨⟨rfl, rfl, rfl, rfl, trivial⟩, ⟨rfl, rfl, trivial⟩, rfl⟩, fun i0 hi0 _ => ?_⟩
  have q0 := bz_nn l (i0 * 8 + i0)
  have q1 := bz_le l (i0 * 8 + i0)
  have q3 := sm_bd (n := i0) (x := fun i => bz l (i * 8 + i)) (A := 255) fun i _ => ⟨bz_nn _ _, bz_le _ _⟩
  refine ⟨fun h8 => ?_, fun h8 => ?_⟩
  · replace h8 := of_decide_eq_true h8
    refine ⟨i0, i0 * 8, rfl, by omega, by omega, ?_⟩   -- 13
    refine ⟨i0, i0 * 8 + i0, rfl, by omega, by omega, ?_⟩   -- 14
    refine ⟨⟨by first | omega | (simp <;> omega), by first | omega | (simp <;> omega)⟩, ?_⟩   -- 15 := ld8 ['.t', 14]
    refine ⟨sm i0 (fun i => bz l (i * 8 + i)) + bz l (i0 * 8 + i0), w64_id (sm i0 (fun i => bz l (i * 8 + i)) + bz l (i0 * 8 + i0)) (by omega) (by omega), ?_⟩
    refine ⟨((i0 + 1 : Nat) : Int), w64_id _ (by omega) (by omega), ?_⟩   -- 18
    exact ⟨by omega, trivial, ⟨rfl, rfl, rfl, rfl, trivial⟩, ⟨rfl, rfl, trivial⟩, rfl⟩
  · replace h8 := of_decide_eq_false h8
    have e0 : 8 = i0 := by omega
    subst e0
    refine ⟨by omega, sm 8 (fun i => bz l (i * 8 + i)) % p, Int.tmod_eq_emod_of_nonneg (sm_bd (n := 8) (x := fun i => bz l (i * 8 + i)) (A := 255) fun i _ => ⟨bz_nn _ _, bz_le _ _⟩).1, ?_⟩
    exact ⟨rfl, [], rfl, rfl, trivial, rfl, rfl⟩

theorem s_l01Trace_ok (B : Bs P ρ) (E : E_s_l01Trace P ρ) {n : Nat} {p : Int} {l : By} (hp : 1 ≤ p) (hp2 : p ≤ 1000) (hn : n ≤ 8) :
    CallOK P ρ 31 [.i .i64 p, .i .i64 (n : Int), .ag [] 64 l] [] (.one (.i .i64 (sm n (fun i => bz l (i * 8 + i)) % p))) [] := by
  refine call_of_vc B.fn B.mo E rfl rfl ?_
  refine ⟨0, rfl, ?_⟩   -- .box 5
  refine ⟨(fun a0 a1 b0 i0 => St.mk [(0, a0), (1, a1), (5, .one (.pt 0 0)), (7, .one (.i .i64 (sm i0 fun i => bz l (i * 8 + i)))), (8, .one (.i .i64 ((i0 : Nat) : Int)))] [b0]) _ _ _ , fun i0 => True, n, trivial, ⟨⟨rfl, rfl, rfl, rfl, rfl, trivial⟩, ⟨rfl, trivial⟩, rfl⟩, fun i0 hi0 _ => ?_⟩
  have q0 := bz_nn l (i0 * 8 + i0)
  have q1 := bz_le l (i0 * 8 + i0)
  have q3 := sm_bd (n := i0) (x := fun i => bz l (i * 8 + i)) (A := 255) fun i _ => ⟨bz_nn _ _, bz_le _ _⟩
  refine ⟨fun h11 => ?_, fun h11 => ?_⟩
  · replace h11 := of_decide_eq_true h11
    refine ⟨i0, i0 * 8, rfl, by omega, by omega, ?_⟩   -- 17
    refine ⟨i0, i0 * 8 + i0, rfl, by omega, by omega, ?_⟩   -- 18
    refine ⟨⟨by first | omega | (simp <;> omega), by first | omega | (simp <;> omega)⟩, ?_⟩   -- 19 := ld8 ['.t', 18]
    refine ⟨sm i0 (fun i => bz l (i * 8 + i)) + bz l (i0 * 8 + i0), w64_id (sm i0 (fun i => bz l (i * 8 + i)) + bz l (i0 * 8 + i0)) (by omega) (by omega), ?_⟩
    refine ⟨((i0 + 1 : Nat) : Int), w64_id _ (by omega) (by omega), ?_⟩   -- 13
    exact ⟨by omega, trivial, ⟨rfl, rfl, rfl, rfl, rfl, trivial⟩, ⟨rfl, trivial⟩, rfl⟩
  · replace h11 := of_decide_eq_false h11
    have e0 : n = i0 := by omega
    subst e0
    refine ⟨by omega, sm n (fun i => bz l (i * 8 + i)) % p, Int.tmod_eq_emod_of_nonneg (sm_bd (n := n) (x := fun i => bz l (i * 8 + i)) (A := 255) fun i _ => ⟨bz_nn _ _, bz_le _ _⟩).1, ?_⟩
    exact ⟨rfl, [], rfl, rfl, trivial, rfl, rfl⟩

theorem i_field_identity_ok (B : Bs P ρ) (E : E_i_field_identity P ρ) {p : Int} {n : Nat} {g : By} (hn : n ≤ 8) :
    CallOK P ρ 44 [.ag [p, (n : Int)] 2 g] [] (.one (.ag [] 64 (sam n))) [] := by
  refine call_of_vc B.fn B.mo E.1 rfl rfl ?_
  refine ⟨0, rfl, ?_⟩   -- .box 1
  refine ⟨1, rfl, ?_⟩   -- .alo 2
  refine ⟨2, rfl, ?_⟩   -- .alo 3
  refine ⟨⟨rfl, by first | omega | (simp <;> omega), by first | omega | (simp <;> omega)⟩, ?_⟩   -- sta ['.t', 3] ['.t', 5] 64
  refine ⟨(fun a7 b0 b1 i0 => St.mk [(2, .one (.pt 1 0)), (3, .one (.pt 2 0)), (7, a7), (8, .one (.i .i64 ((i0 : Nat) : Int)))] [b0, b1, Blk.mk false (.by [] 64 (sam i0))]) _ _ _ , fun i0 => True, n, trivial, ⟨⟨rfl, rfl, rfl, rfl, trivial⟩, ⟨rfl, rfl, ?_, trivial⟩, rfl⟩, fun i0 hi0 _ => ?_⟩
  · exact blk_by (by rw [z_sta]; exact sam_0)
  refine ⟨fun h9 => ?_, fun h9 => ?_⟩
  · replace h9 := of_decide_eq_true h9
    refine ⟨3, [], _, _, _, _, [_, _, _], rfl, i_basis_ok B E.2 (i := i0) (by omega), rfl, trivial, rfl, rfl, ?_⟩   -- 13
    refine ⟨i0, i0 * 8, rfl, by omega, by omega, ?_⟩   -- 14
    refine ⟨⟨rfl, by first | omega | (simp <;> omega), by first | omega | (simp <;> omega)⟩, ?_⟩   -- sta ['.t', 14] ['.t', 13] 8
    refine ⟨((i0 + 1 : Nat) : Int), w64_id _ (by omega) (by omega), ?_⟩   -- 15
    refine ⟨by omega, trivial, ⟨rfl, rfl, rfl, rfl, trivial⟩, ⟨rfl, rfl, ?_, trivial⟩, rfl⟩
    exact blk_by (sam_s (by omega)).symm
  · replace h9 := of_decide_eq_false h9
    have e0 : n = i0 := by omega
    subst e0
    refine ⟨⟨by first | omega | (simp <;> omega), by first | omega | (simp <;> omega)⟩, ?_⟩   -- 16 := lda [['.t', 3], 0, 64]
    refine ⟨⟨rfl, by first | omega | (simp <;> omega), by first | omega | (simp <;> omega)⟩, ?_⟩   -- sta ['.t', 2] ['.t', 16] 64
    refine ⟨rfl, ⟨by first | omega | (simp <;> omega), by first | omega | (simp <;> omega)⟩, [], ?_, rfl, trivial, rfl, rfl⟩
    exact one_ag (out_eq (fun _ _ => rfl) (sam_out hn))

theorem s_l03Same_ok (B : Bs P ρ) (E : E_s_l03Same P ρ) {n : Nat} (hn : n ≤ 8) :
    CallOK P ρ 43 [.i .i64 (n : Int)] [] (.one (.ag [] 64 (sam n))) [] := by
  refine call_of_vc B.fn B.mo E.1 rfl rfl ?_
  refine ⟨0, rfl, ?_⟩   -- .alo 2
  refine ⟨1, rfl, ?_⟩   -- .alo 3
  refine ⟨⟨rfl, by first | omega | (simp <;> omega), by first | omega | (simp <;> omega)⟩, ?_⟩   -- sta ['.t', 3] ['.t', 5] 64
  refine ⟨(fun a0 b0 i0 => St.mk [(0, a0), (2, .one (.pt 0 0)), (3, .one (.pt 1 0)), (4, .one (.i .i64 ((i0 : Nat) : Int)))] [b0, Blk.mk false (.by [] 64 (sam i0))]) _ _ , fun i0 => True, n, trivial, ⟨⟨rfl, rfl, rfl, rfl, trivial⟩, ⟨rfl, ?_, trivial⟩, rfl⟩, fun i0 hi0 _ => ?_⟩
  · exact blk_by (by rw [z_sta]; exact sam_0)
  refine ⟨fun h8 => ?_, fun h8 => ?_⟩
  · replace h8 := of_decide_eq_true h8
    refine ⟨2, [], _, _, _, _, [_, _], rfl, s_l01Basis_ok B E.2 (i := i0) (by omega), rfl, trivial, rfl, rfl, ?_⟩   -- 13
    refine ⟨i0, i0 * 8, rfl, by omega, by omega, ?_⟩   -- 14
    refine ⟨⟨rfl, by first | omega | (simp <;> omega), by first | omega | (simp <;> omega)⟩, ?_⟩   -- sta ['.t', 14] ['.t', 13] 8
    refine ⟨((i0 + 1 : Nat) : Int), w64_id _ (by omega) (by omega), ?_⟩   -- 10
    refine ⟨by omega, trivial, ⟨rfl, rfl, rfl, rfl, trivial⟩, ⟨rfl, ?_, trivial⟩, rfl⟩
    exact blk_by (sam_s (by omega)).symm
  · replace h8 := of_decide_eq_false h8
    have e0 : n = i0 := by omega
    subst e0
    refine ⟨⟨by first | omega | (simp <;> omega), by first | omega | (simp <;> omega)⟩, ?_⟩   -- 15 := lda [['.t', 3], 0, 64]
    refine ⟨⟨rfl, by first | omega | (simp <;> omega), by first | omega | (simp <;> omega)⟩, ?_⟩   -- sta ['.t', 2] ['.t', 15] 64
    refine ⟨rfl, ⟨by first | omega | (simp <;> omega), by first | omega | (simp <;> omega)⟩, [], ?_, rfl, trivial, rfl, rfl⟩
    exact one_ag (out_eq (fun _ _ => rfl) (sam_out hn))

theorem HShp.ant {p : Int} {n : Nat} {f : By} (h : HShp p n f) {i k : Nat} (hi : i < 8) (hk : k < 8) (hz : n ≤ i ∨ n ≤ k) : bz f (1042 + i * 8 + k) = 0 := by
  have := h.2.2.2.2.2 i hi
  rcases hz with hz | hz
  · exact this.2 (by omega) k hk
  · exact (this.1 k hk).2 (by omega)
/-- zero outside of the first n rows and columns -/
def Zn (n : Nat) (f : By) : Prop := ∀ i k, i < 8 → k < 8 → n ≤ i ∨ n ≤ k → bz f (i * 8 + k) = 0
theorem aft_thn {n : Nat} {fa fb : By} {oa ob y : Nat} (hn : n ≤ 8) (hy : y < 64) (hz : Zn n (sh fb ob)) : aft fa fb oa ob y = thn n (sh fb ob) (sh fa oa) y := by
  unfold aft thn
  have e : ∀ k, bz fb (ob + y / 8 * 8 + k) = bz (sh fb ob) (y / 8 * 8 + k) := fun k => by rw [bz_sh, Nat.add_assoc]
  have e2 : ∀ k, bz fa (oa + k * 8 + y % 8) = bz (sh fa oa) (k * 8 + y % 8) := fun k => by rw [bz_sh, Nat.add_assoc]
  simp only [e, e2]
  by_cases h : y / 8 < n
  · rw [if_pos h]
    exact sm_8n hn fun k h1 h2 => by rw [hz _ _ (by omega) h2 (.inr h1), Int.zero_mul]
  · rw [if_neg h]
    exact sm_zero fun k hk => by rw [hz _ _ (by omega) hk (.inl (by omega)), Int.zero_mul]
theorem thn_Zn {n : Nat} {p : Int} {f g : By} (hp : 1 ≤ p) (hp2 : p ≤ 256) (hz : Zn n g) (hn : n ≤ 8) : Zn n (vec 64 p (thn n f g)) := by
  intro i k hi hk h
  rw [bz_vec hp hp2 (by omega)]
  have : thn n f g (i * 8 + k) = 0 := by
    unfold thn
    rw [show (i * 8 + k) / 8 = i by omega, show (i * 8 + k) % 8 = k by omega]
    by_cases e : i < n
    · rw [if_pos e]
      exact sm_zero fun j hj => by rw [hz j k (by omega) hk (.inr (by omega)), Int.mul_zero]
    · rw [if_neg e]
  rw [this]; rfl

theorem i_TraceOfSquare_ok (B : Bs P ρ) (E : E_i_TraceOfSquare P ρ) {n p : Int} {f : By} :
    CallOK P ρ 6 [.ag [p, n] 1106 f] [] (.tup [.i .i64 (oi (Hop p n f) (sm n.toNat (fun i => bz (vec 64 p (thn n.toNat (sh f 1042) (sh f 1042))) (i * 8 + i)) % p)), .i .i64 (oc (Hop p n f) 1)]) [] := by
  refine call_of_vc B.fn B.mo E.1 rfl rfl ?_
  refine ⟨0, rfl, ?_⟩   -- .box 1
  refine ⟨1, [0], _, _, _, _, [_], rfl, i_Hopf_code_nil_ok B E.2.1 , rfl, ⟨⟨_, rfl, fun h => by first | rfl | cases h⟩, trivial⟩, rfl, rfl, ?_⟩   -- 6
  refine ⟨fun h8 => ?_, fun h8 => ?_⟩
  · replace h8 := bne_t h8
    have hH : ¬ Hop p n f := fun q => h8 (if_pos q)
    refine ⟨rfl, [], ?_, rfl, trivial, rfl, rfl⟩
    rw [oi_f hH, oc_f hH, if_neg hH]; rfl
  · replace h8 := bne_f h8
    have hH : Hop p n f := Classical.byContradiction fun q => by rw [if_neg q] at h8; cases h8
    have hb := AShp.p1 (f := f) ⟨hH.1.1, hH.1.2.1, hH.1.2.2.1⟩
    obtain ⟨m, rfl⟩ : ∃ m : Nat, n = (m : Int) := ⟨n.toNat, by omega⟩
    refine ⟨1, [0], _, _, _, _, [_], rfl, i_Hopf_field_ok B E.2.2.1 , rfl, ⟨⟨_, rfl, fun h => by first | rfl | cases h⟩, trivial⟩, rfl, rfl, ?_⟩   -- 10
    refine ⟨1, rfl, ?_⟩   -- .alo 5
    refine ⟨2, [0, 0], _, _, _, _, [_, _], rfl, i_field_after_ok B E.2.2.2.1 (by omega) (by omega) (by simp) (by omega) (by simp) (by omega), rfl, ⟨⟨_, rfl, fun h => by first | rfl | cases h⟩, ⟨_, rfl, fun h => by first | rfl | cases h⟩, trivial⟩, rfl, rfl, rfl, ?_⟩   -- 15
    refine ⟨2, [], _, _, _, _, [_, _], rfl, i_field_trace_ok B E.2.2.2.2 (by omega) (by omega), rfl, trivial, rfl, rfl, ?_⟩   -- 16
    refine ⟨rfl, [], ?_, rfl, trivial, rfl, rfl⟩
    rw [oi_t hH, oc_t hH]
    have hz : Zn m (sh f 1042) := fun i k hi hk h => by
      rw [bz_sh, ← Nat.add_assoc]; exact hH.1.ant hi hk h
    have e : vec 64 p (aft f f 1042 1042) = vec 64 p (thn m (sh f 1042) (sh f 1042)) := vec_congr fun y hy => cg_of_eq (aft_thn (by omega) hy hz)
    rw [e, sm_8n (n := m) (by omega) fun i h1 h2 => thn_Zn (by omega) (by omega) hz (by omega) i i h2 h2 (.inl h1)]
    rfl

theorem s_TraceOfSquare_ok (B : Bs P ρ) (E : E_s_TraceOfSquare P ρ) {n p : Int} {f : By} :
    CallOK P ρ 5 [.ag [p, n] 1106 f] [] (.tup [.i .i64 (oi (Hop p n f) (sm n.toNat (fun i => bz (vec 64 p (thn n.toNat (sh f 1042) (sh f 1042))) (i * 8 + i)) % p)), .i .i64 (oc (Hop p n f) 1)]) [] := by
  refine call_of_vc B.fn B.mo E.1 rfl rfl ?_
  refine ⟨0, rfl, ?_⟩   -- .box 1
  refine ⟨1, [], _, _, _, _, [_], rfl, s_l03Is_ok B E.2.1 , rfl, trivial, rfl, rfl, ?_⟩   -- 5
  refine ⟨fun h6 => ?_, fun h6 => ?_⟩
  · skip
    have hH : ¬ Hop p n f := dec_elim_t' (not_t h6)
    refine ⟨rfl, [], ?_, rfl, trivial, rfl, rfl⟩
    rw [oi_f hH, oc_f hH]; rfl
  · skip
    have hH : Hop p n f := dec_elim_t (not_f h6)
    have hb := AShp.p1 (f := f) ⟨hH.1.1, hH.1.2.1, hH.1.2.2.1⟩
    obtain ⟨m, rfl⟩ : ∃ m : Nat, n = (m : Int) := ⟨n.toNat, by omega⟩
    refine ⟨⟨by first | omega | (simp <;> omega), by first | omega | (simp <;> omega)⟩, ?_⟩   -- 16 := lda [['.t', 15], 0, 64]
    refine ⟨⟨by first | omega | (simp <;> omega), by first | omega | (simp <;> omega)⟩, ?_⟩   -- 18 := lda [['.t', 17], 0, 64]
    refine ⟨1, [], _, _, _, _, [_], rfl, s_l01Then_ok B E.2.2.1 (by omega) (by omega) (by omega), rfl, trivial, rfl, rfl, rfl, ?_⟩   -- 19
    refine ⟨1, [], _, _, _, _, [_], rfl, s_l01Trace_ok B E.2.2.2 (by omega) (by omega) (by omega), rfl, trivial, rfl, rfl, ?_⟩   -- 20
    refine ⟨rfl, [], ?_, rfl, trivial, rfl, rfl⟩
    rw [oi_t hH, oc_t hH]; rfl

theorem l_FnExactTraceOfSquare_ok (B : Bs P ρ) (E : E_l_FnExactTraceOfSquare P ρ) {p n : Int} {f : By} :
    CallOK P ρ 7 [.ag [p, n] 1106 f] [] (.one (.b true)) [] := by
  refine call_of_vc B.fn B.mo E.1 rfl rfl ?_
  refine ⟨0, rfl, ?_⟩   -- .box 1
  refine ⟨1, [], _, _, _, _, [_], rfl, l_toHopf_ok B E.2.1 , rfl, trivial, rfl, rfl, ?_⟩   -- 9
  refine ⟨1, [], _, _, _, _, [_], rfl, s_TraceOfSquare_ok B E.2.2.1 , rfl, trivial, rfl, rfl, ?_⟩   -- 10
  refine ⟨1, [], _, _, _, _, [_], rfl, l_toHopf_ok B E.2.1 , rfl, trivial, rfl, rfl, ?_⟩   -- 15
  refine ⟨1, [], _, _, _, _, [_], rfl, i_TraceOfSquare_ok B E.2.2.2 , rfl, trivial, rfl, rfl, ?_⟩   -- 16
  refine ⟨fun h22 => ?_, fun h22 => ?_⟩
  · replace h22 := bne_t h22
    exact (h22 rfl).elim
  · replace h22 := bne_f h22
    refine brB_f ?_
    refine brB_f ?_
    refine brB_f ?_
    refine ⟨fun h26 => ?_, fun h26 => ?_⟩
    · replace h26 := bne_t h26
      exact (h26 rfl).elim
    · replace h26 := bne_f h26
      exact ⟨rfl, [], rfl, rfl, trivial, rfl, rfl⟩

end Hf
namespace Hf
open Go Classical
variable {P : Program} {ρ : Nat → FuncId}
/-- what S, taken so many times more, makes -/
def pwS (p : Int) (n : Nat) (g : By) : Nat → By
  | 0 => cut 64 g
  | t + 1 => vec 64 p (thn n (pwS p n g t) g)
theorem pwS_out {p : Int} {n : Nat} {g : By} : ∀ (t : Nat) (x : Nat), 64 ≤ x → pwS p n g t x = 0
  | 0, _, h => cut_ge h
  | _ + 1, _, h => vec_out h
theorem pwS_Zn {p : Int} {n : Nat} {g : By} (hp : 1 ≤ p) (hp2 : p ≤ 256) (hn : n ≤ 8) (hz : Zn n g) : ∀ t, Zn n (pwS p n g t)
  | 0 => fun i k hi hk h => by
    have := hz i k hi hk h
    unfold bz pwS
    rw [cut_lt (by omega)]
    exact this
  | _ + 1 => thn_Zn hp hp2 hz hn
theorem spl_all {n : Nat} {f g : By} (hf : ∀ x, n ≤ x → f x = 0) (hg : ∀ x, n ≤ x → g x = 0) : spl f 0 n g = g := by
  funext x
  simp only [spl]
  by_cases h : x < n
  · rw [if_pos (by omega)]; rfl
  · rw [if_neg (by omega), hf x (by omega), hg x (by omega)]
/-- the first power that is the identity -/
noncomputable def ordR (p : Int) (n : Nat) (g : By) : Int := firstQ (fun t => eqB 64 (pwS p n g t) (sam n)) 60 0
noncomputable def ordV (p n : Int) (f : By) : Int := oi (Hop p n f) (if ordR p n.toNat (sh f 1042) < 0 then 0 else ordR p n.toNat (sh f 1042) + 1)
noncomputable def ordC (p n : Int) (f : By) : Int := if Hop p n f then (if ordR p n.toNat (sh f 1042) < 0 then 3 else 0) else 1

theorem i_OrderOfAntipode_ok (B : Bs P ρ) (E : E_i_OrderOfAntipode P ρ) {n p : Int} {f : By} :
    CallOK P ρ 22 [.ag [p, n] 1106 f] [] (.tup [.i .i64 (ordV p n f), .i .i64 (ordC p n f)]) [] := by
  refine call_of_vc B.fn B.mo E.1 rfl rfl ?_
  refine ⟨0, rfl, ?_⟩   -- .box 1
  refine ⟨1, [0], _, _, _, _, [_], rfl, i_Hopf_code_nil_ok B E.2.1 , rfl, ⟨⟨_, rfl, fun h => by first | rfl | cases h⟩, trivial⟩, rfl, rfl, ?_⟩   -- 8
  refine ⟨fun h10 => ?_, fun h10 => ?_⟩
  · replace h10 := bne_t h10
    have hH : ¬ Hop p n f := fun q => h10 (if_pos q)
    refine ⟨rfl, [], ?_, rfl, trivial, rfl, rfl⟩
    rw [ordV, ordC, oi_f hH, if_neg hH, if_neg hH]; rfl
  · replace h10 := bne_f h10
    have hH : Hop p n f := Classical.byContradiction fun q => by rw [if_neg q] at h10; cases h10
    have hb := AShp.p1 (f := f) ⟨hH.1.1, hH.1.2.1, hH.1.2.2.1⟩
    obtain ⟨m, rfl⟩ : ∃ m : Nat, n = (m : Int) := ⟨n.toNat, by omega⟩
    have hz : Zn m (sh f 1042) := fun i k hi hk h => by
      rw [bz_sh, ← Nat.add_assoc]; exact hH.1.ant hi hk h
    refine ⟨1, [0], _, _, _, _, [_], rfl, i_Hopf_field_ok B E.2.2.1 , rfl, ⟨⟨_, rfl, fun h => by first | rfl | cases h⟩, trivial⟩, rfl, rfl, rfl, ?_⟩   -- 12
    refine ⟨⟨by first | omega | (simp <;> omega), by first | omega | (simp <;> omega)⟩, ?_⟩   -- 14 := lda [['.t', 13], 0, 64]
    refine ⟨1, rfl, rfl, ?_⟩   -- .new 5
    refine ⟨2, rfl, ?_⟩   -- .new 6
    refine ⟨⟨rfl, by first | omega | (simp <;> omega), by first | omega | (simp <;> omega)⟩, ?_⟩   -- sta ['.t', 6] ['.t', 14] 64
    refine ⟨(fun b0 b1 i0 => St.mk [(1, .one (.pt 0 0)), (5, .one (.pt 1 0)), (6, .one (.pt 2 0)), (7, .one (.i .i64 ((1 + i0 : Nat) : Int)))] [b0, b1, Blk.mk false (.by [] 64 (pwS p m (sh f 1042) i0))]) _ _ , fun i0 => ∀ t, t < i0 → eqB 64 (pwS p m (sh f 1042) t) (sam m) = false, 60, fun _ _ => by omega, ⟨⟨rfl, rfl, rfl, rfl, trivial⟩, ⟨rfl, rfl, ?_, trivial⟩, rfl⟩, fun i0 hi0 hF0 => ?_⟩
    · exact blk_by spl_cut.symm
    refine ⟨fun h16 => ?_, fun h16 => ?_⟩
    · replace h16 := of_decide_eq_true h16
      refine ⟨⟨by first | omega | (simp <;> omega), by first | omega | (simp <;> omega)⟩, ?_⟩   -- 19 := lda [['.t', 6], 0, 64]
      refine ⟨3, [], _, _, _, _, [_, _, _], rfl, i_field_identity_ok B E.2.2.2.1 (by omega), rfl, trivial, rfl, rfl, rfl, ?_⟩   -- 21
      refine ⟨fun h22 => ?_, fun h22 => ?_⟩
      · skip
        have h22' : eqB 64 (pwS p m (sh f 1042) i0) (sam m) = true := by rw [sh_zero] at h22; exact h22
        refine ⟨rfl, [], ?_, rfl, trivial, rfl, rfl⟩
        have e : ordR p m (sh f 1042) = (i0 : Int) := firstQ_some (by omega) (by omega) h22' fun t _ ht => hF0 t ht
        rw [ordV, ordC, oi_t hH, if_pos hH, show ((m : Int)).toNat = m from rfl, e, if_neg (by omega), if_neg (by omega)]
        rw [show ((1 + i0 : Nat) : Int) = (i0 : Int) + 1 by omega]; rfl
      · skip
        have h22' : eqB 64 (pwS p m (sh f 1042) i0) (sam m) = false := by rw [sh_zero] at h22; exact h22
        refine ⟨3, [0, 2], _, _, _, _, [_, _, _], rfl, i_field_after_ok B E.2.2.2.2 (by omega) (by omega) (by simp) (by omega) (by simp) (by omega), rfl, ⟨⟨_, rfl, fun h => by first | rfl | cases h⟩, ⟨_, rfl, fun h => by first | rfl | cases h⟩, trivial⟩, rfl, rfl, ?_⟩   -- 26
        refine ⟨⟨rfl, by first | omega | (simp <;> omega), by first | omega | (simp <;> omega)⟩, ?_⟩   -- sta ['.t', 6] ['.t', 26] 64
        refine ⟨((1 + i0 + 1 : Nat) : Int), w64_id _ (by omega) (by omega), ?_⟩   -- 18
        refine ⟨by omega, ?_, ⟨rfl, rfl, rfl, rfl, trivial⟩, ⟨rfl, rfl, ?_, trivial⟩, rfl⟩
        · intro t ht
          by_cases e : t = i0
          · subst e; exact h22'
          · exact hF0 t (by omega)
        · refine blk_by ?_
          rw [spl_all (fun x hx => pwS_out _ x hx) fun x hx => vec_out hx]
          refine (vec_congr fun y hy => cg_of_eq ?_).symm
          have := aft_thn (n := m) (fa := f) (fb := pwS p m (sh f 1042) i0) (oa := 1042) (ob := 0) (y := y) (by omega) hy (by rw [sh_zero]; exact pwS_Zn (by omega) (by omega) (by omega) hz i0)
          rw [sh_zero] at this
          exact this
    · replace h16 := of_decide_eq_false h16
      have e0 : i0 = 60 := by omega
      refine ⟨rfl, [], ?_, rfl, trivial, rfl, rfl⟩
      have e : ordR p m (sh f 1042) = -1 := firstQ_none fun t _ ht => hF0 t (by omega)
      rw [ordV, ordC, oi_t hH, if_pos hH, show ((m : Int)).toNat = m from rfl, e, if_pos (by omega), if_pos (by omega)]; rfl

theorem s_OrderOfAntipode_ok (B : Bs P ρ) (E : E_s_OrderOfAntipode P ρ) {n p : Int} {f : By} :
    CallOK P ρ 21 [.ag [p, n] 1106 f] [] (.tup [.i .i64 (ordV p n f), .i .i64 (ordC p n f)]) [] := by
  refine call_of_vc B.fn B.mo E.1 rfl rfl ?_
  refine ⟨0, rfl, ?_⟩   -- .box 1
  refine ⟨1, [], _, _, _, _, [_], rfl, s_l03Is_ok B E.2.1 , rfl, trivial, rfl, rfl, ?_⟩   -- 7
  refine ⟨fun h8 => ?_, fun h8 => ?_⟩
  · skip
    have hH : ¬ Hop p n f := dec_elim_t' (not_t h8)
    refine ⟨rfl, [], ?_, rfl, trivial, rfl, rfl⟩
    rw [ordV, ordC, oi_f hH, if_neg hH]; rfl
  · skip
    have hH : Hop p n f := dec_elim_t (not_f h8)
    have hb := AShp.p1 (f := f) ⟨hH.1.1, hH.1.2.1, hH.1.2.2.1⟩
    obtain ⟨m, rfl⟩ : ∃ m : Nat, n = (m : Int) := ⟨n.toNat, by omega⟩
    refine ⟨⟨by first | omega | (simp <;> omega), by first | omega | (simp <;> omega)⟩, ?_⟩   -- 10 := lda [['.t', 9], 0, 64]
    refine ⟨1, rfl, ?_⟩   -- .alo 4
    refine ⟨⟨rfl, by first | omega | (simp <;> omega), by first | omega | (simp <;> omega)⟩, ?_⟩   -- sta ['.t', 4] ['.t', 10] 64
    refine ⟨(fun b0 i0 => St.mk [(1, .one (.pt 0 0)), (4, .one (.pt 1 0)), (5, .one (.i .i64 ((1 + i0 : Nat) : Int)))] [b0, Blk.mk false (.by [] 64 (pwS p m (sh f 1042) i0))]) _ , fun i0 => ∀ t, t < i0 → eqB 64 (pwS p m (sh f 1042) t) (sam m) = false, 60, fun _ _ => by omega, ⟨⟨rfl, rfl, rfl, trivial⟩, ⟨rfl, ?_, trivial⟩, rfl⟩, fun i0 hi0 hF0 => ?_⟩
    · exact blk_by spl_cut.symm
    refine ⟨fun h12 => ?_, fun h12 => ?_⟩
    · replace h12 := of_decide_eq_true h12
      refine ⟨⟨by first | omega | (simp <;> omega), by first | omega | (simp <;> omega)⟩, ?_⟩   -- 15 := lda [['.t', 4], 0, 64]
      refine ⟨2, [], _, _, _, _, [_, _], rfl, s_l03Same_ok B E.2.2.1 (by omega), rfl, trivial, rfl, rfl, rfl, ?_⟩   -- 18
      refine ⟨fun h19 => ?_, fun h19 => ?_⟩
      · skip
        have h22' : eqB 64 (pwS p m (sh f 1042) i0) (sam m) = true := by rw [sh_zero] at h19; exact h19
        refine ⟨rfl, [], ?_, rfl, trivial, rfl, rfl⟩
        have e : ordR p m (sh f 1042) = (i0 : Int) := firstQ_some (by omega) (by omega) h22' fun t _ ht => hF0 t ht
        rw [ordV, ordC, oi_t hH, if_pos hH, show ((m : Int)).toNat = m from rfl, e, if_neg (by omega), if_neg (by omega)]
        rw [show ((1 + i0 : Nat) : Int) = (i0 : Int) + 1 by omega]; rfl
      · skip
        have h22' : eqB 64 (pwS p m (sh f 1042) i0) (sam m) = false := by rw [sh_zero] at h19; exact h19
        refine ⟨⟨by first | omega | (simp <;> omega), by first | omega | (simp <;> omega)⟩, ?_⟩   -- 25 := lda [['.t', 4], 0, 64]
        refine ⟨⟨by first | omega | (simp <;> omega), by first | omega | (simp <;> omega)⟩, ?_⟩   -- 27 := lda [['.t', 26], 0, 64]
        refine ⟨2, [], _, _, _, _, [_, _], rfl, s_l01Then_ok B E.2.2.2 (by omega) (by omega) (by omega), rfl, trivial, rfl, rfl, ?_⟩   -- 28
        refine ⟨⟨rfl, by first | omega | (simp <;> omega), by first | omega | (simp <;> omega)⟩, ?_⟩   -- sta ['.t', 4] ['.t', 28] 64
        refine ⟨((1 + i0 + 1 : Nat) : Int), w64_id _ (by omega) (by omega), ?_⟩   -- 14
        refine ⟨by omega, ?_, ⟨rfl, rfl, rfl, trivial⟩, ⟨rfl, ?_, trivial⟩, rfl⟩
        · intro t ht
          by_cases e : t = i0
          · subst e; exact h22'
          · exact hF0 t (by omega)
        · refine blk_by ?_
          rw [spl_all (fun x hx => pwS_out _ x hx) fun x hx => vec_out hx, sh_zero]
          rfl
    · replace h12 := of_decide_eq_false h12
      have e0 : i0 = 60 := by omega
      refine ⟨rfl, [], ?_, rfl, trivial, rfl, rfl⟩
      have e : ordR p m (sh f 1042) = -1 := firstQ_none fun t _ ht => hF0 t (by omega)
      rw [ordV, ordC, oi_t hH, if_pos hH, show ((m : Int)).toNat = m from rfl, e, if_pos (by omega), if_pos (by omega)]; rfl

theorem l_FnExactOrderOfAntipode_ok (B : Bs P ρ) (E : E_l_FnExactOrderOfAntipode P ρ) {p n : Int} {f : By} :
    CallOK P ρ 23 [.ag [p, n] 1106 f] [] (.one (.b true)) [] := by
  refine call_of_vc B.fn B.mo E.1 rfl rfl ?_
  refine ⟨0, rfl, ?_⟩   -- .box 1
  refine ⟨1, [], _, _, _, _, [_], rfl, l_toHopf_ok B E.2.1 , rfl, trivial, rfl, rfl, ?_⟩   -- 9
  refine ⟨1, [], _, _, _, _, [_], rfl, s_OrderOfAntipode_ok B E.2.2.1 , rfl, trivial, rfl, rfl, ?_⟩   -- 10
  refine ⟨1, [], _, _, _, _, [_], rfl, l_toHopf_ok B E.2.1 , rfl, trivial, rfl, rfl, ?_⟩   -- 15
  refine ⟨1, [], _, _, _, _, [_], rfl, i_OrderOfAntipode_ok B E.2.2.2 , rfl, trivial, rfl, rfl, ?_⟩   -- 16
  refine ⟨fun h22 => ?_, fun h22 => ?_⟩
  · replace h22 := bne_t h22
    exact (h22 rfl).elim
  · replace h22 := bne_f h22
    refine brB_f ?_
    refine brB_f ?_
    refine brB_f ?_
    refine ⟨fun h26 => ?_, fun h26 => ?_⟩
    · replace h26 := bne_t h26
      exact (h26 rfl).elim
    · replace h26 := bne_f h26
      exact ⟨rfl, [], rfl, rfl, trivial, rfl, rfl⟩

end Hf
namespace Hf
open Go Classical
variable {P : Program} {ρ : Nat → FuncId}
theorem out_0 {n : Nat} : sh (spl (fun _ => 0) 0 n (fun _ => 0)) 0 = (fun _ => 0 : By) := by rw [sh_zero, z_sta]
theorem sh_own {f g : By} {y : Nat} (h : y < 8) : sh (spl f 0 8 g) 0 y = g y := by
  rw [sh_zero]; simp only [spl]; rw [if_pos (by omega)]; rfl
theorem prd_congr {n o : Nat} {f v v' w w' : By} {y : Nat} (hn : n ≤ 8) (hv : ∀ i, i < 8 → v i = v' i) (hw : ∀ i, i < 8 → w i = w' i) : prd n f o v w y = prd n f o v' w' y := by
  unfold prd
  refine sm_congr fun i hi => sm_congr fun j hj => ?_
  unfold bz
  rw [hv i (by omega), hw j (by omega)]
def adS (p : Int) (n : Nat) (f b : By) (r : Bool) (j k y : Nat) : Int :=
  prd n f 10 (vec 8 p (prd n f 10 (if r = true then sh f (1042 + j * 8) else bas j) b)) (if r = true then bas k else sh f (1042 + k * 8)) y
theorem ad_eq {p : Int} {n : Nat} {f b O B T : By} {r : Bool} {j k y : Nat} (hn : n ≤ 8) (hO : ∀ i, i < 8 → O i = (if r = true then sh f (1042 + j * 8) else bas j) i) (hB : ∀ i, i < 8 → B i = b i) (hT : ∀ i, i < 8 → T i = (if r = true then bas k else sh f (1042 + k * 8)) i) :
    prd n f 10 (vec 8 p (prd n f 10 O B)) T y = adS p n f b r j k y := by
  unfold adS
  refine prd_congr hn (fun i hi => ?_) hT
  exact congrFun (vec_congr fun y _ => cg_of_eq (prd_congr hn hO hB)) i
def adj (p : Int) (n : Nat) (f a b : By) (r : Bool) (y : Nat) : Int := sm n fun j => sm n fun k => bz (vec 64 p (cop n f 530 a)) (j * 8 + k) * adS p n f b r j k y
theorem cop_z {n : Nat} {p : Int} {f a : By} (h : HShp p n f) {j k : Nat} (hj : j < 8) (hk : k < 8) (hz : n ≤ j ∨ n ≤ k) : bz (vec 64 p (cop n f 530 a)) (j * 8 + k) = 0 := by
  have hb := h.b
  rw [bz_vec (by omega) (by omega) (by omega)]
  have e : cop n f 530 a (j * 8 + k) = 0 := by
    unfold cop
    by_cases e : (j * 8 + k) / 8 < n
    · rw [if_pos e]
      refine sm_zero fun i hi => ?_
      rw [← Nat.add_assoc, h.com (by omega) hj hk (.inr hz), Int.mul_zero]
    · rw [if_neg e]
  rw [e]; rfl
theorem adj_eq {n : Nat} {p : Int} {f a b : By} {r : Bool} {y : Nat} (h : HShp p n f) : (sm 64 fun q => bz (vec 64 p (cop n f 530 a)) q * adS p n f b r (q / 8) (q % 8) y) = adj p n f a b r y := by
  have hb := h.b
  rw [sm_64]
  have e : ∀ j k, j < 8 → k < 8 → bz (vec 64 p (cop n f 530 a)) (j * 8 + k) * adS p n f b r ((j * 8 + k) / 8) ((j * 8 + k) % 8) y = bz (vec 64 p (cop n f 530 a)) (j * 8 + k) * adS p n f b r j k y := by
    intro j k hj hk
    rw [show (j * 8 + k) / 8 = j by omega, show (j * 8 + k) % 8 = k by omega]
  rw [sm_congr fun j hj => sm_congr fun k hk => e j k hj hk]
  rw [sm_8n (n := n) hb.2.2.2 fun j h1 h2 => sm_zero fun k hk => by rw [cop_z h h2 hk (.inl h1), Int.zero_mul]]
  exact sm_congr fun j hj => sm_8n hb.2.2.2 fun k h1 h2 => by rw [cop_z h (by omega) h2 (.inr h1), Int.zero_mul]

theorem i_Hopf_adjoint_1_ok (B : Bs P ρ) (E : E_i_Hopf_adjoint_1 P ρ) {n N0 : Nat} {hd0 : List Int} {p x : Int} {f f0 g0 b : By} {X : Nat → Int} {r : Bool} {j k : Nat} (hp : 1 ≤ p) (hp2 : p ≤ 256) (hn : n ≤ 8) (hj : j < 8) (hk : k < 8) (hx : 0 ≤ x) (hx2 : x ≤ 255) :
    CallOK P ρ 59 [.i .i64 (j : Int), .i .i64 (k : Int), .i .i64 x, .pt 2 0, .pt 3 0, .pt 4 0, .pt 5 0, .pt 6 0] [⟨true, .by hd0 N0 f0⟩, ⟨true, .by [p, (n : Int)] 1106 f⟩, ⟨true, .vr (.pt 1 0)⟩, ⟨true, .vr (.b r)⟩, ⟨true, .by [p, (n : Int)] 2 g0⟩, ⟨false, .by [] 8 (vec 8 p X)⟩, ⟨true, .by [] 8 b⟩] (.tup []) [⟨true, .by hd0 N0 f0⟩, ⟨true, .by [p, (n : Int)] 1106 f⟩, ⟨true, .vr (.pt 1 0)⟩, ⟨true, .vr (.b r)⟩, ⟨true, .by [p, (n : Int)] 2 g0⟩, ⟨false, .by [] 8 (vec 8 p fun y => X y + x * adS p n f b r j k y)⟩, ⟨true, .by [] 8 b⟩] := by
  refine call_of_vc B.fn B.mo E.1 rfl rfl ?_
  refine ⟨7, [], _, _, _, _, [_, _, _, _, _, _, _], rfl, i_basis_ok B E.2.1 (i := j) hj, rfl, trivial, rfl, rfl, rfl, ?_⟩   -- 14
  refine ⟨k, 1042 + k * 8, rfl, by omega, by omega, ?_⟩   -- 19
  refine ⟨⟨by first | omega | (simp <;> omega), by first | omega | (simp <;> omega)⟩, ?_⟩   -- 20 := lda [['.t', 19], 0, 8]
  refine ⟨7, rfl, rfl, ?_⟩   -- .new 11
  refine ⟨8, rfl, ?_⟩   -- .new 12
  refine ⟨⟨rfl, by first | omega | (simp <;> omega), by first | omega | (simp <;> omega)⟩, ?_⟩   -- sta ['.t', 12] ['.t', 20] 8
  refine ⟨fun h21 => ?_, fun h21 => ?_⟩
  · skip
    refine ⟨j, 1042 + j * 8, rfl, by omega, by omega, ?_⟩   -- 26
    refine ⟨⟨by first | omega | (simp <;> omega), by first | omega | (simp <;> omega)⟩, ?_⟩   -- 27 := lda [['.t', 26], 0, 8]
    refine ⟨9, [], _, _, _, _, [_, _, _, _, _, _, _, _, _], rfl, i_basis_ok B E.2.1 (i := k) hk, rfl, trivial, rfl, rfl, rfl, ?_⟩   -- 29
    refine ⟨⟨rfl, by first | omega | (simp <;> omega), by first | omega | (simp <;> omega)⟩, ?_⟩   -- sta ['.t', 11] ['.t', 27] 8
    refine ⟨⟨rfl, by first | omega | (simp <;> omega), by first | omega | (simp <;> omega)⟩, ?_⟩   -- sta ['.t', 12] ['.t', 29] 8
    refine ⟨⟨by first | omega | (simp <;> omega), by first | omega | (simp <;> omega)⟩, ?_⟩   -- 34 := lda [['.t', 11], 0, 8]
    refine ⟨⟨by first | omega | (simp <;> omega), by first | omega | (simp <;> omega)⟩, ?_⟩   -- 35 := lda [['.t', 7], 0, 8]
    refine ⟨9, [1], _, _, _, _, [_, _, _, _, _, _, _, _, _], rfl, i_Hopf_product_ok B E.2.2.1 hp hp2 hn, rfl, ⟨⟨_, rfl, fun h => by first | rfl | cases h⟩, trivial⟩, rfl, rfl, rfl, ?_⟩   -- 36
    refine ⟨⟨by first | omega | (simp <;> omega), by first | omega | (simp <;> omega)⟩, ?_⟩   -- 37 := lda [['.t', 12], 0, 8]
    refine ⟨9, [1], _, _, _, _, [_, _, _, _, _, _, _, _, _], rfl, i_Hopf_product_ok B E.2.2.1 hp hp2 hn, rfl, ⟨⟨_, rfl, fun h => by first | rfl | cases h⟩, trivial⟩, rfl, rfl, rfl, ?_⟩   -- 38
    refine ⟨9, [5], _, _, _, _, [_, _, _, _, _, _, _, _, _], rfl, i_field_plus_ok B E.2.2.2 hp (by omega) (by simp) (by omega) (by omega) (by omega) (bz_vec_lt' hp hp2), rfl, ⟨⟨_, rfl, fun h => by first | rfl | cases h⟩, trivial⟩, rfl, rfl, ?_⟩   -- 39
    refine ⟨rfl, [], rfl, rfl, ⟨rfl, rfl, rfl, rfl, rfl, ?_, rfl, trivial⟩, rfl, rfl⟩
    refine congrArg some (blk_by ?_)
    rw [pl_vec0 hp hp2]
    refine vec_congr fun y hy => cg_add rfl (cg_mul rfl ((cg_vec hp hp2 hy).trans (cg_of_eq ?_)))
    exact ad_eq hn (fun i hi => by rw [if_pos h21]; exact sh_own hi) (fun i _ => by rw [sh_zero]) (fun i hi => by rw [if_pos h21]; exact sh_own hi)
  · skip
    refine ⟨⟨by first | omega | (simp <;> omega), by first | omega | (simp <;> omega)⟩, ?_⟩   -- 34 := lda [['.t', 11], 0, 8]
    refine ⟨⟨by first | omega | (simp <;> omega), by first | omega | (simp <;> omega)⟩, ?_⟩   -- 35 := lda [['.t', 7], 0, 8]
    refine ⟨9, [1], _, _, _, _, [_, _, _, _, _, _, _, _, _], rfl, i_Hopf_product_ok B E.2.2.1 hp hp2 hn, rfl, ⟨⟨_, rfl, fun h => by first | rfl | cases h⟩, trivial⟩, rfl, rfl, rfl, ?_⟩   -- 36
    refine ⟨⟨by first | omega | (simp <;> omega), by first | omega | (simp <;> omega)⟩, ?_⟩   -- 37 := lda [['.t', 12], 0, 8]
    refine ⟨9, [1], _, _, _, _, [_, _, _, _, _, _, _, _, _], rfl, i_Hopf_product_ok B E.2.2.1 hp hp2 hn, rfl, ⟨⟨_, rfl, fun h => by first | rfl | cases h⟩, trivial⟩, rfl, rfl, rfl, ?_⟩   -- 38
    refine ⟨9, [5], _, _, _, _, [_, _, _, _, _, _, _, _, _], rfl, i_field_plus_ok B E.2.2.2 hp (by omega) (by simp) (by omega) (by omega) (by omega) (bz_vec_lt' hp hp2), rfl, ⟨⟨_, rfl, fun h => by first | rfl | cases h⟩, trivial⟩, rfl, rfl, ?_⟩   -- 39
    refine ⟨rfl, [], rfl, rfl, ⟨rfl, rfl, rfl, rfl, rfl, ?_, rfl, trivial⟩, rfl, rfl⟩
    refine congrArg some (blk_by ?_)
    rw [pl_vec0 hp hp2]
    refine vec_congr fun y hy => cg_add rfl (cg_mul rfl ((cg_vec hp hp2 hy).trans (cg_of_eq ?_)))
    exact ad_eq hn (fun i hi => by rw [if_neg (by simp [h21]), sh_zero]) (fun i _ => by rw [sh_zero]) (fun i hi => by rw [if_neg (by simp [h21])]; exact sh_own hi)

def adC (n : Nat) (p : Int) (f g0 m b : By) (r : Bool) (t : Nat) : List Blk :=
  [⟨true, .by [p, (n : Int)] 1106 f⟩, ⟨true, .vr (.pt 1 0)⟩, ⟨true, .vr (.b r)⟩, ⟨true, .by [p, (n : Int)] 2 g0⟩, ⟨false, .by [] 8 (vec 8 p fun y => sm t fun q => bz m q * adS p n f b r (q / 8) (q % 8) y)⟩, ⟨true, .by [] 8 b⟩]
theorem ad_loop (B : Bs P ρ) (E : E_i_Hopf_adjoint P ρ) {n : Nat} {p : Int} {f g0 m b : By} {r : Bool} (hp : 1 ≤ p) (hp2 : p ≤ 256) (hn : n ≤ 8) :
    CallOK P ρ 60 [.pt 0 0, .fn 59 [] [(2, 0), (3, 0), (4, 0), (5, 0), (6, 0)]] (⟨true, .by [] 64 m⟩ :: adC n p f g0 m b r 0) (.tup []) (⟨true, .by [] 64 m⟩ :: adC n p f g0 m b r 64) := by
  refine i_pairs_ok B E.2.2.2.2 (c := 6) (C := adC n p f g0 m b r) (by simp) (by omega) (fun _ _ => rfl) (by simp) ?_ ?_ ?_ ?_
  · intro t _ b hb
    simp only [adC, List.mem_cons, List.not_mem_nil, or_false] at hb
    rcases hb with rfl | rfl | rfl | rfl | rfl | rfl <;> rfl
  · intro l k hl hk _
    have h := i_Hopf_adjoint_1_ok B E.2.2.2.1 (n := n) (N0 := 64) (hd0 := []) (f0 := m) (f := f) (g0 := g0) (b := b) (p := p) (r := r) (x := bz m (0 + l * 8 + k)) (X := fun y => sm (l * 8 + k) fun q => bz m q * adS p n f b r (q / 8) (q % 8) y) (j := l) (k := k) hp hp2 hn hl hk (bz_nn _ _) (bz_le _ _)
    have e : (vec 8 p fun y => (sm (l * 8 + k) fun q => bz m q * adS p n f b r (q / 8) (q % 8) y) + bz m (0 + l * 8 + k) * adS p n f b r l k y) = vec 8 p fun y => sm (l * 8 + k + 1) fun q => bz m q * adS p n f b r (q / 8) (q % 8) y := by
      refine vec_congr fun y _ => cg_of_eq ?_
      simp only [sm]
      rw [show (l * 8 + k) / 8 = l by omega, show (l * 8 + k) % 8 = k by omega, Nat.zero_add]
    rw [e] at h
    exact h
  · intro l k hl hk hz
    unfold adC
    have e : (vec 8 p fun y => sm (l * 8 + k + 1) fun q => bz m q * adS p n f b r (q / 8) (q % 8) y) = vec 8 p fun y => sm (l * 8 + k) fun q => bz m q * adS p n f b r (q / 8) (q % 8) y := by
      refine vec_congr fun y _ => cg_of_eq ?_
      rw [Nat.zero_add] at hz
      simp only [sm]
      rw [hz, Int.zero_mul, Int.add_zero]
    rw [e]
  · intro t _
    exact ⟨rfl, rfl, rfl, rfl, rfl, rfl, trivial⟩

theorem i_Hopf_adjoint_ok (B : Bs P ρ) (E : E_i_Hopf_adjoint P ρ) {n : Nat} {p : Int} {f a b : By} {r : Bool} (h : HShp p n f) (ha : Vec p n a 0) :
    CallOK P ρ 42 [.pt 0 0, .ag [] 8 a, .ag [] 8 b, .b r] [⟨true, .by [p, (n : Int)] 1106 f⟩] (.one (.ag [] 8 (vec 8 p (adj p n f a b r)))) [⟨true, .by [p, (n : Int)] 1106 f⟩] := by
  refine call_of_vc B.fn B.mo E.1 rfl rfl ?_
  have hb := h.b
  have hp : 1 ≤ p := by omega
  have hp2 : p ≤ 256 := by omega
  refine ⟨1, rfl, ?_⟩   -- .box 4
  refine ⟨2, rfl, ?_⟩   -- .box 5
  refine ⟨3, rfl, ?_⟩   -- .box 6
  refine ⟨4, rfl, ?_⟩   -- .box 7
  refine ⟨5, rfl, ?_⟩   -- .alo 8
  refine ⟨6, [0], _, _, _, _, [_, _, _, _, _, _], rfl, i_Hopf_field_ok B E.2.1 , rfl, ⟨⟨_, rfl, fun h => by first | rfl | cases h⟩, trivial⟩, rfl, rfl, ?_⟩   -- 13
  refine ⟨6, rfl, ?_⟩   -- .alo 9
  refine ⟨7, rfl, ?_⟩   -- .alo 10
  refine ⟨⟨rfl, by first | omega | (simp <;> omega), by first | omega | (simp <;> omega)⟩, ?_⟩   -- sta ['.t', 10] ['.t', 14] 8
  refine ⟨⟨by first | omega | (simp <;> omega), by first | omega | (simp <;> omega)⟩, ?_⟩   -- 16 := lda [['.t', 5], 0, 8]
  refine ⟨8, [0], _, _, _, _, [_, _, _, _, _, _, _, _], rfl, i_Hopf_coproduct_ok B E.2.2.1 hp hp2 hb.2.2.2 (fun i h1 h2 => by rw [sh_zero]; have := (ha i h2).2 (by omega); rw [Nat.zero_add] at this; exact this), rfl, ⟨⟨_, rfl, fun h => by first | rfl | cases h⟩, trivial⟩, rfl, rfl, ?_⟩   -- 17
  refine ⟨8, rfl, ?_⟩   -- .alo 11
  refine ⟨⟨rfl, by first | omega | (simp <;> omega), by first | omega | (simp <;> omega)⟩, ?_⟩   -- sta ['.t', 11] ['.t', 17] 64
  have e0 : spl (fun _ => 0) 0 8 (fun _ => 0) = vec 8 p fun y => sm 0 fun q => bz (vec 64 p (cop n f 530 a)) q * adS p n f b r (q / 8) (q % 8) y := by
    rw [z_sta]
    exact (vec_zero fun _ _ => rfl).symm
  have e1 : spl (fun _ => 0) 0 64 (vec 64 p (cop n f 530 (sh a 0))) = vec 64 p (cop n f 530 a) := by
    rw [sh_zero]; exact z_spl _ _ fun _ h => vec_out h
  refine ⟨9, [8, 0, 1, 4, 6, 7, 3], _, _, _, _, [_, _, _, _, _, _, _, _, _], rfl, ad_loop B E (n := n) (f := f) (g0 := fun _ => 0) (m := vec 64 p (cop n f 530 a)) (b := b) (r := r) hp hp2 hb.2.2.2, rfl, ⟨⟨_, congrArg (fun g => some (Blk.mk false (.by [] 64 g))) e1, fun h => by first | rfl | cases h⟩, ⟨_, rfl, fun h => by first | rfl | cases h⟩, ⟨_, rfl, fun h => by first | rfl | cases h⟩, ⟨_, rfl, fun h => by first | rfl | cases h⟩, ⟨_, rfl, fun h => by first | rfl | cases h⟩, ⟨_, congrArg (fun g => some (Blk.mk false (.by [] 8 g))) e0, fun h => by first | rfl | cases h⟩, ⟨_, rfl, fun h => by first | rfl | cases h⟩, trivial⟩, rfl, rfl, ?_⟩
  refine ⟨⟨by first | omega | (simp <;> omega), by first | omega | (simp <;> omega)⟩, ?_⟩   -- 20 := lda [['.t', 10], 0, 8]
  refine ⟨⟨rfl, by first | omega | (simp <;> omega), by first | omega | (simp <;> omega)⟩, ?_⟩   -- sta ['.t', 8] ['.t', 20] 8
  refine ⟨rfl, ⟨by first | omega | (simp <;> omega), by first | omega | (simp <;> omega)⟩, [], ?_, rfl, ⟨rfl, trivial⟩, rfl, rfl⟩
  refine one_ag (out_vec.trans (vec_congr fun y _ => cg_of_eq ?_))
  exact adj_eq h

theorem s_l07Adjoint_ok (B : Bs P ρ) (E : E_s_l07Adjoint P ρ) {n : Nat} {p : Int} {f a b : By} {r : Bool} (hp : 1 ≤ p) (hp2 : p ≤ 256) (hn : n ≤ 8) :
    CallOK P ρ 41 [.ag [p, (n : Int)] 1106 f, .ag [] 8 a, .ag [] 8 b, .b r] [] (.one (.ag [] 8 (vec 8 p (adj p n f a b r)))) [] := by
  refine call_of_vc B.fn B.mo E.1 rfl rfl ?_
  refine ⟨0, rfl, ?_⟩   -- .box 4
  refine ⟨1, rfl, ?_⟩   -- .box 5
  refine ⟨2, rfl, ?_⟩   -- .box 6
  refine ⟨3, rfl, ?_⟩   -- .alo 8
  refine ⟨⟨by first | omega | (simp <;> omega), by first | omega | (simp <;> omega)⟩, ?_⟩   -- 17 := lda [['.t', 5], 0, 8]
  refine ⟨4, [], _, _, _, _, [_, _, _, _], rfl, s_l03Coproduct_ok B E.2.1 hp hp2 hn, rfl, trivial, rfl, rfl, rfl, ?_⟩   -- 18
  refine ⟨4, [], _, _, _, _, [_, _, _, _], rfl, s_l03Algebra_ok B E.2.2.1 , rfl, trivial, rfl, rfl, rfl, ?_⟩   -- 21
  refine ⟨4, rfl, rfl, ?_⟩   -- .new 9
  refine ⟨5, rfl, ?_⟩   -- .new 10
  refine ⟨6, rfl, ?_⟩   -- .new 11
  refine ⟨⟨rfl, by first | omega | (simp <;> omega), by first | omega | (simp <;> omega)⟩, ?_⟩   -- sta ['.t', 10] ['.t', 19] 8
  refine ⟨(fun a3 b0 b1 b2 b3 i0 => St.mk [(3, a3), (4, .one (.pt 0 0)), (6, .one (.pt 2 0)), (8, .one (.pt 3 0)), (9, .one (.pt 4 0)), (10, .one (.pt 5 0)), (11, .one (.pt 6 0)), (12, .one (.i .i64 ((i0 : Nat) : Int)))] [b0, b1, b2, b3, Blk.mk false (.by [] 64 (vec 64 p (cop n f 530 a))), Blk.mk false (.by [] 8 (vec 8 p fun y => sm i0 fun j => sm n fun k => bz (vec 64 p (cop n f 530 a)) (j * 8 + k) * adS p n f b r j k y)), Blk.mk false (.by [p, (n : Int)] 522 f)]) _ _ _ _ _ , fun i0 => True, n, trivial, ⟨⟨rfl, rfl, rfl, rfl, rfl, rfl, rfl, rfl, trivial⟩, ⟨rfl, rfl, rfl, rfl, ?_, ?_, rfl, trivial⟩, rfl⟩, fun i0 hi0 _ => ?_⟩
  · exact blk_by (by rw [sh_zero])
  · refine blk_by ?_
    rw [z_sta]
    exact vec_0.symm
  refine ⟨fun h25 => ?_, fun h25 => ?_⟩
  · replace h25 := of_decide_eq_true h25
    refine ⟨(fun a3 a12 b0 b1 b2 b3 b4 b6 i1 => St.mk [(3, a3), (4, .one (.pt 0 0)), (6, .one (.pt 2 0)), (8, .one (.pt 3 0)), (9, .one (.pt 4 0)), (10, .one (.pt 5 0)), (11, .one (.pt 6 0)), (12, a12), (13, .one (.i .i64 ((i1 : Nat) : Int)))] [b0, b1, b2, b3, b4, Blk.mk false (.by [] 8 (vec 8 p fun y => sm i0 (fun j => sm n fun k => bz (vec 64 p (cop n f 530 a)) (j * 8 + k) * adS p n f b r j k y) + sm i1 fun k => bz (vec 64 p (cop n f 530 a)) (i0 * 8 + k) * adS p n f b r i0 k y)), b6]) _ _ _ _ _ _ _ _ , fun i1 => True, n, trivial, ⟨⟨rfl, rfl, rfl, rfl, rfl, rfl, rfl, rfl, rfl, trivial⟩, ⟨rfl, rfl, rfl, rfl, rfl, ?_, rfl, trivial⟩, rfl⟩, fun i1 hi1 _ => ?_⟩
    · refine blk_by (vec_congr fun y _ => cg_of_eq ?_)
      simp only [sm, Int.add_zero]
    have q0 := bz_nn (vec 64 p (cop n f 530 a)) (i0 * 8 + i1)
    have q1 := bz_le (vec 64 p (cop n f 530 a)) (i0 * 8 + i1)
    refine ⟨fun h31 => ?_, fun h31 => ?_⟩
    · replace h31 := of_decide_eq_true h31
      refine ⟨i0, i0 * 8, rfl, by omega, by omega, ?_⟩   -- 36
      refine ⟨i1, i0 * 8 + i1, rfl, by omega, by omega, ?_⟩   -- 37
      refine ⟨⟨by first | omega | (simp <;> omega), by first | omega | (simp <;> omega)⟩, ?_⟩   -- 38 := ld8 ['.t', 37]
      refine ⟨fun h39 => ?_, fun h39 => ?_⟩
      · replace h39 := eq_of_beq h39
        refine ⟨((i1 + 1 : Nat) : Int), w64_id _ (by omega) (by omega), ?_⟩   -- 33
        refine ⟨by omega, trivial, ⟨rfl, rfl, rfl, rfl, rfl, rfl, rfl, rfl, rfl, trivial⟩, ⟨rfl, rfl, rfl, rfl, rfl, ?_, rfl, trivial⟩, rfl⟩
        refine blk_by (vec_congr fun y _ => cg_add rfl (cg_of_eq ?_))
        simp only [sm]
        rw [z0_of h39, Int.zero_mul, Int.add_zero]
      · replace h39 := ne_of_beq_false h39
        refine ⟨7, [], _, _, _, _, [_, _, _, _, _, _, _], rfl, s_l01Basis_ok B E.2.2.2.1 (i := i0) (by omega), rfl, trivial, rfl, rfl, rfl, ?_⟩   -- 41
        refine ⟨i1, 1042 + i1 * 8, rfl, by omega, by omega, ?_⟩   -- 44
        refine ⟨⟨by first | omega | (simp <;> omega), by first | omega | (simp <;> omega)⟩, ?_⟩   -- 45 := lda [['.t', 44], 0, 8]
        refine ⟨7, rfl, rfl, ?_⟩   -- .new 14
        refine ⟨8, rfl, ?_⟩   -- .new 15
        refine ⟨⟨rfl, by first | omega | (simp <;> omega), by first | omega | (simp <;> omega)⟩, ?_⟩   -- sta ['.t', 15] ['.t', 45] 8
        refine ⟨fun h46 => ?_, fun h46 => ?_⟩
        · skip
          refine ⟨i0, 1042 + i0 * 8, rfl, by omega, by omega, ?_⟩   -- 49
          refine ⟨⟨by first | omega | (simp <;> omega), by first | omega | (simp <;> omega)⟩, ?_⟩   -- 50 := lda [['.t', 49], 0, 8]
          refine ⟨⟨rfl, by first | omega | (simp <;> omega), by first | omega | (simp <;> omega)⟩, ?_⟩   -- sta ['.t', 14] ['.t', 50] 8
          refine ⟨9, [], _, _, _, _, [_, _, _, _, _, _, _, _, _], rfl, s_l01Basis_ok B E.2.2.2.1 (i := i1) (by omega), rfl, trivial, rfl, rfl, ?_⟩   -- 52
          refine ⟨⟨rfl, by first | omega | (simp <;> omega), by first | omega | (simp <;> omega)⟩, ?_⟩   -- sta ['.t', 15] ['.t', 52] 8
          refine ⟨⟨by first | omega | (simp <;> omega), by first | omega | (simp <;> omega)⟩, ?_⟩   -- 55 := lda [['.t', 10], 0, 8]
          refine ⟨⟨by first | omega | (simp <;> omega), by first | omega | (simp <;> omega)⟩, ?_⟩   -- 58 := lda [['.t', 14], 0, 8]
          refine ⟨⟨by first | omega | (simp <;> omega), by first | omega | (simp <;> omega)⟩, ?_⟩   -- 59 := lda [['.t', 6], 0, 8]
          refine ⟨9, [], _, _, _, _, [_, _, _, _, _, _, _, _, _], rfl, s_l01Times_ok B E.2.2.2.2.1 hp hp2 hn, rfl, trivial, rfl, rfl, rfl, ?_⟩   -- 60
          refine ⟨⟨by first | omega | (simp <;> omega), by first | omega | (simp <;> omega)⟩, ?_⟩   -- 61 := lda [['.t', 15], 0, 8]
          refine ⟨9, [], _, _, _, _, [_, _, _, _, _, _, _, _, _], rfl, s_l01Times_ok B E.2.2.2.2.1 hp hp2 hn, rfl, trivial, rfl, rfl, rfl, ?_⟩   -- 62
          refine ⟨i0, i0 * 8, rfl, by omega, by omega, ?_⟩   -- 65
          refine ⟨i1, i0 * 8 + i1, rfl, by omega, by omega, ?_⟩   -- 66
          refine ⟨⟨by first | omega | (simp <;> omega), by first | omega | (simp <;> omega)⟩, ?_⟩   -- 67 := ld8 ['.t', 66]
          refine ⟨9, [], _, _, _, _, [_, _, _, _, _, _, _, _, _], rfl, s_l01Add_ok B E.2.2.2.2.2 (k := bz (vec 64 p (cop n f 530 a)) (i0 * 8 + i1)) hp (by omega) (by omega) (by omega), rfl, trivial, rfl, rfl, ?_⟩   -- 69
          refine ⟨⟨rfl, by first | omega | (simp <;> omega), by first | omega | (simp <;> omega)⟩, ?_⟩   -- sta ['.t', 10] ['.t', 69] 8
          refine ⟨((i1 + 1 : Nat) : Int), w64_id _ (by omega) (by omega), ?_⟩   -- 33
          refine ⟨by omega, trivial, ⟨rfl, rfl, rfl, rfl, rfl, rfl, rfl, rfl, rfl, trivial⟩, ⟨rfl, rfl, rfl, rfl, rfl, ?_, rfl, trivial⟩, rfl⟩
          refine blk_by ?_
          rw [spl_plsN, pl_vec0 hp hp2]
          refine vec_congr fun y hy => cg.symm ((cg_of_eq (Int.add_assoc _ _ _)).trans (cg_add rfl (cg_add rfl (cg_mul rfl ((cg_vec hp hp2 hy).trans (cg_of_eq ?_))))))
          exact ad_eq hn (fun i hi => by rw [if_pos h46]; exact sh_own hi) (fun i _ => by rw [sh_zero]) (fun i hi => by rw [if_pos h46]; exact sh_own hi)
        · skip
          refine ⟨⟨by first | omega | (simp <;> omega), by first | omega | (simp <;> omega)⟩, ?_⟩   -- 55 := lda [['.t', 10], 0, 8]
          refine ⟨⟨by first | omega | (simp <;> omega), by first | omega | (simp <;> omega)⟩, ?_⟩   -- 58 := lda [['.t', 14], 0, 8]
          refine ⟨⟨by first | omega | (simp <;> omega), by first | omega | (simp <;> omega)⟩, ?_⟩   -- 59 := lda [['.t', 6], 0, 8]
          refine ⟨9, [], _, _, _, _, [_, _, _, _, _, _, _, _, _], rfl, s_l01Times_ok B E.2.2.2.2.1 hp hp2 hn, rfl, trivial, rfl, rfl, rfl, ?_⟩   -- 60
          refine ⟨⟨by first | omega | (simp <;> omega), by first | omega | (simp <;> omega)⟩, ?_⟩   -- 61 := lda [['.t', 15], 0, 8]
          refine ⟨9, [], _, _, _, _, [_, _, _, _, _, _, _, _, _], rfl, s_l01Times_ok B E.2.2.2.2.1 hp hp2 hn, rfl, trivial, rfl, rfl, rfl, ?_⟩   -- 62
          refine ⟨i0, i0 * 8, rfl, by omega, by omega, ?_⟩   -- 65
          refine ⟨i1, i0 * 8 + i1, rfl, by omega, by omega, ?_⟩   -- 66
          refine ⟨⟨by first | omega | (simp <;> omega), by first | omega | (simp <;> omega)⟩, ?_⟩   -- 67 := ld8 ['.t', 66]
          refine ⟨9, [], _, _, _, _, [_, _, _, _, _, _, _, _, _], rfl, s_l01Add_ok B E.2.2.2.2.2 (k := bz (vec 64 p (cop n f 530 a)) (i0 * 8 + i1)) hp (by omega) (by omega) (by omega), rfl, trivial, rfl, rfl, ?_⟩   -- 69
          refine ⟨⟨rfl, by first | omega | (simp <;> omega), by first | omega | (simp <;> omega)⟩, ?_⟩   -- sta ['.t', 10] ['.t', 69] 8
          refine ⟨((i1 + 1 : Nat) : Int), w64_id _ (by omega) (by omega), ?_⟩   -- 33
          refine ⟨by omega, trivial, ⟨rfl, rfl, rfl, rfl, rfl, rfl, rfl, rfl, rfl, trivial⟩, ⟨rfl, rfl, rfl, rfl, rfl, ?_, rfl, trivial⟩, rfl⟩
          refine blk_by ?_
          rw [spl_plsN, pl_vec0 hp hp2]
          refine vec_congr fun y hy => cg.symm ((cg_of_eq (Int.add_assoc _ _ _)).trans (cg_add rfl (cg_add rfl (cg_mul rfl ((cg_vec hp hp2 hy).trans (cg_of_eq ?_))))))
          exact ad_eq hn (fun i hi => by rw [if_neg (by simp [h46]), sh_zero]) (fun i _ => by rw [sh_zero]) (fun i hi => by rw [if_neg (by simp [h46])]; exact sh_own hi)
    · replace h31 := of_decide_eq_false h31
      have e1 : n = i1 := by omega
      subst e1
      refine ⟨((i0 + 1 : Nat) : Int), w64_id _ (by omega) (by omega), ?_⟩   -- 27
      exact ⟨by omega, trivial, ⟨rfl, rfl, rfl, rfl, rfl, rfl, rfl, rfl, trivial⟩, ⟨rfl, rfl, rfl, rfl, rfl, rfl, rfl, trivial⟩, rfl⟩
  · replace h25 := of_decide_eq_false h25
    have e0 : n = i0 := by omega
    subst e0
    refine ⟨⟨by first | omega | (simp <;> omega), by first | omega | (simp <;> omega)⟩, ?_⟩   -- 70 := lda [['.t', 10], 0, 8]
    refine ⟨⟨rfl, by first | omega | (simp <;> omega), by first | omega | (simp <;> omega)⟩, ?_⟩   -- sta ['.t', 8] ['.t', 70] 8
    refine ⟨rfl, ⟨by first | omega | (simp <;> omega), by first | omega | (simp <;> omega)⟩, [], ?_, rfl, trivial, rfl, rfl⟩
    exact one_ag (out_vec.trans rfl)

theorem i_Hopf_has_1_ok (B : Bs P ρ) (E : E_i_Hopf_has_1 P ρ) {n p : Int} {f v : By} :
    CallOK P ρ 69 [.ag [] 8 v, .pt 0 0] [⟨true, .vr (.pt 1 0)⟩, ⟨true, .by [p, n] 1106 f⟩] (.one (.b (!decide (Shp p n ∧ Vec p n v 0)))) [⟨true, .vr (.pt 1 0)⟩, ⟨true, .by [p, n] 1106 f⟩] := by
  refine call_of_vc B.fn B.mo E.1 rfl rfl ?_
  refine ⟨2, rfl, ?_⟩   -- .box 2
  refine ⟨⟨by first | omega | (simp <;> omega), by first | omega | (simp <;> omega)⟩, ?_⟩   -- 12 := lda [['.t', 2], 0, 8]
  refine ⟨3, [], _, _, _, _, [_, _, _], rfl, i_IsVector_ok B E.2 , rfl, trivial, rfl, rfl, ?_⟩   -- 13
  refine ⟨rfl, [], ?_, rfl, ⟨rfl, rfl, trivial⟩, rfl, rfl⟩
  rw [sh_zero]; rfl

theorem i_Hopf_has_ok (B : Bs P ρ) (E : E_i_Hopf_has P ρ) {n p : Int} {f l : By} {len cap N : Nat} (hN : len * 8 ≤ N) (hlen : len ≤ 1000000000) :
    CallOK P ρ 48 [.pt 0 0, .sl 1 0 len cap] [⟨true, .by [p, n] 1106 f⟩, ⟨true, .by [] N l⟩] (.one (.b (decide (∀ i, i < len → Shp p n ∧ Vec p n l (i * 8))))) [⟨true, .by [p, n] 1106 f⟩, ⟨true, .by [] N l⟩] := by
  refine call_of_vc B.fn B.mo E.1 rfl rfl ?_
  refine ⟨2, rfl, ?_⟩   -- .box 2
  refine ⟨3, [1, 2, 0], [.sl 0 0 len cap, .fn 69 [] [(1, 0)]], [⟨true, .by [] N l⟩, ⟨true, .vr (.pt 2 0)⟩, ⟨true, .by [p, n] 1106 f⟩], _, _, [_, _, _], rfl, x_ContainsFunc_V_ok B E.2.2 (q := fun i => !decide (Shp p n ∧ Vec p n (sh l (0 + i * 8)) 0)) (by omega) hlen (by simp) rfl rfl (fun i hi => (i_Hopf_has_1_ok B E.2.1 (p := p) (n := n) (f := f) (v := sh l (0 + i * 8))).emb [1, 2] rfl ⟨⟨_, rfl, fun h => h⟩, ⟨_, rfl, fun h => h⟩, trivial⟩ rfl rfl rfl), rfl, ⟨⟨_, rfl, fun h => by first | rfl | cases h⟩, ⟨_, rfl, fun h => by first | rfl | cases h⟩, ⟨_, rfl, fun h => by first | rfl | cases h⟩, trivial⟩, rfl, rfl, ?_⟩
  refine ⟨rfl, [], ?_, rfl, ⟨rfl, rfl, trivial⟩, rfl, rfl⟩
  refine one_b ?_
  rw [Bool.eq_iff_iff, Bool.not_eq_true', decide_eq_false_iff_not, decide_eq_true_iff]
  simp only [Bool.not_eq_true', decide_eq_false_iff_not, not_exists, not_and, Classical.not_not, Nat.zero_add, Vec_sh, Nat.add_zero]
  exact forall_congr' fun i => imp_congr_right fun _ => by rw [Classical.not_imp, Classical.not_not]

theorem i_Hopf_code_ok (B : Bs P ρ) (E : E_i_Hopf_code P ρ) {n p : Int} {f l : By} {len cap N : Nat} (hN : len * 8 ≤ N) (hlen : len ≤ 1000000000) :
    CallOK P ρ 27 [.pt 0 0, .sl 1 0 len cap] [⟨true, .by [p, n] 1106 f⟩, ⟨true, .by [] N l⟩] (.one (.i .i64 (oc (Hop p n f ∧ ∀ i, i < len → Vec p n l (i * 8)) 1))) [⟨true, .by [p, n] 1106 f⟩, ⟨true, .by [] N l⟩] := by
  refine call_of_vc B.fn B.mo E.1 rfl rfl ?_
  refine ⟨2, [], _, _, _, _, [_, _], rfl, i_IsHopf_ok B E.2.1 , rfl, trivial, rfl, rfl, ?_⟩   -- 8
  refine ⟨fun h9 => ?_, fun h9 => ?_⟩
  · skip
    refine brB_t ?_
    refine brB_t ?_
    refine ⟨2, [0, 1], _, _, _, _, [_, _], rfl, i_Hopf_has_ok B E.2.2.1 hN hlen, rfl, ⟨⟨_, rfl, fun h => by first | rfl | cases h⟩, ⟨_, rfl, fun h => by first | rfl | cases h⟩, trivial⟩, rfl, rfl, ?_⟩   -- 12
    refine brB_t ?_
    refine ⟨2, [], _, _, _, _, [_, _], rfl, i_unless_ok B E.2.2.2 , rfl, trivial, rfl, rfl, ?_⟩   -- 14
    refine ⟨rfl, [], ?_, rfl, ⟨rfl, rfl, trivial⟩, rfl, rfl⟩
    have hH := dec_elim_t h9
    refine one_i ?_
    by_cases q : ∀ i, i < len → Shp p n ∧ Vec p n l (i * 8)
    · rw [oc_t ⟨hH, fun i hi => (q i hi).2⟩, if_pos (decide_eq_true q)]
    · rw [oc_f (q := Hop p n f ∧ ∀ i, i < len → Vec p n l (i * 8)) (fun q2 => q fun i hi => ⟨hH.1.1, q2.2 i hi⟩), if_neg (by rw [decide_eq_false q]; simp)]
  · skip
    refine brB_f ?_
    refine brB_f ?_
    refine brB_f ?_
    refine ⟨2, [], _, _, _, _, [_, _], rfl, i_unless_ok B E.2.2.2 , rfl, trivial, rfl, rfl, ?_⟩   -- 14
    refine ⟨rfl, [], ?_, rfl, ⟨rfl, rfl, trivial⟩, rfl, rfl⟩
    rw [oc_f (fun q2 : _ ∧ _ => dec_elim_t' h9 q2.1)]; rfl

theorem s_l03Code_ok (B : Bs P ρ) (E : E_s_l03Code P ρ) {n p : Int} {f l : By} {len cap N : Nat} (hN : len * 8 ≤ N) (hlen : len ≤ 1000000000) :
    CallOK P ρ 40 [.ag [p, n] 1106 f, .sl 0 0 len cap] [⟨true, .by [] N l⟩] (.one (.i .i64 (oc (Hop p n f ∧ ∀ i, i < len → Vec p n l (i * 8)) 1))) [⟨true, .by [] N l⟩] := by
  refine call_of_vc B.fn B.mo E.1 rfl rfl ?_
  refine ⟨1, rfl, ?_⟩   -- .box 2
  refine ⟨2, [], _, _, _, _, [_, _], rfl, s_l03Is_ok B E.2.1 , rfl, trivial, rfl, rfl, ?_⟩   -- 7
  refine ⟨fun h8 => ?_, fun h8 => ?_⟩
  · skip
    have hH : ¬ Hop p n f := dec_elim_t' (not_t h8)
    refine ⟨rfl, [], ?_, rfl, ⟨rfl, trivial⟩, rfl, rfl⟩
    rw [oc_f (fun q2 : _ ∧ _ => hH q2.1)]; rfl
  · skip
    have hH : Hop p n f := dec_elim_t (not_f h8)
    refine ⟨(fun a1 b0 b1 i0 => St.mk [(1, a1), (2, .one (.pt 1 0)), (5, .one (.i .i64 ((i0 : Nat) : Int)))] [b0, b1]) _ _ _ , fun i0 => ∀ i, i < i0 → Vec p n l (i * 8), len, fun _ _ => by omega, ⟨⟨rfl, rfl, rfl, trivial⟩, ⟨rfl, rfl, trivial⟩, rfl⟩, fun i0 hi0 hF0 => ?_⟩
    refine ⟨fun h12 => ?_, fun h12 => ?_⟩
    · replace h12 := of_decide_eq_true h12
      refine ⟨_, _, rfl, by first | omega | (simp <;> omega), rfl, ?_⟩   -- 21 := ['.t', 19][['.t', 20]] of [8]
      refine ⟨⟨by first | omega | (simp <;> omega), by first | omega | (simp <;> omega)⟩, ?_⟩   -- 22 := lda [['.t', 21], 0, 8]
      refine ⟨2, [], _, _, _, _, [_, _], rfl, s_l01Vector_ok B E.2.2 , rfl, trivial, rfl, rfl, ?_⟩   -- 23
      refine ⟨fun h24 => ?_, fun h24 => ?_⟩
      · skip
        have q24 : ¬ Vec p n l (i0 * 8) := fun q => dec_elim_t' (not_t h24) (Vec_sh.2 (by rw [Nat.zero_add]; exact q))
        refine ⟨rfl, [], ?_, rfl, ⟨rfl, trivial⟩, rfl, rfl⟩
        rw [oc_f (q := Hop p n f ∧ ∀ i, i < len → Vec p n l (i * 8)) (fun q2 => q24 (q2.2 i0 (by omega)))]; rfl
      · skip
        have q24 : Vec p n l (i0 * 8) := by have := Vec_sh.1 (dec_elim_t (not_f h24)); rw [Nat.zero_add] at this; exact this
        refine ⟨((i0 + 1 : Nat) : Int), w64_id _ (by omega) (by omega), ?_⟩   -- 14
        refine ⟨by omega, ?_, ⟨rfl, rfl, rfl, trivial⟩, ⟨rfl, rfl, trivial⟩, rfl⟩
        intro i hi
        by_cases e : i = i0
        · subst e; exact q24
        · exact hF0 i (by omega)
    · replace h12 := of_decide_eq_false h12
      have e0 : len = i0 := by omega
      subst e0
      refine ⟨rfl, [], ?_, rfl, ⟨rfl, trivial⟩, rfl, rfl⟩
      rw [oc_t ⟨hH, hF0⟩]; rfl

theorem ls2_iff {p n : Int} {a b : By} : (∀ i, i < 2 → Vec p n (spl (spl (fun _ => 0) (0 * 8) 8 (sh a 0)) ((0 + 1) * 8) 8 (sh b 0)) (i * 8)) ↔ Vec p n a 0 ∧ Vec p n b 0 := by
  have e0 : ∀ k, k < 8 → bz (spl (spl (fun _ => 0) (0 * 8) 8 (sh a 0)) ((0 + 1) * 8) 8 (sh b 0)) (0 * 8 + k) = bz a (0 + k) := fun k hk => by
    simp only [bz, spl, sh]
    rw [if_neg (by omega), if_pos (by omega), show 0 + (0 * 8 + k - 0 * 8) = 0 + k by omega]
  have e1 : ∀ k, k < 8 → bz (spl (spl (fun _ => 0) (0 * 8) 8 (sh a 0)) ((0 + 1) * 8) 8 (sh b 0)) (1 * 8 + k) = bz b (0 + k) := fun k hk => by
    simp only [bz, spl, sh]
    rw [if_pos (by omega), show 0 + (1 * 8 + k - (0 + 1) * 8) = 0 + k by omega]
  constructor
  · intro h
    exact ⟨fun k hk => by rw [← e0 k hk]; exact h 0 (by omega) k hk, fun k hk => by rw [← e1 k hk]; exact h 1 (by omega) k hk⟩
  · rintro ⟨h1, h2⟩ i hi k hk
    have : i = 0 ∨ i = 1 := by omega
    rcases this with rfl | rfl
    · rw [e0 k hk]; exact h1 k hk
    · rw [e1 k hk]; exact h2 k hk

theorem i_AdjointAction_ok (B : Bs P ρ) (E : E_i_AdjointAction P ρ) {n p : Int} {f a b : By} {r : Bool} :
    CallOK P ρ 18 [.ag [p, n] 1106 f, .ag [] 8 a, .ag [] 8 b, .b r] [] (.tup [.ag [] 8 (ob (Hop p n f ∧ Vec p n a 0 ∧ Vec p n b 0) (vec 8 p (adj p n.toNat f a b r))), .i .i64 (oc (Hop p n f ∧ Vec p n a 0 ∧ Vec p n b 0) 1)]) [] := by
  refine call_of_vc B.fn B.mo E.1 rfl rfl ?_
  refine ⟨0, rfl, ?_⟩   -- .box 4
  refine ⟨1, rfl, ?_⟩   -- .box 5
  refine ⟨2, rfl, ?_⟩   -- .box 6
  refine ⟨3, rfl, ?_⟩   -- .alo 8
  refine ⟨⟨by first | omega | (simp <;> omega), by first | omega | (simp <;> omega)⟩, ?_⟩   -- 11 := lda [['.t', 5], 0, 8]
  refine ⟨⟨by first | omega | (simp <;> omega), by first | omega | (simp <;> omega)⟩, ?_⟩   -- 12 := lda [['.t', 6], 0, 8]
  refine ⟨4, rfl, ?_⟩   -- .bsb 13
  refine ⟨5, [0, 4], _, _, _, _, [_, _, _, _, _], rfl, i_Hopf_code_ok B E.2.1 (len := 2) (N := 16) (by omega) (by omega), rfl, ⟨⟨_, rfl, fun h => by first | rfl | cases h⟩, ⟨_, rfl, fun h => by first | rfl | cases h⟩, trivial⟩, rfl, rfl, ?_⟩   -- 14
  refine ⟨fun h16 => ?_, fun h16 => ?_⟩
  · replace h16 := bne_t h16
    have hQ : ¬ (Hop p n f ∧ Vec p n a 0 ∧ Vec p n b 0) := fun q => h16 (oc_t ⟨q.1, ls2_iff.2 q.2⟩)
    refine ⟨⟨rfl, by first | omega | (simp <;> omega), by first | omega | (simp <;> omega)⟩, ?_⟩   -- sta ['.t', 8] ['.t', 17] 8
    refine ⟨rfl, ⟨by first | omega | (simp <;> omega), by first | omega | (simp <;> omega)⟩, [], ?_, rfl, trivial, rfl, rfl⟩
    rw [ob_f hQ, oc_f hQ, oc_f (fun q2 : _ ∧ _ => hQ ⟨q2.1, ls2_iff.1 q2.2⟩), out_0]; rfl
  · replace h16 := bne_f h16
    have hQ : Hop p n f ∧ Vec p n a 0 ∧ Vec p n b 0 := Classical.byContradiction fun q => by rw [oc_f fun q2 : _ ∧ _ => q ⟨q2.1, ls2_iff.1 q2.2⟩] at h16; cases h16
    have hb := AShp.p1 (f := f) ⟨hQ.1.1.1, hQ.1.1.2.1, hQ.1.1.2.2.1⟩
    obtain ⟨m, rfl⟩ : ∃ m : Nat, n = (m : Int) := ⟨n.toNat, by omega⟩
    refine ⟨⟨by first | omega | (simp <;> omega), by first | omega | (simp <;> omega)⟩, ?_⟩   -- 19 := lda [['.t', 5], 0, 8]
    refine ⟨⟨by first | omega | (simp <;> omega), by first | omega | (simp <;> omega)⟩, ?_⟩   -- 20 := lda [['.t', 6], 0, 8]
    refine ⟨5, [0], _, _, _, _, [_, _, _, _, _], rfl, i_Hopf_adjoint_ok B E.2.2 hQ.1.1 (by rw [sh_zero]; exact hQ.2.1), rfl, ⟨⟨_, rfl, fun h => by first | rfl | cases h⟩, trivial⟩, rfl, rfl, ?_⟩   -- 22
    refine ⟨⟨rfl, by first | omega | (simp <;> omega), by first | omega | (simp <;> omega)⟩, ?_⟩   -- sta ['.t', 8] ['.t', 22] 8
    refine ⟨rfl, ⟨by first | omega | (simp <;> omega), by first | omega | (simp <;> omega)⟩, [], ?_, rfl, trivial, rfl, rfl⟩
    rw [ob_t hQ, oc_t hQ, sh_zero, sh_zero a, sh_zero b, z_spl _ _ fun _ h => vec_out h]; rfl

theorem s_AdjointAction_ok (B : Bs P ρ) (E : E_s_AdjointAction P ρ) {n p : Int} {f a b : By} {r : Bool} :
    CallOK P ρ 17 [.ag [p, n] 1106 f, .ag [] 8 a, .ag [] 8 b, .b r] [] (.tup [.ag [] 8 (ob (Hop p n f ∧ Vec p n a 0 ∧ Vec p n b 0) (vec 8 p (adj p n.toNat f a b r))), .i .i64 (oc (Hop p n f ∧ Vec p n a 0 ∧ Vec p n b 0) 1)]) [] := by
  refine call_of_vc B.fn B.mo E.1 rfl rfl ?_
  refine ⟨0, rfl, ?_⟩   -- .box 4
  refine ⟨1, rfl, ?_⟩   -- .box 5
  refine ⟨2, rfl, ?_⟩   -- .box 6
  refine ⟨3, rfl, ?_⟩   -- .alo 8
  refine ⟨⟨by first | omega | (simp <;> omega), by first | omega | (simp <;> omega)⟩, ?_⟩   -- 12 := lda [['.t', 5], 0, 8]
  refine ⟨⟨by first | omega | (simp <;> omega), by first | omega | (simp <;> omega)⟩, ?_⟩   -- 13 := lda [['.t', 6], 0, 8]
  refine ⟨4, rfl, ?_⟩   -- .bsb 14
  refine ⟨5, [4], _, _, _, _, [_, _, _, _, _], rfl, s_l03Code_ok B E.2.1 (len := 2) (N := 16) (by omega) (by omega), rfl, ⟨⟨_, rfl, fun h => by first | rfl | cases h⟩, trivial⟩, rfl, rfl, ?_⟩   -- 15
  refine ⟨fun h17 => ?_, fun h17 => ?_⟩
  · replace h17 := bne_t h17
    have hQ : ¬ (Hop p n f ∧ Vec p n a 0 ∧ Vec p n b 0) := fun q => h17 (oc_t ⟨q.1, ls2_iff.2 q.2⟩)
    refine ⟨⟨rfl, by first | omega | (simp <;> omega), by first | omega | (simp <;> omega)⟩, ?_⟩   -- sta ['.t', 8] ['.t', 18] 8
    refine ⟨rfl, ⟨by first | omega | (simp <;> omega), by first | omega | (simp <;> omega)⟩, [], ?_, rfl, trivial, rfl, rfl⟩
    rw [ob_f hQ, oc_f hQ, oc_f (fun q2 : _ ∧ _ => hQ ⟨q2.1, ls2_iff.1 q2.2⟩), out_0]; rfl
  · replace h17 := bne_f h17
    have hQ : Hop p n f ∧ Vec p n a 0 ∧ Vec p n b 0 := Classical.byContradiction fun q => by rw [oc_f fun q2 : _ ∧ _ => q ⟨q2.1, ls2_iff.1 q2.2⟩] at h17; cases h17
    have hb := AShp.p1 (f := f) ⟨hQ.1.1.1, hQ.1.1.2.1, hQ.1.1.2.2.1⟩
    obtain ⟨m, rfl⟩ : ∃ m : Nat, n = (m : Int) := ⟨n.toNat, by omega⟩
    refine ⟨⟨by first | omega | (simp <;> omega), by first | omega | (simp <;> omega)⟩, ?_⟩   -- 21 := lda [['.t', 5], 0, 8]
    refine ⟨⟨by first | omega | (simp <;> omega), by first | omega | (simp <;> omega)⟩, ?_⟩   -- 22 := lda [['.t', 6], 0, 8]
    refine ⟨5, [], _, _, _, _, [_, _, _, _, _], rfl, s_l07Adjoint_ok B E.2.2 (by omega) (by omega) (by omega), rfl, trivial, rfl, rfl, ?_⟩   -- 24
    refine ⟨⟨rfl, by first | omega | (simp <;> omega), by first | omega | (simp <;> omega)⟩, ?_⟩   -- sta ['.t', 8] ['.t', 24] 8
    refine ⟨rfl, ⟨by first | omega | (simp <;> omega), by first | omega | (simp <;> omega)⟩, [], ?_, rfl, trivial, rfl, rfl⟩
    rw [ob_t hQ, oc_t hQ, sh_zero, sh_zero a, sh_zero b, z_spl _ _ fun _ h => vec_out h]; rfl

theorem l_FnExactAdjointAction_ok (B : Bs P ρ) (E : E_l_FnExactAdjointAction P ρ) {p n : Int} {f a b : By} {r : Bool} :
    CallOK P ρ 20 [.ag [p, n] 1106 f, .ag [] 8 a, .ag [] 8 b, .b r] [] (.one (.b true)) [] := by
  refine call_of_vc B.fn B.mo E.1 rfl rfl ?_
  refine ⟨0, rfl, ?_⟩   -- .box 4
  refine ⟨1, rfl, ?_⟩   -- .box 5
  refine ⟨2, rfl, ?_⟩   -- .box 6
  refine ⟨3, [], _, _, _, _, [_, _, _], rfl, l_toHopf_ok B E.2.1 , rfl, trivial, rfl, rfl, rfl, ?_⟩   -- 15
  refine ⟨⟨by first | omega | (simp <;> omega), by first | omega | (simp <;> omega)⟩, ?_⟩   -- 16 := lda [['.t', 5], 0, 8]
  refine ⟨3, [], _, _, _, _, [_, _, _], rfl, l_toVector_ok B E.2.2.1 , rfl, trivial, rfl, rfl, rfl, ?_⟩   -- 17
  refine ⟨⟨by first | omega | (simp <;> omega), by first | omega | (simp <;> omega)⟩, ?_⟩   -- 18 := lda [['.t', 6], 0, 8]
  refine ⟨3, [], _, _, _, _, [_, _, _], rfl, l_toVector_ok B E.2.2.1 , rfl, trivial, rfl, rfl, rfl, ?_⟩   -- 19
  refine ⟨3, [], _, _, _, _, [_, _, _], rfl, s_AdjointAction_ok B E.2.2.2.1 , rfl, trivial, rfl, rfl, rfl, ?_⟩   -- 21
  refine ⟨3, rfl, rfl, ?_⟩   -- .new 9
  refine ⟨4, [], _, _, _, _, [_, _, _, _], rfl, l_toHopf_ok B E.2.1 , rfl, trivial, rfl, rfl, rfl, ?_⟩   -- 26
  refine ⟨⟨by first | omega | (simp <;> omega), by first | omega | (simp <;> omega)⟩, ?_⟩   -- 27 := lda [['.t', 5], 0, 8]
  refine ⟨4, [], _, _, _, _, [_, _, _, _], rfl, l_toVector_ok B E.2.2.1 , rfl, trivial, rfl, rfl, rfl, ?_⟩   -- 28
  refine ⟨⟨by first | omega | (simp <;> omega), by first | omega | (simp <;> omega)⟩, ?_⟩   -- 29 := lda [['.t', 6], 0, 8]
  refine ⟨4, [], _, _, _, _, [_, _, _, _], rfl, l_toVector_ok B E.2.2.1 , rfl, trivial, rfl, rfl, rfl, ?_⟩   -- 30
  refine ⟨4, [], _, _, _, _, [_, _, _, _], rfl, i_AdjointAction_ok B E.2.2.2.2.1 , rfl, trivial, rfl, rfl, rfl, ?_⟩   -- 32
  refine ⟨4, rfl, rfl, ?_⟩   -- .new 11
  refine ⟨⟨by first | omega | (simp <;> omega), by first | omega | (simp <;> omega)⟩, ?_⟩   -- 35 := lda [['.t', 11], 0, 8]
  refine ⟨⟨by first | omega | (simp <;> omega), by first | omega | (simp <;> omega)⟩, ?_⟩   -- 36 := lda [['.t', 9], 0, 8]
  refine ⟨5, [], _, _, _, _, [_, _, _, _, _], rfl, l_eqVector_ok B E.2.2.2.2.2 , rfl, trivial, rfl, rfl, ?_⟩   -- 37
  refine ⟨fun h39 => ?_, fun h39 => ?_⟩
  · skip
    exact absurd h39 (by decide)
  · skip
    refine brB_f ?_
    refine brB_f ?_
    refine brB_f ?_
    refine ⟨fun h43 => ?_, fun h43 => ?_⟩
    · replace h43 := bne_t h43
      exact (h43 rfl).elim
    · replace h43 := bne_f h43
      exact ⟨rfl, [], rfl, rfl, trivial, rfl, rfl⟩

end Hf
