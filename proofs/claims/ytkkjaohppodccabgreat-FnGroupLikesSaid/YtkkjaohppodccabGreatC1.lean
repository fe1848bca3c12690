/- Contracts of the functions that the law reaches. -/
import Derived.Test.YtkkjaohppodccabGreatP2
set_option linter.unusedVariables false
set_option linter.unusedSimpArgs false
namespace Hf
open Go
/-- a byte as a number -/
def bz (f : By) (k : Nat) : Int := ((f k).toNat : Int)
theorem bz_nn (f : By) (k : Nat) : 0 ≤ bz f k := by unfold bz; omega
theorem bz_le (f : By) (k : Nat) : bz f k ≤ 255 := by unfold bz; have := toNat_le (f k); omega
theorem bz_byt (n : Int) (h0 : 0 ≤ n) (h1 : n ≤ 255) : ((byt n).toNat : Int) = n := by rw [byt_toNat]; omega
theorem byt_bz (f : By) (k : Nat) : byt (bz f k) = f k := by
 have h := byt_toNat (bz f k)
 have h1 := bz_nn f k
 have h2 := bz_le f k
 apply UInt8.toNat_inj.1
 unfold bz at *
 omega
theorem u_eq0 {x : UInt8} : x = 0 ↔ (x.toNat : Int) = 0 := by
 constructor
 ·rintro rfl; rfl
 ·intro h; apply UInt8.toNat_inj.1; show x.toNat = 0; omega

/-- a sum of n numbers -/
def sm : Nat → (Nat → Int) → Int
  | 0, _ => 0
  | n + 1, x => sm n x + x n
theorem sm_congr {x y : Nat → Int} : ∀ {n : Nat}, (∀ i, i < n → x i = y i) → sm n x = sm n y
  | 0, _ => rfl
  | n + 1, h => by simp only [sm]; rw [sm_congr fun i hi => h i (by omega), h n (by omega)]
theorem sm_zero : ∀ {n : Nat} {x : Nat → Int}, (∀ i, i < n → x i = 0) → sm n x = 0
  | 0, _, _ => rfl
  | n + 1, x, h => by simp only [sm]; rw [sm_zero fun i hi => h i (by omega), h n (by omega)]; rfl
theorem sm_ext {x : Nat → Int} {n m : Nat} (h : n ≤ m) (h0 : ∀ i, n ≤ i → i < m → x i = 0) : sm m x = sm n x := by
  induction m with
  | zero => have : n = 0 := by omega
            subst this; rfl
  | succ m ih =>
    by_cases e : n = m + 1
    · rw [e]
    · simp only [sm]
      rw [ih (by omega) fun i h1 h2 => h0 i h1 (by omega), h0 m (by omega) (by omega)]; omega
theorem sm_mul (c : Int) {x : Nat → Int} : ∀ {n : Nat}, sm n (fun i => c * x i) = c * sm n x
  | 0 => by simp [sm]
  | n + 1 => by simp only [sm]; rw [sm_mul c, Int.mul_add]
theorem sm_add {x y : Nat → Int} : ∀ {n : Nat}, sm n (fun i => x i + y i) = sm n x + sm n y
  | 0 => rfl
  | n + 1 => by simp only [sm]; rw [sm_add]; omega
/-- the same modulo p -/
def cg (p a b : Int) : Prop := a % p = b % p
theorem cg.rfl' {p a : Int} : cg p a a := rfl
theorem cg.symm {p a b : Int} (h : cg p a b) : cg p b a := Eq.symm h
theorem cg.trans {p a b c : Int} (h : cg p a b) (h' : cg p b c) : cg p a c := Eq.trans h h'
theorem cg_of_eq {p a b : Int} (h : a = b) : cg p a b := by rw [h]; rfl
theorem cg_add {p a b c d : Int} (h : cg p a b) (h' : cg p c d) : cg p (a + c) (b + d) := by
 unfold cg at *; rw [Int.add_emod, h, h', ← Int.add_emod]
theorem cg_mul {p a b c d : Int} (h : cg p a b) (h' : cg p c d) : cg p (a * c) (b * d) := by
 unfold cg at *; rw [Int.mul_emod, h, h', ← Int.mul_emod]
theorem cg_mod {p a : Int} : cg p (a % p) a := Int.emod_emod_of_dvd a (Int.dvd_refl p)
theorem cg_sm {p : Int} {x y : Nat → Int} : ∀ {n : Nat}, (∀ i, i < n → cg p (x i) (y i)) → cg p (sm n x) (sm n y)
  | 0, _ => rfl
  | n + 1, h => cg_add (cg_sm fun i hi => h i (by omega)) (h n (by omega))

/-- N bytes, each a number modulo p -/
def vec (N : Nat) (p : Int) (x : Nat → Int) : By := fun k => if k < N then byt (x k % p) else 0
theorem vec_congr {N : Nat} {p : Int} {x y : Nat → Int} (h : ∀ k, k < N → cg p (x k) (y k)) : vec N p x = vec N p y := by
 funext k
 simp only [vec]
 split
 ·rename_i hk; have := h k hk; unfold cg at this; rw [this]
 ·rfl
theorem bz_vec {N : Nat} {p : Int} {x : Nat → Int} {k : Nat} (hp : 1 ≤ p) (hp2 : p ≤ 256) (hk : k < N) : bz (vec N p x) k = x k % p := by
 unfold bz vec
 rw [if_pos hk, byt_toNat]
 have h1 := Int.emod_nonneg (x k) (show p ≠ 0 by omega)
 have h2 := Int.emod_lt_of_pos (x k) (show 0 < p by omega)
 omega
theorem cg_vec {N : Nat} {p : Int} {x : Nat → Int} {k : Nat} (hp : 1 ≤ p) (hp2 : p ≤ 256) (hk : k < N) : cg p (bz (vec N p x) k) (x k) := by
 rw [bz_vec hp hp2 hk]; exact cg_mod
theorem vec_zero {N : Nat} {p : Int} {x : Nat → Int} (h : ∀ k, k < N → x k = 0) : vec N p x = fun _ => 0 := by
 funext k
 simp only [vec]
 split
 ·rename_i hk; rw [h k hk]; simp; rfl
 ·rfl
end Hf
namespace Hf
open Go Classical
variable {P : Program} {ρ : Nat → FuncId}
structure Bs (P : Program) (ρ : Nat → FuncId) : Prop where
 fn : ∀ f, fnOk P (ρ f) = true
 mo : P.follows .mixedOrders = true
theorem bne_t {α : Type} [BEq α] [LawfulBEq α] {a b : α} (h : (a != b) = true) : a ≠ b := by simpa using h
theorem bne_f {α : Type} [BEq α] [LawfulBEq α] {a b : α} (h : (a != b) = false) : a = b := by simpa using h

theorem tmod_emod (x p : Int) (hp : 0 < p) : (if x.tmod p < 0 then x.tmod p + p else x.tmod p) = x % p := by
 rcases Int.le_total 0 x with h | h
 ·rw [Int.tmod_eq_emod_of_nonneg h, if_neg]
  have := Int.emod_nonneg x (show p ≠ 0 by omega)
  omega
 ·have h1 := Int.tmod_eq_emod (a := x) (b := p)
  have h2 := Int.emod_nonneg x (show p ≠ 0 by omega)
  have h3 := Int.emod_lt_of_pos x hp
  rw [h1]
  have e : (p.natAbs : Int) = p := by omega
  by_cases hc : 0 ≤ x ∨ p ∣ x
  ·rw [if_pos hc]; simp; omega
  ·rw [if_neg hc, e, if_pos (by omega)]; omega

theorem mul_bd {a b A B : Int} (h1 : -A ≤ a) (h2 : a ≤ A) (h3 : 0 ≤ b) (h4 : b ≤ B) : -(A * B) ≤ a * b ∧ a * b ≤ A * B := by
 have hA : 0 ≤ A := by omega
 constructor
 ·have e1 : -(A * B) = (-A) * B := by rw [Int.neg_mul]
  rw [e1]
  have q1 : (-A) * B ≤ (-A) * b := Int.mul_le_mul_of_nonpos_left (by omega) h4
  have q2 : (-A) * b ≤ a * b := Int.mul_le_mul_of_nonneg_right h1 h3
  omega
 ·have q1 : A * b ≤ A * B := Int.mul_le_mul_of_nonneg_left h4 hA
  have q2 : a * b ≤ A * b := Int.mul_le_mul_of_nonneg_right h2 h3
  omega

def plsN (p : Int) (f : By) (off : Nat) (k : Int) (w : By) (m : Nat) : By := fun x => if off ≤ x ∧ x < off + m then byt ((bz f x + k * bz w (x - off)) % p) else f x
theorem plsN_zero {p : Int} {f : By} {off : Nat} {k : Int} {w : By} : plsN p f off k w 0 = f := by
 funext x; simp only [plsN]; rw [if_neg (by omega)]
theorem plsN_succ {p : Int} {f : By} {off : Nat} {k : Int} {w : By} {m : Nat} : upd (plsN p f off k w m) (off + m) (byt ((bz f (off + m) + k * bz w m) % p)) = plsN p f off k w (m + 1) := by
 funext x
 simp only [plsN, upd]
 by_cases h : x = off + m
 ·subst h; rw [if_pos rfl, if_pos (by omega), show off + m - off = m by omega]
 ·rw [if_neg h]
  by_cases h2 : off ≤ x ∧ x < off + m
  ·rw [if_pos h2, if_pos (by omega)]
  ·rw [if_neg h2, if_neg (by omega)]
theorem plsN_at {p : Int} {f : By} {off : Nat} {k : Int} {w : By} {m : Nat} : plsN p f off k w m (off + m) = f (off + m) := by
 simp only [plsN]; rw [if_neg (by omega)]
theorem plsN_k0 {p : Int} {f : By} {off : Nat} {w : By} {m : Nat} (h : ∀ x, off ≤ x → x < off + m → bz f x < p) : plsN p f off 0 w m = f := by
 funext x; simp only [plsN]
 split
 ·rename_i hx
  have := h x hx.1 hx.2
  have h0 := bz_nn f x
  rw [Int.zero_mul, Int.add_zero, Int.emod_eq_of_lt h0 this, byt_bz]
 ·rfl


theorem i_field_mod_ok (B : Bs P ρ) (E : E_i_field_mod P ρ) {p n x : Int} {g : By} (hp : 1 ≤ p) (hp2 : p ≤ 1000) :
  CallOK P ρ 74 [.ag [p, n] 2 g, .i .i64 x] [] (.one (.u (byt (x % p)))) [] := by
 refine call_of_vc B.fn B.mo E rfl rfl ?_
 have hm := tmod_emod x p (by omega)
 have h2 := Int.emod_nonneg x (show p ≠ 0 by omega)
 have h3 := Int.emod_lt_of_pos x (show 0 < p by omega)
 refine ⟨0, rfl, ?_⟩
 refine ⟨by omega, _, rfl, ?_⟩
 refine ⟨fun h10 => ?_, fun h10 => ?_⟩
 ·replace h10 := of_decide_eq_true h10
  rw [if_pos h10] at hm
  refine ⟨_, w64_id _ (by first | omega | (simp <;> omega)) (by first | omega | (simp <;> omega)), ?_⟩
  refine ⟨rfl, [], ?_, rfl, trivial, rfl, rfl⟩
  show Sv.one (At.u (byt (x.tmod p + p))) = _
  rw [hm]
  rfl
 ·replace h10 := of_decide_eq_false h10
  rw [if_neg h10] at hm
  refine ⟨rfl, [], ?_, rfl, trivial, rfl, rfl⟩
  show Sv.one (At.u (byt (x.tmod p))) = _
  rw [hm]
  rfl

theorem i_field_plus_ok (B : Bs P ρ) (E : E_i_field_plus P ρ) {p n k : Int} {g0 w f : By} {hd : List Int} {N off : Nat} (hp : 1 ≤ p) (hp2 : p ≤ 1000) (ho : hd.length ≤ off) (hN : off + 8 ≤ N) (hk : -1000000000000 ≤ k) (hk2 : k ≤ 1000000000000) (hf : ∀ x, off ≤ x → x < off + 8 → bz f x < p) :
  CallOK P ρ 71 [.ag [p, n] 2 g0, .pt 0 off, .i .i64 k, .ag [] 8 w] [⟨false, .by hd N f⟩] (.tup []) [⟨false, .by hd N (plsN p f off k w 8)⟩] := by
 refine call_of_vc B.fn B.mo E.1 rfl rfl ?_
 refine ⟨1, rfl, ?_⟩
 refine ⟨2, rfl, ?_⟩
 refine ⟨fun h11 => ?_, fun h11 => ?_⟩
 ·replace h11 := eq_of_beq h11
  subst h11
  refine ⟨rfl, [], rfl, rfl, ⟨?_, trivial⟩, rfl, rfl⟩
  rw [plsN_k0 hf]; rfl
 ·replace h11 := ne_of_beq_false h11
  refine ⟨⟨by first | omega | (simp <;> omega), by first | omega | (simp <;> omega)⟩, ?_⟩
  refine .inl ⟨(fun a1 a2 a12 b1 b2 i0 => St.mk [(1, a1), (2, a2), (4, .one (.pt 1 0)), (12, a12), (13, .one (.i .i64 ((i0 : Nat) : Int)))] [Blk.mk false (.by hd N (plsN p f off k w i0)), b1, b2]) _ _ _ _ _ , fun i0 => True, 8, trivial, ⟨⟨rfl, rfl, rfl, rfl, rfl, trivial⟩, ⟨?_, rfl, rfl, trivial⟩, rfl⟩, fun i0 hi0 _ => ?_⟩
  ·rw [plsN_zero]
  refine ⟨fun h14 => ?_, fun h14 => ?_⟩
  ·replace h14 := of_decide_eq_true h14
   have b1 := mul_bd (A := 1000000000000) (B := 255) (a := k) (b := bz w i0) (by omega) (by omega) (bz_nn _ _) (bz_le _ _)
   have b2 := bz_nn f (off + i0)
   have b3 := bz_le f (off + i0)
   refine ⟨_, rfl, by first | omega | (simp <;> omega), by first | omega | (simp <;> omega), ?_⟩
   refine ⟨_, off + i0, rfl, by omega, by omega, ?_⟩
   refine ⟨⟨by first | omega | (simp <;> omega), by first | omega | (simp <;> omega)⟩, ?_⟩
   refine ⟨k * bz w i0, ?_, ?_⟩
   ·show w64 (k * bz (sh w 0) i0) = _
    have : bz (sh w 0) i0 = bz w i0 := by simp [bz]
    rw [this]
    exact w64_id _ (by omega) (by omega)
   refine ⟨bz f (off + i0) + k * bz w i0, ?_, ?_⟩
   ·show w64 (bz (plsN p f off k w i0) (off + i0) + _) = _
    have : bz (plsN p f off k w i0) (off + i0) = bz f (off + i0) := by simp only [bz, plsN_at]
    rw [this]
    exact w64_id _ (by omega) (by omega)
   refine ⟨3, [], _, _, _, _, [_, _, _], rfl, i_field_mod_ok B E.2 hp hp2, rfl, trivial, rfl, rfl, rfl, ?_⟩
   refine ⟨_, off + i0, rfl, by omega, by omega, ?_⟩
   refine ⟨⟨by first | omega | (simp <;> omega), by first | omega | (simp <;> omega)⟩, ?_⟩   -- st8 ['.t', 33] ['.t', 31]
   refine ⟨((i0 + 1 : Nat) : Int), w64_id _ (by omega) (by omega), ?_⟩
   refine ⟨by omega, trivial, ⟨rfl, rfl, rfl, rfl, rfl, trivial⟩, ⟨?_, rfl, rfl, trivial⟩, rfl⟩
   exact congrArg (fun g => (⟨false, .by hd N g⟩ : Blk)) plsN_succ.symm
  ·replace h14 := of_decide_eq_false h14
   have e0 : 8 = i0 := by omega
   subst e0
   exact ⟨rfl, [], rfl, rfl, ⟨rfl, trivial⟩, rfl, rfl⟩


end Hf
namespace Hf
open Go Classical
variable {P : Program} {ρ : Nat → FuncId}
theorem sh_zero (f : By) : sh f 0 = f := by funext x; simp [sh]
/-- what the copied result holds -/
theorem out_eq {n : Nat} {G R : By} (h : ∀ k, k < n → G k = R k) (h0 : ∀ k, n ≤ k → R k = 0) : sh (spl (fun _ => 0) 0 n (sh G 0)) 0 = R := by
 rw [sh_zero, sh_zero]
 funext x
 simp only [spl]
 by_cases hx : x < n
 ·rw [if_pos (by omega)]; exact h x hx
 ·rw [if_neg (by omega)]; exact (h0 x (by omega)).symm
theorem vec_out {N : Nat} {p : Int} {x : Nat → Int} {k : Nat} (h : N ≤ k) : vec N p x k = 0 := by
 simp only [vec]; rw [if_neg (by omega)]
theorem out_vec {n : Nat} {p : Int} {x : Nat → Int} : sh (spl (fun _ => 0) 0 n (sh (vec n p x) 0)) 0 = vec n p x :=
 out_eq (fun _ _ => rfl) fun _ h => vec_out h
theorem one_ag {n : Nat} {f g : By} (h : f = g) : Sv.one (.ag [] n f) = Sv.one (.ag [] n g) := by rw [h]
theorem blk_by {r : Bool} {hd : List Int} {n : Nat} {f g : By} (h : f = g) : Blk.mk r (.by hd n f) = Blk.mk r (.by hd n g) := by rw [h]
theorem one_i {a b : Int} (h : a = b) : Sv.one (.i .i64 a) = Sv.one (.i .i64 b) := by rw [h]
theorem one_b {a b : Bool} (h : a = b) : Sv.one (.b a) = Sv.one (.b b) := by rw [h]
theorem z_spl (n : Nat) (g : By) (h : ∀ k, n ≤ k → g k = 0) : spl (fun _ => 0) 0 n g = g := by
 funext x
 simp only [spl]
 by_cases hx : x < n
 ·rw [if_pos (by omega)]; rfl
 ·rw [if_neg (by omega), h x (by omega)]
theorem sm_bd {A : Int} {x : Nat → Int} : ∀ {n : Nat}, (∀ i, i < n → 0 ≤ x i ∧ x i ≤ A) → 0 ≤ sm n x ∧ sm n x ≤ n * A
  | 0, _ => by simp [sm]
  | n + 1, h => by
    have h1 := sm_bd (A := A) (x := x) (n := n) fun i hi => h i (by omega)
    have h2 := h n (by omega)
    simp only [sm]
    have e : ((n + 1 : Nat) : Int) * A = n * A + A := by rw [Int.natCast_add, Int.add_mul]; simp
    rw [e]
    omega
theorem dotb (v w : By) (j : Nat) : bz v j * bz w j ≤ 65025 := by
 have q := mul_bd (A := 255) (B := 255) (a := bz v j) (b := bz w j) (by have := bz_nn v j; omega) (bz_le _ _) (bz_nn _ _) (bz_le _ _)
 omega
/-- the basis element i -/
def bas (i : Nat) : By := fun x => if x = i then 1 else 0

theorem i_basis_ok (B : Bs P ρ) (E : E_i_basis P ρ) {i : Nat} (hi : i < 8) :
  CallOK P ρ 61 [.i .i64 (i : Int)] [] (.one (.ag [] 8 (bas i))) [] := by
 refine call_of_vc B.fn B.mo E rfl rfl ?_
 refine ⟨0, rfl, ?_⟩
 refine ⟨1, rfl, ?_⟩
 refine ⟨⟨rfl, by first | omega | (simp <;> omega), by first | omega | (simp <;> omega)⟩, ?_⟩   -- sta ['.t', 3] ['.t', 4] 8
 refine ⟨i, i, rfl, by omega, by omega, ?_⟩
 refine ⟨⟨by first | omega | (simp <;> omega), by first | omega | (simp <;> omega)⟩, ?_⟩   -- st8 ['.t', 6] ['.c', ['.u', 1]]
 refine ⟨⟨by first | omega | (simp <;> omega), by first | omega | (simp <;> omega)⟩, ?_⟩
 refine ⟨⟨rfl, by first | omega | (simp <;> omega), by first | omega | (simp <;> omega)⟩, ?_⟩   -- sta ['.t', 2] ['.t', 7] 8
 refine ⟨rfl, ⟨by first | omega | (simp <;> omega), by first | omega | (simp <;> omega)⟩, [], ?_, rfl, trivial, rfl, rfl⟩
 refine one_ag (out_eq (fun k hk => ?_) fun k hk => ?_)
 ·simp only [upd, spl, bas, Nat.zero_add, Nat.mul_one]
  by_cases e : k = i <;> simp [e]
 ·simp only [bas]; rw [if_neg (by omega)]

theorem i_Coalgebra_field_ok (B : Bs P ρ) (E : E_i_Coalgebra_field P ρ) {p n : Int} {f : By} :
  CallOK P ρ 117 [.pt 0 0] [⟨true, .by [p, n] 522 f⟩] (.one (.ag [p, n] 2 (fun _ => 0))) [⟨true, .by [p, n] 522 f⟩] := by
 refine call_of_vc B.fn B.mo E rfl rfl ?_
 refine ⟨1, rfl, ?_⟩
 exact ⟨rfl, ⟨by first | omega | (simp <;> omega), by first | omega | (simp <;> omega)⟩, [], rfl, rfl, ⟨rfl, trivial⟩, rfl, rfl⟩

theorem i_field_dot_ok (B : Bs P ρ) (E : E_i_field_dot P ρ) {p n : Int} {g v w : By} (hp : 1 ≤ p) (hp2 : p ≤ 1000) :
  CallOK P ρ 118 [.ag [p, n] 2 g, .ag [] 8 v, .ag [] 8 w] [] (.one (.i .i64 (sm 8 (fun j => bz v j * bz w j) % p))) [] := by
 refine call_of_vc B.fn B.mo E rfl rfl ?_
 refine ⟨0, rfl, ?_⟩
 refine ⟨1, rfl, ?_⟩
 refine ⟨2, rfl, ?_⟩
 refine ⟨⟨by first | omega | (simp <;> omega), by first | omega | (simp <;> omega)⟩, ?_⟩
 refine .inl ⟨(fun a10 b0 b1 b2 i0 => St.mk [(3, .one (.pt 0 0)), (5, .one (.pt 2 0)), (7, .one (.i .i64 (sm i0 fun j => bz v j * bz w j))), (10, a10), (11, .one (.i .i64 ((i0 : Nat) : Int)))] [b0, b1, b2]) _ _ _ _ , fun i0 => True, 8, trivial, ⟨⟨rfl, rfl, rfl, rfl, rfl, trivial⟩, ⟨rfl, rfl, rfl, trivial⟩, rfl⟩, fun i0 hi0 _ => ?_⟩
 have q := mul_bd (A := 255) (B := 255) (a := bz v i0) (b := bz w i0) (by have := bz_nn v i0; omega) (bz_le _ _) (bz_nn _ _) (bz_le _ _)
 have q2 : 0 ≤ bz v i0 * bz w i0 := Int.mul_nonneg (bz_nn _ _) (bz_nn _ _)
 have q3 := sm_bd (n := i0) (x := fun j => bz v j * bz w j) (A := 65025) fun j _ => ⟨Int.mul_nonneg (bz_nn _ _) (bz_nn _ _), dotb v w j⟩
 refine ⟨fun h12 => ?_, fun h12 => ?_⟩
 ·replace h12 := of_decide_eq_true h12
  refine ⟨_, rfl, by first | omega | (simp <;> omega), by first | omega | (simp <;> omega), ?_⟩
  refine ⟨i0, i0, rfl, by omega, by omega, ?_⟩
  refine ⟨⟨by first | omega | (simp <;> omega), by first | omega | (simp <;> omega)⟩, ?_⟩
  refine ⟨bz v i0 * bz w i0, ?_, ?_⟩
  ·show w64 (bz (sh v 0) i0 * bz w i0) = _
   rw [sh_zero]
   exact w64_id _ (by omega) (by omega)
  refine ⟨sm (i0 + 1) (fun j => bz v j * bz w j), w64_id _ (by omega) (by omega), ?_⟩
  refine ⟨((i0 + 1 : Nat) : Int), w64_id _ (by omega) (by omega), ?_⟩
  exact ⟨by omega, trivial, ⟨rfl, rfl, rfl, rfl, rfl, trivial⟩, ⟨rfl, rfl, rfl, trivial⟩, rfl⟩
 ·replace h12 := of_decide_eq_false h12
  have e0 : 8 = i0 := by omega
  subst e0
  refine ⟨by first | omega | (simp <;> omega), _, rfl, ?_⟩
  refine ⟨rfl, [], ?_, rfl, trivial, rfl, rfl⟩
  have q3 := sm_bd (n := 8) (x := fun j => bz v j * bz w j) (A := 65025) fun j _ => ⟨Int.mul_nonneg (bz_nn _ _) (bz_nn _ _), dotb v w j⟩
  exact one_i (Int.tmod_eq_emod_of_nonneg q3.1)


end Hf
namespace Hf
open Go Classical
variable {P : Program} {ρ : Nat → FuncId}
theorem vec_0 {N : Nat} {p : Int} : (fun _ => 0 : By) = vec N p (fun _ => 0) := (vec_zero fun _ _ => rfl).symm
theorem bz_vec_lt {N : Nat} {p : Int} {x : Nat → Int} {k : Nat} (hp : 1 ≤ p) (hp2 : p ≤ 256) : bz (vec N p x) k < p := by
 by_cases hk : k < N
 ·rw [bz_vec hp hp2 hk]; exact Int.emod_lt_of_pos _ (by omega)
 ·unfold bz; rw [vec_out (by omega)]; show (0 : Int) < p; omega
/-- one more summand -/
theorem pl_vec {N : Nat} {p : Int} {x : Nat → Int} {off : Nat} {k : Int} {w : By} (hp : 1 ≤ p) (hp2 : p ≤ 256) (h : off + 8 ≤ N) :
  plsN p (vec N p x) off k w 8 = vec N p (fun y => x y + if off ≤ y ∧ y < off + 8 then k * bz w (y - off) else 0) := by
 funext y
 simp only [plsN]
 by_cases hy : off ≤ y ∧ y < off + 8
 ·rw [if_pos hy, bz_vec hp hp2 (by omega)]
  simp only [vec]
  rw [if_pos (by omega), if_pos hy]
  congr 1
  exact cg_add cg_mod rfl
 ·rw [if_neg hy]
  simp only [vec]
  by_cases hN : y < N
  ·rw [if_pos hN, if_pos hN, if_neg hy, Int.add_zero]
  ·rw [if_neg hN, if_neg hN]
theorem pl_vec0 {p : Int} {x : Nat → Int} {k : Int} {w : By} (hp : 1 ≤ p) (hp2 : p ≤ 256) :
  plsN p (vec 8 p x) 0 k w 8 = vec 8 p (fun y => x y + k * bz w y) := by
 rw [pl_vec hp hp2 (by omega)]
 apply vec_congr
 intro y hy
 rw [if_pos (by omega), Nat.sub_zero]; rfl
theorem pl_0 {p : Int} {k : Int} {w : By} (hp : 1 ≤ p) (hp2 : p ≤ 256) :
  plsN p (fun _ => 0) 0 k w 8 = vec 8 p (fun y => k * bz w y) := by
 rw [vec_0 (N := 8) (p := p), pl_vec0 hp hp2]
 exact vec_congr fun y _ => by rw [Int.zero_add]; rfl
theorem spl_vec {p : Int} {X y : Nat → Int} {a m : Nat} {g : By} (h : ∀ k, k < m → g k = vec m p y k) (hy : ∀ k, k < m → cg p (y k) (X (a + k))) : spl (vec a p X) a m g = vec (a + m) p X := by
 funext x
 simp only [spl]
 by_cases hx : a ≤ x ∧ x < a + m
 ·rw [if_pos hx, h _ (by omega)]
  simp only [vec]
  rw [if_pos (by omega), if_pos (by omega)]
  have := hy (x - a) (by omega)
  rw [show a + (x - a) = x by omega] at this
  unfold cg at this
  rw [this]
 ·rw [if_neg hx]
  simp only [vec]
  by_cases h2 : x < a
  ·rw [if_pos h2, if_pos (by omega)]
  ·rw [if_neg h2, if_neg (by omega)]
theorem bz_sh (f : By) (o k : Nat) : bz (sh f o) k = bz f (o + k) := rfl
/-- a product of bytes -/
theorem bz2 (v w : By) (i j : Nat) : 0 ≤ bz v i * bz w j ∧ bz v i * bz w j ≤ 65025 := by
 refine ⟨Int.mul_nonneg (bz_nn _ _) (bz_nn _ _), ?_⟩
 have q := mul_bd (A := 255) (B := 255) (a := bz v i) (b := bz w j) (by have := bz_nn v i; omega) (bz_le _ _) (bz_nn _ _) (bz_le _ _)
 omega
/-- the product of two vectors: the table stands at o -/
def prd (n : Nat) (f : By) (o : Nat) (v w : By) (k : Nat) : Int := sm n fun i => sm n fun j => bz v i * bz w j * bz f (o + i * 64 + j * 8 + k)
theorem i_field_times_ok (B : Bs P ρ) (E : E_i_field_times P ρ) {p n k : Int} {g w : By} (hp : 1 ≤ p) (hp2 : p ≤ 256) (hk : -1000000000000 ≤ k) (hk2 : k ≤ 1000000000000) :
  CallOK P ρ 114 [.ag [p, n] 2 g, .i .i64 k, .ag [] 8 w] [] (.one (.ag [] 8 (vec 8 p fun y => k * bz w y))) [] := by
 refine call_of_vc B.fn B.mo E.1 rfl rfl ?_
 refine ⟨0, rfl, ?_⟩
 refine ⟨1, rfl, ?_⟩
 refine ⟨2, rfl, ?_⟩
 refine ⟨3, rfl, ?_⟩
 refine ⟨⟨rfl, by first | omega | (simp <;> omega), by first | omega | (simp <;> omega)⟩, ?_⟩   -- sta ['.t', 7] ['.t', 8] 8
 refine ⟨⟨by first | omega | (simp <;> omega), by first | omega | (simp <;> omega)⟩, ?_⟩
 refine .inl ⟨4, [3], _, _, _, _, [_, _, _, _], rfl, i_field_plus_ok B E.2 hp (by omega) (by simp) (by omega) hk hk2 (fun _ _ _ => by simp [bz, z_spl]; omega), rfl, ⟨⟨_, rfl, fun h => by first | rfl | cases h⟩, trivial⟩, rfl, rfl, ?_⟩
 refine ⟨⟨by first | omega | (simp <;> omega), by first | omega | (simp <;> omega)⟩, ?_⟩
 refine ⟨⟨rfl, by first | omega | (simp <;> omega), by first | omega | (simp <;> omega)⟩, ?_⟩   -- sta ['.t', 6] ['.t', 13] 8
 refine ⟨rfl, ⟨by first | omega | (simp <;> omega), by first | omega | (simp <;> omega)⟩, [], ?_, rfl, trivial, rfl, rfl⟩
 refine one_ag ?_
 rw [z_spl _ _ (fun _ _ => rfl), pl_0 hp hp2, sh_zero w]
 exact out_vec

theorem i_field_pair_ok (B : Bs P ρ) (E : E_i_field_pair P ρ) {p n : Int} {g v w : By} (hp : 1 ≤ p) (hp2 : p ≤ 256) :
  CallOK P ρ 110 [.ag [p, n] 2 g, .ag [] 8 v, .ag [] 8 w] [] (.one (.ag [] 64 (vec 64 p fun y => bz v (y / 8) * bz w (y % 8)))) [] := by
 refine call_of_vc B.fn B.mo E.1 rfl rfl ?_
 refine ⟨0, rfl, ?_⟩
 refine ⟨1, rfl, ?_⟩
 refine ⟨2, rfl, ?_⟩
 refine ⟨3, rfl, ?_⟩
 refine ⟨4, rfl, ?_⟩
 refine ⟨⟨rfl, by first | omega | (simp <;> omega), by first | omega | (simp <;> omega)⟩, ?_⟩   -- sta ['.t', 7] ['.t', 10] 64
 refine ⟨⟨by first | omega | (simp <;> omega), by first | omega | (simp <;> omega)⟩, ?_⟩
 refine .inl ⟨(fun a11 b0 b1 b2 b3 i0 => St.mk [(3, .one (.pt 0 0)), (5, .one (.pt 2 0)), (6, .one (.pt 3 0)), (7, .one (.pt 4 0)), (11, a11), (12, .one (.i .i64 ((i0 : Nat) : Int)))] [b0, b1, b2, b3, Blk.mk false (.by [] 64 (vec (i0 * 8) p fun y => bz v (y / 8) * bz w (y % 8)))]) _ _ _ _ _ , fun i0 => True, 8, trivial, ⟨⟨rfl, rfl, rfl, rfl, rfl, rfl, trivial⟩, ⟨rfl, rfl, rfl, rfl, ?_, trivial⟩, rfl⟩, fun i0 hi0 _ => ?_⟩
 ·refine blk_by ?_
  rw [z_spl _ _ (fun _ _ => rfl)]
  rfl
 have q0 := bz_nn (sh v 0) i0
 have q1 := bz_le (sh v 0) i0
 refine ⟨fun h13 => ?_, fun h13 => ?_⟩
 ·replace h13 := of_decide_eq_true h13
  refine ⟨_, rfl, by first | omega | (simp <;> omega), by first | omega | (simp <;> omega), ?_⟩
  refine ⟨⟨by first | omega | (simp <;> omega), by first | omega | (simp <;> omega)⟩, ?_⟩
  refine .inl ⟨5, [], _, _, _, _, [_, _, _, _, _], rfl, i_field_times_ok B E.2 (k := bz (sh v 0) i0) hp hp2 (by omega) (by omega), rfl, trivial, rfl, rfl, ?_⟩
  refine ⟨i0, i0 * 8, rfl, by omega, by omega, ?_⟩
  refine ⟨⟨rfl, by first | omega | (simp <;> omega), by first | omega | (simp <;> omega)⟩, ?_⟩   -- sta ['.t', 22] ['.t', 21] 8
  refine ⟨((i0 + 1 : Nat) : Int), w64_id _ (by omega) (by omega), ?_⟩
  refine ⟨by omega, trivial, ⟨rfl, rfl, rfl, rfl, rfl, rfl, trivial⟩, ⟨rfl, rfl, rfl, rfl, ?_, trivial⟩, rfl⟩
  refine blk_by ?_
  rw [show (i0 + 1) * 8 = i0 * 8 + 8 by omega]
  refine (spl_vec (y := fun y => bz v i0 * bz w y) (fun k hk => ?_) fun k hk => ?_).symm
  ·simp only [sh_zero]
  ·rw [show (i0 * 8 + k) / 8 = i0 by omega, show (i0 * 8 + k) % 8 = k by omega]; rfl
 ·replace h13 := of_decide_eq_false h13
  have e0 : 8 = i0 := by omega
  subst e0
  refine ⟨⟨by first | omega | (simp <;> omega), by first | omega | (simp <;> omega)⟩, ?_⟩
  refine ⟨⟨rfl, by first | omega | (simp <;> omega), by first | omega | (simp <;> omega)⟩, ?_⟩   -- sta ['.t', 6] ['.t', 24] 64
  refine ⟨rfl, ⟨by first | omega | (simp <;> omega), by first | omega | (simp <;> omega)⟩, [], ?_, rfl, trivial, rfl, rfl⟩
  exact one_ag out_vec


end Hf
namespace Hf
open Go Classical
variable {P : Program} {ρ : Nat → FuncId}
theorem z_sta {n : Nat} : spl (fun _ => 0) 0 n (fun _ => 0) = (fun _ => 0 : By) := z_spl _ _ fun _ _ => rfl
theorem bz_vec_lt' {N : Nat} {p : Int} {x : Nat → Int} (hp : 1 ≤ p) (hp2 : p ≤ 256) : ∀ k, 0 ≤ k → k < 0 + 8 → bz (vec N p x) k < p := fun _ _ _ => bz_vec_lt hp hp2

-- left out: i_field_apply (not among the functions at hand)
end Hf
namespace Hf
open Go
def eqA : At → At → Prop
  | .ag hd n f, b => ∃ g, b = .ag hd n g ∧ ∀ x, hd.length ≤ x → x < n → f x = g x
  | a, b => a = b
def eqL : List At → List At → Prop
  | [], [] => True
  | a :: l, b :: m => eqA a b ∧ eqL l m
  | _, _ => False
def eqS : Sv → Sv → Prop
  | .one a, .one b => eqA a b
  | .tup l, .tup m => eqL l m
  | .rc l, .rc m => eqL l m
  | _, _ => False
def eqK : Bk → Bk → Prop
  | .by hd n f, b => ∃ g, b = .by hd n g ∧ ∀ x, hd.length ≤ x → x < n → f x = g x
  | a, b => a = b
def eqH : List Blk → List Blk → Prop
  | [], [] => True
  | a :: l, b :: m => (a.ro = b.ro ∧ eqK a.c b.c) ∧ eqH l m
  | _, _ => False
section
variable {P : Program} {ρ : Nat → FuncId} {σ : Nat → Nat}
theorem cells_eq {hd : List Int} {n : Nat} {f g : By} (h : ∀ x, hd.length ≤ x → x < n → f x = g x) : cellsOf hd n f = cellsOf hd n g := by
 unfold cellsOf
 congr 1
 apply List.map_congr_left
 intro x hx
 rw [List.mem_range] at hx
 by_cases hl : hd.length ≤ x
 ·rw [cel_by hl, cel_by hl, h x hl hx]
 ·have e : hd[x]? = some (hd[x]'(by omega)) := by simp [show x < hd.length by omega]
  rw [cel_hd e, cel_hd e]
theorem ren_eq : ∀ {a b : At}, eqA a b → ren ρ σ a = ren ρ σ b
  | .ag hd n f, b, ⟨g, e, h⟩ => by subst e; simp only [ren]; rw [cells_eq h]
  | .i _ _, _, h | .u _, _, h | .b _, _, h | .pt _ _, _, h | .np, _, h | .sl _ _ _ _, _, h | .sn, _, h | .fn _ _ _, _, h | .ac _, _, h => by cases h; rfl
theorem lt_eq {m : Nat} : ∀ {a b : At}, eqA a b → a.lt m = b.lt m
  | .ag hd n f, b, ⟨g, e, h⟩ => by subst e; rfl
  | .i _ _, _, h | .u _, _, h | .b _, _, h | .pt _ _, _, h | .np, _, h | .sl _ _ _ _, _, h | .sn, _, h | .fn _ _ _, _, h | .ac _, _, h => by cases h; rfl
theorem renL_eq : ∀ {l m : List At}, eqL l m → l.map (ren ρ σ) = m.map (ren ρ σ)
  | [], [], _ => rfl
  | a :: l, b :: m, h => by simp only [List.map_cons]; rw [ren_eq h.1, renL_eq h.2]
theorem ltL_eq {k : Nat} : ∀ {l m : List At}, eqL l m → l.all (·.lt k) = m.all (·.lt k)
  | [], [], _ => rfl
  | a :: l, b :: m, h => by simp only [List.all_cons]; rw [lt_eq h.1, ltL_eq h.2]
theorem renS_eq : ∀ {a b : Sv}, eqS a b → renS ρ σ a = renS ρ σ b
  | .one a, .one b, h => ren_eq h
  | .tup l, .tup m, h => by simp only [renS]; rw [renL_eq h]
  | .rc l, .rc m, h => by simp only [renS]; rw [renL_eq h]
theorem ltS_eq {k : Nat} : ∀ {a b : Sv}, eqS a b → a.lt k = b.lt k
  | .one a, .one b, h => lt_eq h
  | .tup l, .tup m, h => ltL_eq h
  | .rc l, .rc m, h => ltL_eq h
theorem cellsB_eq : ∀ {a b : Bk}, eqK a b → cellsB ρ σ a = cellsB ρ σ b
  | .by hd n f, b, ⟨g, e, h⟩ => by subst e; exact cells_eq h
  | .vr _, _, h | .rw _, _, h | .gs _ _, _, h | .fo _ _, _, h => by cases h; rfl
theorem frz_eq : ∀ {a b : Bk}, eqK a b → frz a = frz b
  | .by hd n f, b, ⟨g, e, h⟩ => by subst e; rfl
  | .vr _, _, h | .rw _, _, h | .gs _ _, _, h | .fo _ _, _, h => by cases h; rfl
theorem ltK_eq {m : Nat} : ∀ {a b : Bk}, eqK a b → a.lt m = b.lt m
  | .by hd n f, b, ⟨g, e, h⟩ => by subst e; rfl
  | .vr _, _, h | .rw _, _, h | .gs _ _, _, h | .fo _ _, _, h => by cases h; rfl
theorem eqH_len : ∀ {H G : List Blk}, eqH H G → H.length = G.length
  | [], [], _ => rfl
  | _ :: _, _ :: _, h => by simp [eqH_len h.2]
theorem eqH_get : ∀ {H G : List Blk} {k : Nat} {B : Blk}, eqH H G → G[k]? = some B → ∃ A, H[k]? = some A ∧ A.ro = B.ro ∧ eqK A.c B.c
  | a :: l, b :: m, 0, B, h, e => by
    simp at e; subst e
    exact ⟨a, rfl, h.1⟩
  | a :: l, b :: m, k + 1, B, h, e => by
    rw [List.getElem?_cons_succ] at e ⊢
    exact eqH_get h.2 e
  | [], [], _, _, _, e => by simp at e
theorem CallOK.conv {f : Nat} {as as2 : List At} {H H' H2 : List Blk} {v v2 : Sv} (h : CallOK P ρ f as H v H') (ha : eqL as as2) (hv : eqS v v2) (hH : eqH H' H2) : CallOK P ρ f as2 H v2 H2 := by
 intro σ w hh
 have := h σ w hh
 rw [renL_eq ha] at this
 refine this.mono ?_
 rintro e w' ⟨σ', rfl, hs, hl⟩
 refine ⟨σ', by rw [renS_eq hv], ⟨⟨?_, ?_, ?_⟩, hs.k, by rw [← eqH_len hH]; exact hs.len, hs.same, ?_, ?_⟩, by rw [← eqH_len hH, ← ltS_eq hv]; exact hl⟩
 ·intro k B hB
  obtain ⟨A, h1, h2, h3⟩ := eqH_get hH hB
  obtain ⟨T, e⟩ := hs.h.at_ k A h1
  exact ⟨T, by rw [e, cellsB_eq h3, frz_eq h3]⟩
 ·intro j k B hjk hk hB hro
  obtain ⟨A, h1, h2, h3⟩ := eqH_get hH hB
  exact hs.h.sep j k A hjk (by rw [eqH_len hH]; exact hk) h1 (by rw [h2]; exact hro)
 ·intro k B hB
  obtain ⟨A, h1, h2, h3⟩ := eqH_get hH hB
  rw [← ltK_eq h3, ← eqH_len hH]
  exact hs.h.clo k A h1
 ·intro k B B' e e'
  obtain ⟨A, h1, h2, h3⟩ := eqH_get hH e'
  rw [← h2]; exact hs.rof k B A e h1
 ·intro k h1 h2
  exact hs.fresh k h1 (by rw [eqH_len hH]; exact h2)
end
end Hf
namespace Hf
open Go Classical
variable {P : Program} {ρ : Nat → FuncId}
/-- a prime up to 31 -/
def Pr (p : Int) : Prop := 2 ≤ p ∧ p ≤ 31 ∧ ∀ k : Int, 2 ≤ k → k < p → p % k ≠ 0
def Shp (p n : Int) : Prop := Pr p ∧ 1 ≤ n ∧ n ≤ 8
/-- a vector of n numbers below p, at o -/
def Vec (p n : Int) (f : By) (o : Nat) : Prop := ∀ k : Nat, k < 8 → bz f (o + k) < p ∧ (n ≤ k → bz f (o + k) = 0)
def Lin (p n size : Int) (f : By) (o : Nat) : Prop := ∀ i : Nat, i < 8 → Vec p size f (o + i * 8) ∧ (n ≤ i → ∀ k : Nat, k < 8 → bz f (o + i * 8 + k) = 0)
def Tab (p n : Int) (f : By) (o : Nat) : Prop := ∀ i : Nat, i < 8 → Lin p n n f (o + i * 64) ∧ (n ≤ i → ∀ k : Nat, k < 64 → bz f (o + i * 64 + k) = 0)
theorem dec_f {q : Prop} [Decidable q] (h : ¬ q) : false = decide q := (decide_eq_false h).symm
theorem dec_t {q : Prop} [Decidable q] (h : q) : true = decide q := (decide_eq_true h).symm
theorem bz_eq0 {f : By} {k : Nat} : bz f k = 0 ↔ f k = 0 := u_eq0.symm
theorem small_pr {p i : Int} (h1 : 2 ≤ p) (h2 : p ≤ 31) (hi : 2 ≤ i) (hi2 : i ≤ 7) (hsq : p < i * i) (h : ∀ k : Int, 2 ≤ k → k < i → p % k ≠ 0) : ∀ k : Int, 2 ≤ k → k < p → p % k ≠ 0 := by
 intro k hk hkp e
 -- p = k * q
 obtain ⟨q, hq⟩ := Int.dvd_of_emod_eq_zero e
 by_cases hki : k < i
 ·exact h k hk hki e
 ·have hq1 : 2 ≤ q := by
   rcases Int.lt_or_le q 2 with hq2 | hq2
   ·have : q ≤ 1 := by omega
    have h3 : k * q ≤ k * 1 := Int.mul_le_mul_of_nonneg_left this (by omega)
    omega
   ·exact hq2
  have hqi : q < i := by
   rcases Int.lt_or_le q i with h3 | h3
   ·exact h3
   ·have h4 : i * i ≤ k * q := Int.mul_le_mul (by omega) h3 (by omega) (by omega)
    omega
  have : p % q = 0 := by rw [hq]; exact Int.mul_emod_left _ _
  exact h q hq1 hqi this

theorem i_IsPrime_ok (B : Bs P ρ) (E : E_i_IsPrime P ρ) {p : Int} :
  CallOK P ρ 93 [.i .i64 p] [] (.one (.b (decide (Pr p)))) [] := by
 refine call_of_vc B.fn B.mo E rfl rfl ?_
 refine ⟨fun h6 => ?_, fun h6 => ?_⟩
 ·replace h6 := of_decide_eq_true h6
  iterate 3 refine brB_t ?_
  refine ⟨rfl, [], ?_, rfl, trivial, rfl, rfl⟩
  exact one_b (dec_f fun h => by have := h.1; omega)
 ·replace h6 := of_decide_eq_false h6
  iterate 2 refine brB_f ?_
  refine ⟨fun h9 => ?_, fun h9 => ?_⟩
  ·replace h9 := of_decide_eq_true h9
   refine ⟨rfl, [], ?_, rfl, trivial, rfl, rfl⟩
   exact one_b (dec_f fun h => by have := h.2.1; omega)
  ·replace h9 := of_decide_eq_false h9
   refine .inl ⟨(fun a0 i0 => St.mk [(0, a0), (3, .one (.i .i64 ((2 + i0 : Nat) : Int)))] []) _ , fun i0 => ∀ k : Int, 2 ≤ k → k < ((2 + i0 : Nat) : Int) → p % k ≠ 0, 5, fun _ _ => by omega, ⟨⟨rfl, rfl, trivial⟩, trivial, rfl⟩, fun i0 hi0 hF0 => ?_⟩
   have hsq : (((2 + i0 : Nat) : Int)) * ((2 + i0 : Nat) : Int) = 4 + 4 * i0 + i0 * i0 := by
    have : ((2 + i0 : Nat) : Int) = 2 + i0 := by omega
    rw [this, Int.add_mul, Int.mul_add, Int.mul_add]; omega
   have hi5 : i0 = 0 ∨ i0 = 1 ∨ i0 = 2 ∨ i0 = 3 ∨ i0 = 4 ∨ i0 = 5 := by omega
   refine ⟨_, w64_id _ ?_ ?_, ?_⟩
   ·rcases hi5 with rfl | rfl | rfl | rfl | rfl | rfl <;> decide
   ·rcases hi5 with rfl | rfl | rfl | rfl | rfl | rfl <;> decide
   refine ⟨fun h14 => ?_, fun h14 => ?_⟩
   ·replace h14 := of_decide_eq_true h14
    refine ⟨by omega, _, rfl, ?_⟩
    refine ⟨fun h20 => ?_, fun h20 => ?_⟩
    ·replace h20 := eq_of_beq h20
     rw [Int.tmod_eq_emod_of_nonneg (by omega)] at h20
     refine ⟨rfl, [], ?_, rfl, trivial, rfl, rfl⟩
     refine one_b (dec_f fun h => h.2.2 _ (by omega) ?_ h20)
     rcases hi5 with rfl | rfl | rfl | rfl | rfl | rfl <;> simp at h14 ⊢ <;> omega
    ·replace h20 := ne_of_beq_false h20
     rw [Int.tmod_eq_emod_of_nonneg (by omega)] at h20
     refine ⟨((2 + i0 + 1 : Nat) : Int), w64_id _ (by omega) (by omega), ?_⟩
     refine ⟨by rcases hi5 with rfl | rfl | rfl | rfl | rfl | rfl <;> simp at h14 ⊢ <;> omega, ?_, ⟨rfl, rfl, trivial⟩, trivial, rfl⟩
     intro k hk hk2
     by_cases e : k = ((2 + i0 : Nat) : Int)
     ·rw [e]; exact h20
     ·exact hF0 k hk (by omega)
   ·replace h14 := of_decide_eq_false h14
    refine ⟨rfl, [], ?_, rfl, trivial, rfl, rfl⟩
    exact one_b (dec_t ⟨by omega, by omega, small_pr (i := ((2 + i0 : Nat) : Int)) (by omega) (by omega) (by omega) (by omega) (by omega) hF0⟩)

theorem i_in_ok (B : Bs P ρ) (E : E_i_in P ρ) {x a b : Int} :
  CallOK P ρ 94 [.i .i64 x, .i .i64 a, .i .i64 b] [] (.one (.b (decide (a ≤ x ∧ x ≤ b)))) [] := by
 refine call_of_vc B.fn B.mo E rfl rfl ?_
 refine ⟨fun h10 => ?_, fun h10 => ?_⟩
 ·replace h10 := of_decide_eq_true h10
  iterate 3 refine brB_t ?_
  refine ⟨rfl, [], ?_, rfl, trivial, rfl, rfl⟩
  refine one_b ?_
  by_cases h : x ≤ b
  ·rw [decide_eq_true h, decide_eq_true (⟨h10, h⟩ : a ≤ x ∧ x ≤ b)]
  ·rw [decide_eq_false h, decide_eq_false (fun q : a ≤ x ∧ x ≤ b => h q.2)]
 ·replace h10 := of_decide_eq_false h10
  iterate 3 refine brB_f ?_
  refine ⟨rfl, [], ?_, rfl, trivial, rfl, rfl⟩
  exact one_b (dec_f fun q => h10 q.1)

theorem i_IsVector_ok (B : Bs P ρ) (E : E_i_IsVector P ρ) {p n : Int} {v : By} :
  CallOK P ρ 92 [.i .i64 p, .i .i64 n, .ag [] 8 v] [] (.one (.b (decide (Shp p n ∧ Vec p n v 0)))) [] := by
 refine call_of_vc B.fn B.mo E.1 rfl rfl ?_
 refine ⟨0, rfl, ?_⟩
 refine .inl ⟨1, [], _, _, _, _, [_], rfl, i_IsPrime_ok B E.2.1 , rfl, trivial, rfl, rfl, ?_⟩
 refine ⟨fun h12 => ?_, fun h12 => ?_⟩
 ·skip
  iterate 4 refine brB_t ?_
  refine ⟨rfl, [], ?_, rfl, trivial, rfl, rfl⟩
  refine one_b (dec_f fun q => ?_)
  rw [decide_eq_true q.1.1] at h12; cases h12
 ·skip
  have hpr : Pr p := by
   by_cases q : Pr p
   ·exact q
   ·rw [decide_eq_false q] at h12; cases h12
  refine brB_f ?_
  refine .inl ⟨1, [], _, _, _, _, [_], rfl, i_in_ok B E.2.2 , rfl, trivial, rfl, rfl, ?_⟩
  iterate 2 refine brB_f ?_
  refine ⟨fun h16 => ?_, fun h16 => ?_⟩
  ·skip
   refine ⟨rfl, [], ?_, rfl, trivial, rfl, rfl⟩
   refine one_b (dec_f fun q => ?_)
   rw [decide_eq_true ⟨q.1.2.1, q.1.2.2⟩] at h16; cases h16
  ·skip
   have hn : 1 ≤ n ∧ n ≤ 8 := by
    by_cases q : 1 ≤ n ∧ n ≤ 8
    ·exact q
    ·rw [decide_eq_false q] at h16; cases h16
   refine ⟨⟨by first | omega | (simp <;> omega), by first | omega | (simp <;> omega)⟩, ?_⟩
   refine .inl ⟨(fun a0 a1 a17 b0 i0 => St.mk [(0, a0), (1, a1), (17, a17), (18, .one (.i .i64 ((i0 : Nat) : Int)))] [b0]) _ _ _ _ , fun i0 => ∀ k : Nat, k < i0 → bz v k < p ∧ (n ≤ k → bz v k = 0), 8, fun _ _ => by omega, ⟨⟨rfl, rfl, rfl, rfl, trivial⟩, ⟨rfl, trivial⟩, rfl⟩, fun i0 hi0 hF0 => ?_⟩
   refine ⟨fun h19 => ?_, fun h19 => ?_⟩
   ·replace h19 := of_decide_eq_true h19
    refine ⟨_, rfl, by first | omega | (simp <;> omega), by first | omega | (simp <;> omega), ?_⟩
    refine ⟨fun h26 => ?_, fun h26 => ?_⟩
    ·replace h26 := of_decide_eq_true h26
     iterate 6 refine brB_t ?_
     refine ⟨rfl, [], ?_, rfl, trivial, rfl, rfl⟩
     exact one_b (dec_f fun q => by have := (q.2 i0 (by omega)).1; rw [Nat.zero_add] at this; simp [bz, sh] at this h26; omega)
    ·replace h26 := of_decide_eq_false h26
     iterate 3 refine brB_f ?_
     refine ⟨fun h30 => ?_, fun h30 => ?_⟩
     ·replace h30 := of_decide_eq_true h30
      refine brB_t ?_
      refine brB_f ?_
      refine brB_t ?_
      refine brB_f ?_
      refine ⟨fun h34 => ?_, fun h34 => ?_⟩
      ·replace h34 := bne_t h34
       refine ⟨rfl, [], ?_, rfl, trivial, rfl, rfl⟩
       exact one_b (dec_f fun q => by have := (q.2 i0 (by omega)).2 (by omega); rw [Nat.zero_add, bz_eq0] at this; simp [sh] at h34; exact h34 this)
      ·replace h34 := bne_f h34
       refine ⟨((i0 + 1 : Nat) : Int), w64_id _ (by omega) (by omega), ?_⟩
       refine ⟨by omega, ?_, ⟨rfl, rfl, rfl, rfl, trivial⟩, ⟨rfl, trivial⟩, rfl⟩
       intro k hk
       by_cases e : k = i0
       ·subst e
        simp [bz, sh] at h26 h34 ⊢
        exact ⟨h26, fun _ => by rw [h34]; rfl⟩
       ·exact hF0 k (by omega)
     ·replace h30 := of_decide_eq_false h30
      iterate 5 refine brB_f ?_
      refine ⟨((i0 + 1 : Nat) : Int), w64_id _ (by omega) (by omega), ?_⟩
      refine ⟨by omega, ?_, ⟨rfl, rfl, rfl, rfl, trivial⟩, ⟨rfl, trivial⟩, rfl⟩
      intro k hk
      by_cases e : k = i0
      ·subst e
       simp [bz, sh] at h26 ⊢
       exact ⟨h26, fun q => by omega⟩
      ·exact hF0 k (by omega)
   ·replace h19 := of_decide_eq_false h19
    have e0 : 8 = i0 := by omega
    subst e0
    refine ⟨rfl, [], ?_, rfl, trivial, rfl, rfl⟩
    exact one_b (dec_t ⟨⟨hpr, hn⟩, fun k hk => by rw [Nat.zero_add]; exact hF0 k hk⟩)


end Hf
namespace Hf
open Go Classical
variable {P : Program} {ρ : Nat → FuncId}
theorem dec_elim_t {q : Prop} [Decidable q] (h : decide q = true) : q := of_decide_eq_true h
theorem dec_elim_t' {q : Prop} [Decidable q] (h : decide q = false) : ¬ q := of_decide_eq_false h
theorem not_t {b : Bool} (h : (!b) = true) : b = false := by simpa using h
theorem not_f {b : Bool} (h : (!b) = false) : b = true := by simpa using h
theorem eqB_z {n o : Nat} {f : By} : eqB n (sh f o) (fun _ => 0) = true ↔ ∀ k : Nat, k < n → bz f (o + k) = 0 := by
 rw [eqB_iff]
 exact ⟨fun h k hk => bz_eq0.2 (h k hk), fun h k hk => bz_eq0.1 (h k hk)⟩
theorem Vec_sh {p n : Int} {f : By} {a o : Nat} : Vec p n (sh f a) o ↔ Vec p n f (a + o) := by
 unfold Vec
 simp only [bz_sh, Nat.add_assoc]
theorem spl_sh {f g : By} {n a : Nat} : eqB n (sh (spl g 0 n (sh f a)) 0) (fun _ => 0) = eqB n (sh f a) (fun _ => 0) := by
 rw [Bool.eq_iff_iff, eqB_iff, eqB_iff]
 refine ⟨fun h k hk => ?_, fun h k hk => ?_⟩
 ·have := h k hk
  rw [sh_zero] at this
  simp only [spl] at this
  rw [if_pos (by omega)] at this
  exact this
 ·rw [sh_zero]
  simp only [spl]
  rw [if_pos (by omega)]
  exact h k hk
theorem Vec_spl {p n : Int} {f g : By} {a : Nat} : Vec p n (sh (spl g 0 8 (sh f a)) 0) 0 ↔ Vec p n f a := by
 unfold Vec
 simp only [sh_zero]
 have e : ∀ k, k < 8 → bz (spl g 0 8 (sh f a)) (0 + k) = bz f (a + k) := by
  intro k hk
  simp only [bz, spl]
  rw [if_pos (by omega)]
  simp [sh]
 exact ⟨fun h k hk => by rw [← e k hk]; exact h k hk, fun h k hk => by rw [e k hk]; exact h k hk⟩

theorem i_isLinear_ok (B : Bs P ρ) (E : E_i_isLinear P ρ) {p n size : Int} {hd : List Int} {N off : Nat} {f : By} (ho : hd.length ≤ off) (hN : off + 64 ≤ N) :
  CallOK P ρ 83 [.i .i64 p, .i .i64 n, .i .i64 size, .pt 0 off] [⟨true, .by hd N f⟩] (.one (.b (decide (Shp p size ∧ Lin p n size f off)))) [⟨true, .by hd N f⟩] := by
 refine call_of_vc B.fn B.mo E.1 rfl rfl ?_
 refine .inl ⟨(fun a0 a1 a2 a11 b0 i0 => St.mk [(0, a0), (1, a1), (2, a2), (11, a11), (12, .one (.i .i64 ((i0 : Nat) : Int)))] [b0]) _ _ _ _ _ , fun i0 => ∀ i : Nat, i < i0 → (Shp p size ∧ Vec p size f (off + i * 8)) ∧ (n ≤ i → ∀ k : Nat, k < 8 → bz f (off + i * 8 + k) = 0), 8, fun _ _ => by omega, ⟨⟨rfl, rfl, rfl, rfl, rfl, trivial⟩, ⟨rfl, trivial⟩, rfl⟩, fun i0 hi0 hF0 => ?_⟩
 refine ⟨fun h13 => ?_, fun h13 => ?_⟩
 ·replace h13 := of_decide_eq_true h13
  have hV : ∀ g : By, Vec p size (sh (spl g 0 8 (sh f (off + i0 * 8))) 0) 0 ↔ Vec p size f (off + i0 * 8) := fun g => Vec_spl
  refine ⟨_, off + i0 * 8, rfl, by omega, by omega, ?_⟩
  refine ⟨⟨by first | omega | (simp <;> omega), by first | omega | (simp <;> omega)⟩, ?_⟩
  refine ⟨1, rfl, ?_⟩
  refine ⟨⟨rfl, by first | omega | (simp <;> omega), by first | omega | (simp <;> omega)⟩, ?_⟩   -- sta ['.t', 10] ['.t', 17] 8
  refine ⟨⟨by first | omega | (simp <;> omega), by first | omega | (simp <;> omega)⟩, ?_⟩
  refine .inl ⟨2, [], _, _, _, _, [_, _], rfl, i_IsVector_ok B E.2 , rfl, trivial, rfl, rfl, ?_⟩
  refine ⟨fun h23 => ?_, fun h23 => ?_⟩
  ·skip
   have h23' := dec_elim_t' (not_t h23)
   iterate 6 refine brB_t ?_
   refine ⟨rfl, [], ?_, rfl, ⟨rfl, trivial⟩, rfl, rfl⟩
   exact one_b (dec_f fun q => h23' ⟨q.1, (hV _).2 (q.2 i0 (by omega)).1⟩)
  ·skip
   have h23' := dec_elim_t (not_f h23)
   rw [hV] at h23'
   iterate 3 refine brB_f ?_
   refine ⟨fun h27 => ?_, fun h27 => ?_⟩
   ·replace h27 := of_decide_eq_true h27
    refine ⟨⟨by first | omega | (simp <;> omega), by first | omega | (simp <;> omega)⟩, ?_⟩
    iterate 2 refine brB_t ?_
    refine brB_f ?_
    refine brB_t ?_
    refine brB_f ?_
    refine ⟨fun h32 => ?_, fun h32 => ?_⟩
    ·skip
     have h32' := not_t h32
     refine ⟨rfl, [], ?_, rfl, ⟨rfl, trivial⟩, rfl, rfl⟩
     refine one_b (dec_f fun q => ?_)
     have := eqB_z.2 ((q.2 i0 (by omega)).2 (by omega))
     erw [spl_sh] at h32
     rw [this] at h32; cases h32
    ·skip
     have h32' := not_f h32
     refine ⟨((i0 + 1 : Nat) : Int), w64_id _ (by omega) (by omega), ?_⟩
     refine ⟨by omega, ?_, ⟨rfl, rfl, rfl, rfl, rfl, trivial⟩, ⟨rfl, trivial⟩, rfl⟩
     intro i hi
     by_cases e : i = i0
     ·subst e
      refine ⟨h23', fun _ => ?_⟩
      erw [spl_sh] at h32
      exact eqB_z.1 (by simpa using h32)
     ·exact hF0 i (by omega)
   ·replace h27 := of_decide_eq_false h27
    iterate 6 refine brB_f ?_
    refine ⟨((i0 + 1 : Nat) : Int), w64_id _ (by omega) (by omega), ?_⟩
    refine ⟨by omega, ?_, ⟨rfl, rfl, rfl, rfl, rfl, trivial⟩, ⟨rfl, trivial⟩, rfl⟩
    intro i hi
    by_cases e : i = i0
    ·subst e
     exact ⟨h23', fun q => by omega⟩
    ·exact hF0 i (by omega)
 ·replace h13 := of_decide_eq_false h13
  have e0 : 8 = i0 := by omega
  subst e0
  refine ⟨rfl, [], ?_, rfl, ⟨rfl, trivial⟩, rfl, rfl⟩
  exact one_b (dec_t ⟨(hF0 0 (by omega)).1.1, fun i hi => ⟨(hF0 i hi).1.2, (hF0 i hi).2⟩⟩)

theorem i_isTable_ok (B : Bs P ρ) (E : E_i_isTable P ρ) {p n : Int} {hd : List Int} {N off : Nat} {f : By} (ho : hd.length ≤ off) (hN : off + 512 ≤ N) :
  CallOK P ρ 102 [.i .i64 p, .i .i64 n, .pt 0 off] [⟨true, .by hd N f⟩] (.one (.b (decide (Shp p n ∧ Tab p n f off)))) [⟨true, .by hd N f⟩] := by
 refine call_of_vc B.fn B.mo E.1 rfl rfl ?_
 refine .inl ⟨(fun a0 a1 a2 b0 i0 => St.mk [(0, a0), (1, a1), (2, a2), (8, .one (.i .i64 ((i0 : Nat) : Int)))] [b0]) _ _ _ _ , fun i0 => ∀ i : Nat, i < i0 → (Shp p n ∧ Lin p n n f (off + i * 64)) ∧ (n ≤ i → ∀ k : Nat, k < 64 → bz f (off + i * 64 + k) = 0), 8, fun _ _ => by omega, ⟨⟨rfl, rfl, rfl, rfl, trivial⟩, ⟨rfl, trivial⟩, rfl⟩, fun i0 hi0 hF0 => ?_⟩
 refine ⟨fun h9 => ?_, fun h9 => ?_⟩
 ·replace h9 := of_decide_eq_true h9
  have ho' : hd.length ≤ off + i0 * 64 := by omega
  have hN' : off + i0 * 64 + 64 ≤ N := by omega
  refine ⟨_, off + i0 * 64, rfl, by omega, by omega, ?_⟩
  refine .inl ⟨1, [0], _, _, _, _, [_], rfl, i_isLinear_ok B E.2 ho' hN', rfl, ⟨⟨_, rfl, fun h => by first | rfl | cases h⟩, trivial⟩, rfl, rfl, ?_⟩
  refine ⟨fun h20 => ?_, fun h20 => ?_⟩
  ·skip
   have h20' := dec_elim_t' (not_t h20)
   iterate 6 refine brB_t ?_
   refine ⟨rfl, [], ?_, rfl, ⟨rfl, trivial⟩, rfl, rfl⟩
   exact one_b (dec_f fun q => h20' ⟨q.1, (q.2 i0 (by omega)).1⟩)
  ·skip
   have h20' := dec_elim_t (not_f h20)
   iterate 3 refine brB_f ?_
   refine ⟨fun h24 => ?_, fun h24 => ?_⟩
   ·replace h24 := of_decide_eq_true h24
    iterate 3 refine brB_t ?_
    refine ⟨_, off + i0 * 64, rfl, by omega, by omega, ?_⟩
    refine brB_t ?_
    refine ⟨⟨by first | omega | (simp <;> omega), by first | omega | (simp <;> omega)⟩, ?_⟩
    iterate 2 refine brB_t ?_
    refine brB_f ?_
    refine brB_t ?_
    refine brB_f ?_
    refine ⟨fun h33 => ?_, fun h33 => ?_⟩
    ·skip
     have h33' := not_t h33
     refine ⟨rfl, [], ?_, rfl, ⟨rfl, trivial⟩, rfl, rfl⟩
     refine one_b (dec_f fun q => ?_)
     have := eqB_z.2 ((q.2 i0 (by omega)).2 (by omega))
     erw [this] at h33; cases h33
    ·skip
     have h33' := not_f h33
     refine ⟨((i0 + 1 : Nat) : Int), w64_id _ (by omega) (by omega), ?_⟩
     refine ⟨by omega, ?_, ⟨rfl, rfl, rfl, rfl, trivial⟩, ⟨rfl, trivial⟩, rfl⟩
     intro i hi
     by_cases e : i = i0
     ·subst e
      refine ⟨h20', fun _ => ?_⟩
      exact eqB_z.1 (by simpa using h33)
     ·exact hF0 i (by omega)
   ·replace h24 := of_decide_eq_false h24
    iterate 10 refine brB_f ?_
    refine ⟨((i0 + 1 : Nat) : Int), w64_id _ (by omega) (by omega), ?_⟩
    refine ⟨by omega, ?_, ⟨rfl, rfl, rfl, rfl, trivial⟩, ⟨rfl, trivial⟩, rfl⟩
    intro i hi
    by_cases e : i = i0
    ·subst e
     exact ⟨h20', fun q => by omega⟩
    ·exact hF0 i (by omega)
 ·replace h9 := of_decide_eq_false h9
  have e0 : 8 = i0 := by omega
  subst e0
  refine ⟨rfl, [], ?_, rfl, ⟨rfl, trivial⟩, rfl, rfl⟩
  exact one_b (dec_t ⟨(hF0 0 (by omega)).1.1, fun i hi => ⟨(hF0 i hi).1.2, (hF0 i hi).2⟩⟩)

theorem i_Coalgebra_isShaped_ok (B : Bs P ρ) (E : E_i_Coalgebra_isShaped P ρ) {p n : Int} {f : By} :
  CallOK P ρ 82 [.pt 0 0] [⟨true, .by [p, n] 522 f⟩] (.one (.b (decide (Shp p n ∧ Vec p n f 2 ∧ Tab p n f 10)))) [⟨true, .by [p, n] 522 f⟩] := by
 refine call_of_vc B.fn B.mo E.1 rfl rfl ?_
 refine ⟨⟨by first | omega | (simp <;> omega), by first | omega | (simp <;> omega)⟩, ?_⟩
 refine ⟨1, [], _, _, _, _, [_], rfl, i_IsVector_ok B E.2.1 , rfl, trivial, rfl, rfl, rfl, ?_⟩
 refine ⟨fun h16 => ?_, fun h16 => ?_⟩
 ·skip
  have h16' := dec_elim_t h16
  iterate 11 refine brB_t ?_
  refine .inl ⟨1, [0], _, _, _, _, [_], rfl, i_isTable_ok B E.2.2 (by simp) (by omega), rfl, ⟨⟨_, rfl, fun h => by first | rfl | cases h⟩, trivial⟩, rfl, rfl, ?_⟩
  refine brB_t ?_
  refine ⟨rfl, [], ?_, rfl, ⟨rfl, trivial⟩, rfl, rfl⟩
  refine one_b (decide_eq_decide.2 ?_)
  exact ⟨fun q => ⟨q.1, Vec_sh.1 h16'.2, q.2⟩, fun q => ⟨q.1, q.2.2⟩⟩
 ·skip
  have h16' := dec_elim_t' h16
  iterate 12 refine brB_f ?_
  refine ⟨rfl, [], ?_, rfl, ⟨rfl, trivial⟩, rfl, rfl⟩
  exact one_b (dec_f fun q => h16' ⟨q.1, Vec_sh.2 q.2.1⟩)


end Hf
namespace Hf
open Go Classical
variable {P : Program} {ρ : Nat → FuncId}
theorem Lin_sh {p n m : Int} {f : By} {a o : Nat} : Lin p n m (sh f a) o ↔ Lin p n m f (a + o) := by
 unfold Lin
 simp only [bz_sh, Vec_sh, Nat.add_assoc]
theorem Tab_sh {p n : Int} {f : By} {a o : Nat} : Tab p n (sh f a) o ↔ Tab p n f (a + o) := by
 unfold Tab
 simp only [bz_sh, Lin_sh, Nat.add_assoc]

end Hf
namespace Hf
open Go Classical
variable {P : Program} {ρ : Nat → FuncId}
theorem neB_t {n : Nat} {f g : By} (h : (!eqB n f g) = true) : ¬ ∀ x, x < n → f x = g x := fun q => by
 rw [eqB_iff.2 q] at h; cases h
theorem neB_f {n : Nat} {f g : By} (h : (!eqB n f g) = false) : ∀ x, x < n → f x = g x := eqB_iff.1 (by simpa using h)
theorem vec_ext {N : Nat} {p : Int} {a : Nat → Int} {g : By} (hg : ∀ x, N ≤ x → g x = 0) (h : ∀ x, x < N → vec N p a x = g x) : vec N p a = g := by
 funext x
 by_cases hx : x < N
 ·exact h x hx
 ·rw [vec_out (by omega), hg x (by omega)]
theorem bas_out {i : Nat} (hi : i < 8) : ∀ x, 8 ≤ x → bas i x = 0 := fun x hx => by simp only [bas]; rw [if_neg (by omega)]
/-- the first three for which something is bad -/
def Fst (n : Nat) (bad : Nat → Nat → Nat → Prop) (i j k : Nat) : Prop :=
 (i < n ∧ j < n ∧ k < n ∧ bad i j k) ∧ (∀ i', i' < i → ∀ j, j < n → ∀ k, k < n → ¬ bad i' j k) ∧ (∀ j', j' < j → ∀ k, k < n → ¬ bad i j' k) ∧ ∀ k', k' < k → ¬ bad i j k'
theorem least {q : Nat → Prop} (h : ∃ i, q i) : ∃ i, q i ∧ ∀ j, j < i → ¬ q j := by
 obtain ⟨i, hi⟩ := h
 induction i using Nat.strongRecOn with
 | _ i ih =>
  by_cases h2 : ∃ j, j < i ∧ q j
  ·obtain ⟨j, hj, hq⟩ := h2; exact ih j hj hq
  ·exact ⟨i, hi, fun j hj hq => h2 ⟨j, hj, hq⟩⟩
theorem Fst_ex {n : Nat} {bad : Nat → Nat → Nat → Prop} (h : ¬ ∀ i j k, i < n → j < n → k < n → ¬ bad i j k) : ∃ i j k, Fst n bad i j k := by
 simp only [Classical.not_forall, Classical.not_not] at h
 obtain ⟨i, j, k, h1, h2, h3, h4⟩ := h
 obtain ⟨i, ⟨hi, j, hj, k, hk, hb⟩, mi⟩ := least (q := fun i => i < n ∧ ∃ j, j < n ∧ ∃ k, k < n ∧ bad i j k) ⟨i, h1, j, h2, k, h3, h4⟩
 obtain ⟨j, ⟨hj, k, hk, hb⟩, mj⟩ := least (q := fun j => j < n ∧ ∃ k, k < n ∧ bad i j k) ⟨j, hj, k, hk, hb⟩
 obtain ⟨k, ⟨hk, hb⟩, mk⟩ := least (q := fun k => k < n ∧ bad i j k) ⟨k, hk, hb⟩
 exact ⟨i, j, k, ⟨hi, hj, hk, hb⟩, fun i' h1 j' h2 k' h3 h4 => mi i' h1 ⟨by omega, j', h2, k', h3, h4⟩, fun j' h2 k' h3 h4 => mj j' h2 ⟨by omega, k', h3, h4⟩, fun k' h3 h4 => mk k' h3 ⟨by omega, h4⟩⟩
theorem Fst_un {n : Nat} {bad : Nat → Nat → Nat → Prop} {i j k a b c : Nat} (h : Fst n bad i j k) (g : Fst n bad a b c) : i = a ∧ j = b ∧ k = c := by
 obtain ⟨⟨h1, h2, h3, h4⟩, h5, h6, h7⟩ := h
 obtain ⟨⟨g1, g2, g3, g4⟩, g5, g6, g7⟩ := g
 have e1 : i = a := by
  rcases Nat.lt_trichotomy i a with e | e | e
  ·exact (g5 i e j h2 k h3 h4).elim
  ·exact e
  ·exact (h5 a e b g2 c g3 g4).elim
 subst e1
 have e2 : j = b := by
  rcases Nat.lt_trichotomy j b with e | e | e
  ·exact (g6 j e k h3 h4).elim
  ·exact e
  ·exact (h6 b e c g3 g4).elim
 subst e2
 have e3 : k = c := by
  rcases Nat.lt_trichotomy k c with e | e | e
  ·exact (g7 k e h4).elim
  ·exact e
  ·exact (h7 c e g4).elim
 exact ⟨rfl, rfl, e3⟩
/-- associativity at i, j, k -/
def Aso (p : Int) (n : Nat) (f : By) (i j k : Nat) : Prop :=
 vec 8 p (prd n f 10 (sh f (10 + i * 64 + j * 8)) (bas k)) = vec 8 p (prd n f 10 (bas i) (sh f (10 + j * 64 + k * 8)))
def Uni (p : Int) (n : Nat) (f : By) (i : Nat) : Prop :=
 vec 8 p (prd n f 10 (sh f 2) (bas i)) = bas i ∧ vec 8 p (prd n f 10 (bas i) (sh f 2)) = bas i
def AShp (p n : Int) (f : By) : Prop := Shp p n ∧ Vec p n f 2 ∧ Tab p n f 10
def Alg (p n : Int) (f : By) : Prop := AShp p n f ∧ (∀ i : Nat, (i : Int) < n → Uni p n.toNat f i) ∧ ∀ i j k : Nat, i < n.toNat → j < n.toNat → k < n.toNat → Aso p n.toNat f i j k

end Hf
namespace Hf
open Go Classical
variable {P : Program} {ρ : Nat → FuncId}
theorem AShp.p1 {p n : Int} {f : By} (h : AShp p n f) : 1 ≤ p ∧ p ≤ 31 ∧ 1 ≤ n ∧ n ≤ 8 := ⟨by have := h.1.1.1; omega, h.1.1.2.1, h.1.2.1, h.1.2.2⟩

end Hf
namespace Hf
open Go Classical
variable {P : Program} {ρ : Nat → FuncId}
theorem qd {a b : Nat} (h : a ≤ 4611686018427387904) : w64 ((a : Int).tdiv (b : Int)) = ((a / b : Nat) : Int) := by
 have : (a : Int).tdiv (b : Int) = ((a / b : Nat) : Int) := rfl
 rw [this]
 have := Nat.div_le_self a b
 generalize a / b = q at *
 exact w64_id _ (by omega) (by omega)
theorem rm {a b : Nat} : (a : Int).tmod (b : Int) = ((a % b : Nat) : Int) := rfl
theorem ml {a b : Nat} (h : a * b ≤ 4611686018427387904) : w64 ((a : Int) * (b : Int)) = ((a * b : Nat) : Int) := by
 rw [← Int.natCast_mul]; exact w64_id _ (by omega) (by omega)
theorem pw {n : Nat} (h : n ≤ 8) : n * n ≤ 64 ∧ n * n * n ≤ 512 ∧ n * n * n * n ≤ 4096 := by
 have h1 : n * n ≤ 8 * 8 := Nat.mul_le_mul h h
 have h2 : n * n * n ≤ 64 * 8 := Nat.mul_le_mul h1 h
 have h3 : n * n * n * n ≤ 512 * 8 := Nat.mul_le_mul h2 h
 omega
theorem dig {n t : Nat} (h : t < n * n * n * n) : 0 < n ∧ t / (n * n * n) < n ∧ t / (n * n) % n < n ∧ t / n % n < n ∧ t % n < n := by
 have h0 : 0 < n := by
  rcases Nat.eq_zero_or_pos n with e | e
  ·subst e; simp at h
  ·exact e
 exact ⟨h0, Nat.div_lt_of_lt_mul h, Nat.mod_lt _ h0, Nat.mod_lt _ h0, Nat.mod_lt _ h0⟩
def coL (m : Nat) (f : By) (i j k l : Nat) : Int := sm m fun a => bz f (10 + i * 64 + a * 8 + l) * bz f (10 + a * 64 + j * 8 + k)
def coR (m : Nat) (f : By) (i j k l : Nat) : Int := sm m fun a => bz f (10 + i * 64 + j * 8 + a) * bz f (10 + a * 64 + k * 8 + l)
/-- coassociativity at i, j, k, l -/
def Coa (p : Int) (n : Nat) (f : By) (i j k l : Nat) : Prop := coL n f i j k l % p = coR n f i j k l % p
def CoaT (p : Int) (n : Nat) (f : By) (t : Nat) : Prop := Coa p n f (t / (n * n * n)) (t / (n * n) % n) (t / n % n) (t % n)
theorem coL_bd {m : Nat} {f : By} {i j k l : Nat} : 0 ≤ coL m f i j k l ∧ coL m f i j k l ≤ m * 65025 := sm_bd fun a _ => bz2 f f _ _
theorem coR_bd {m : Nat} {f : By} {i j k l : Nat} : 0 ≤ coR m f i j k l ∧ coR m f i j k l ≤ m * 65025 := sm_bd fun a _ => bz2 f f _ _
/-- the counit at i -/
def cuL (n : Nat) (f : By) (i x : Nat) : Int := sm n fun j => bz f (2 + j) * bz f (10 + i * 64 + j * 8 + x)
def cuR (n : Nat) (f : By) (i j : Nat) : Int := sm n fun k => bz f (2 + k) * bz f (10 + i * 64 + j * 8 + k)
def Cou (p : Int) (n : Nat) (f : By) (i : Nat) : Prop := vec 8 p (cuL n f i) = bas i ∧ vec n p (cuR n f i) = bas i
def CShp (p n : Int) (f : By) : Prop := Shp p n ∧ Vec p n f 2 ∧ Tab p n f 10
def Cog (p n : Int) (f : By) : Prop := CShp p n f ∧ (∀ i : Nat, i < n.toNat → Cou p n.toNat f i) ∧ ∀ t : Nat, t < n.toNat * n.toNat * n.toNat * n.toNat → CoaT p n.toNat f t
theorem upd_vec {p : Int} {X : Nat → Int} {a : Nat} {v : UInt8} (h : v = byt (X a % p)) : upd (vec a p X) a v = vec (a + 1) p X := by
 funext x
 simp only [upd, vec]
 by_cases e : x = a
 ·subst e; rw [if_pos rfl, if_pos (by omega), h]
 ·rw [if_neg e]
  by_cases h2 : x < a
  ·rw [if_pos h2, if_pos (by omega)]
  ·rw [if_neg h2, if_neg (by omega)]
theorem i_Coalgebra_isFault_ok (B : Bs P ρ) (E : E_i_Coalgebra_isFault P ρ) {n : Nat} {p : Int} {f : By} {i j k l : Nat} (hp : 1 ≤ p) (hp2 : p ≤ 256) (hn : n ≤ 8) (hi : i < 8) (hj : j < 8) (hk : k < 8) (hl : l < 8) :
  CallOK P ρ 119 [.pt 0 0, .i .i64 (i : Int), .i .i64 (j : Int), .i .i64 (k : Int), .i .i64 (l : Int)] [⟨true, .by [p, (n : Int)] 522 f⟩] (.one (.b (decide (¬ Coa p n f i j k l)))) [⟨true, .by [p, (n : Int)] 522 f⟩] := by
 refine call_of_vc B.fn B.mo E.1 rfl rfl ?_
 refine .inl ⟨1, [0], _, _, _, _, [_], rfl, i_Coalgebra_field_ok B E.2 , rfl, ⟨⟨_, rfl, fun h => by first | rfl | cases h⟩, trivial⟩, rfl, rfl, ?_⟩
 refine ⟨1, rfl, ?_⟩
 refine .inl ⟨(fun a0 a1 a2 a3 a4 a18 b0 b1 i0 => St.mk [(0, a0), (1, a1), (2, a2), (3, a3), (4, a4), (11, .one (.pt 1 0)), (12, .one (.i .i64 (coL i0 f i j k l))), (13, .one (.i .i64 (coR i0 f i j k l))), (18, a18), (19, .one (.i .i64 ((i0 : Nat) : Int)))] [b0, b1]) _ _ _ _ _ _ _ _ , fun i0 => True, n, trivial, ⟨⟨rfl, rfl, rfl, rfl, rfl, rfl, rfl, rfl, rfl, rfl, trivial⟩, ⟨rfl, rfl, trivial⟩, rfl⟩, fun i0 hi0 _ => ?_⟩
 refine ⟨fun h20 => ?_, fun h20 => ?_⟩
 ·replace h20 := of_decide_eq_true h20
  have q1 := bz2 f f (10 + i * 64 + i0 * 8 + l) (10 + i0 * 64 + j * 8 + k)
  have q2 := bz2 f f (10 + i * 64 + j * 8 + i0) (10 + i0 * 64 + k * 8 + l)
  have q3 := coL_bd (m := i0) (f := f) (i := i) (j := j) (k := k) (l := l)
  have q4 := coR_bd (m := i0) (f := f) (i := i) (j := j) (k := k) (l := l)
  refine ⟨i, 10 + i * 64, rfl, by omega, by omega, ?_⟩
  refine ⟨i0, 10 + i * 64 + i0 * 8, rfl, by omega, by omega, ?_⟩
  refine ⟨l, 10 + i * 64 + i0 * 8 + l, rfl, by omega, by omega, ?_⟩
  refine ⟨⟨by first | omega | (simp <;> omega), by first | omega | (simp <;> omega)⟩, ?_⟩
  refine ⟨i0, 10 + i0 * 64, rfl, by omega, by omega, ?_⟩
  refine ⟨j, 10 + i0 * 64 + j * 8, rfl, by omega, by omega, ?_⟩
  refine ⟨k, 10 + i0 * 64 + j * 8 + k, rfl, by omega, by omega, ?_⟩
  refine ⟨⟨by first | omega | (simp <;> omega), by first | omega | (simp <;> omega)⟩, ?_⟩
  refine ⟨bz f (10 + i * 64 + i0 * 8 + l) * bz f (10 + i0 * 64 + j * 8 + k), w64_id (bz f (10 + i * 64 + i0 * 8 + l) * bz f (10 + i0 * 64 + j * 8 + k)) (by omega) (by omega), ?_⟩
  refine ⟨coL i0 f i j k l + bz f (10 + i * 64 + i0 * 8 + l) * bz f (10 + i0 * 64 + j * 8 + k), w64_id (coL i0 f i j k l + bz f (10 + i * 64 + i0 * 8 + l) * bz f (10 + i0 * 64 + j * 8 + k)) (by omega) (by omega), ?_⟩
  refine ⟨i, 10 + i * 64, rfl, by omega, by omega, ?_⟩
  refine ⟨j, 10 + i * 64 + j * 8, rfl, by omega, by omega, ?_⟩
  refine ⟨i0, 10 + i * 64 + j * 8 + i0, rfl, by omega, by omega, ?_⟩
  refine ⟨⟨by first | omega | (simp <;> omega), by first | omega | (simp <;> omega)⟩, ?_⟩
  refine ⟨i0, 10 + i0 * 64, rfl, by omega, by omega, ?_⟩
  refine ⟨k, 10 + i0 * 64 + k * 8, rfl, by omega, by omega, ?_⟩
  refine ⟨l, 10 + i0 * 64 + k * 8 + l, rfl, by omega, by omega, ?_⟩
  refine ⟨⟨by first | omega | (simp <;> omega), by first | omega | (simp <;> omega)⟩, ?_⟩
  refine ⟨bz f (10 + i * 64 + j * 8 + i0) * bz f (10 + i0 * 64 + k * 8 + l), w64_id (bz f (10 + i * 64 + j * 8 + i0) * bz f (10 + i0 * 64 + k * 8 + l)) (by omega) (by omega), ?_⟩
  refine ⟨coR i0 f i j k l + bz f (10 + i * 64 + j * 8 + i0) * bz f (10 + i0 * 64 + k * 8 + l), w64_id (coR i0 f i j k l + bz f (10 + i * 64 + j * 8 + i0) * bz f (10 + i0 * 64 + k * 8 + l)) (by omega) (by omega), ?_⟩
  refine ⟨((i0 + 1 : Nat) : Int), w64_id _ (by omega) (by omega), ?_⟩
  exact ⟨by omega, trivial, ⟨rfl, rfl, rfl, rfl, rfl, rfl, rfl, rfl, rfl, rfl, trivial⟩, ⟨rfl, rfl, trivial⟩, rfl⟩
 ·replace h20 := of_decide_eq_false h20
  have e0 : n = i0 := by omega
  subst e0
  refine ⟨by first | omega | (simp <;> omega), _, rfl, ?_⟩
  refine ⟨by first | omega | (simp <;> omega), _, rfl, ?_⟩
  refine ⟨rfl, [], ?_, rfl, ⟨rfl, trivial⟩, rfl, rfl⟩
  refine one_b ?_
  rw [Int.tmod_eq_emod_of_nonneg coL_bd.1, Int.tmod_eq_emod_of_nonneg coR_bd.1]
  by_cases q : Coa p n f i j k l
  ·rw [decide_eq_false (fun h => h q)]
   have : coL n f i j k l % p = coR n f i j k l % p := q
   simp [this]
  ·rw [decide_eq_true q]
   have : ¬ coL n f i j k l % p = coR n f i j k l % p := q
   simp [this]

theorem i_Coalgebra_fault_t_ok (B : Bs P ρ) (E : E_i_Coalgebra_fault P ρ) {n : Nat} {p : Int} {f : By} (hp : 1 ≤ p) (hp2 : p ≤ 256) (hn : n ≤ 8) (hA : ∀ t : Nat, t < n * n * n * n → CoaT p n f t) :
  CallOK P ρ 108 [.pt 0 0] [⟨true, .by [p, (n : Int)] 522 f⟩] (.one .sn) [⟨true, .by [p, (n : Int)] 522 f⟩] := by
 refine call_of_vc B.fn B.mo E.1 rfl rfl ?_
 have hpw := pw hn
 refine ⟨((n * n : Nat) : Int), ml (by omega), ?_⟩
 refine ⟨((n * n * n : Nat) : Int), ml (by omega), ?_⟩
 refine ⟨((n * n * n * n : Nat) : Int), ml (by omega), ?_⟩
 refine .inl ⟨(fun a0 a3 a19 b0 i0 => St.mk [(0, a0), (3, a3), (19, a19), (20, .one (.i .i64 ((i0 : Nat) : Int)))] [b0]) _ _ _ _ , fun i0 => True, n * n * n * n, trivial, ⟨⟨rfl, rfl, rfl, rfl, trivial⟩, ⟨rfl, trivial⟩, rfl⟩, fun i0 hi0 _ => ?_⟩
 refine ⟨fun h21 => ?_, fun h21 => ?_⟩
 ·replace h21 := of_decide_eq_true h21
  have hlt : i0 < n * n * n * n := by omega
  have hd := dig hlt
  refine ⟨((n * n : Nat) : Int), ml (by omega), ?_⟩
  refine ⟨((n * n * n : Nat) : Int), ml (by omega), ?_⟩
  refine ⟨by have : n * n * n ≠ 0 := Nat.ne_of_gt (Nat.mul_pos (Nat.mul_pos hd.1 hd.1) hd.1); omega, ((i0 / (n * n * n) : Nat) : Int), qd (by omega), ?_⟩
  refine ⟨((n * n : Nat) : Int), ml (by omega), ?_⟩
  refine ⟨by have : n * n ≠ 0 := Nat.ne_of_gt (Nat.mul_pos hd.1 hd.1); omega, ((i0 / (n * n) : Nat) : Int), qd (by omega), ?_⟩
  refine ⟨by omega, ((i0 / (n * n) % n : Nat) : Int), rm, ?_⟩
  refine ⟨by omega, ((i0 / n : Nat) : Int), qd (by omega), ?_⟩
  refine ⟨by omega, ((i0 / n % n : Nat) : Int), rm, ?_⟩
  refine ⟨by omega, ((i0 % n : Nat) : Int), rm, ?_⟩
  refine .inl ⟨1, [0], _, _, _, _, [_], rfl, i_Coalgebra_isFault_ok B E.2 hp hp2 hn (i := i0 / (n * n * n)) (j := i0 / (n * n) % n) (k := i0 / n % n) (l := i0 % n) (by omega) (by omega) (by omega) (by omega), rfl, ⟨⟨_, rfl, fun h => by first | rfl | cases h⟩, trivial⟩, rfl, rfl, ?_⟩
  refine ⟨fun h50 => ?_, fun h50 => ?_⟩
  ·skip
   exact (dec_elim_t h50 (hA i0 hlt)).elim
  ·skip
   refine ⟨((i0 + 1 : Nat) : Int), w64_id _ (by omega) (by omega), ?_⟩
   exact ⟨by omega, trivial, ⟨rfl, rfl, rfl, rfl, trivial⟩, ⟨rfl, trivial⟩, rfl⟩
 ·replace h21 := of_decide_eq_false h21
  have e0 : n * n * n * n = i0 := by omega
  exact ⟨rfl, [], rfl, rfl, ⟨rfl, trivial⟩, rfl, rfl⟩

theorem i_Coalgebra_fault_f_ok (B : Bs P ρ) (E : E_i_Coalgebra_fault P ρ) {n : Nat} {p : Int} {f : By} {a : Nat} (hp : 1 ≤ p) (hp2 : p ≤ 256) (hn : n ≤ 8) (ha : a < n * n * n * n) (hA : ¬ CoaT p n f a) (hL : ∀ t, t < a → CoaT p n f t) :
  CallOK P ρ 108 [.pt 0 0] [⟨true, .by [p, (n : Int)] 522 f⟩] (.one (.sl 1 0 4 4)) [⟨true, .by [p, (n : Int)] 522 f⟩, ⟨false, .rw [.i .i64 ((a / (n * n * n) : Nat) : Int), .i .i64 ((a / (n * n) % n : Nat) : Int), .i .i64 ((a / n % n : Nat) : Int), .i .i64 ((a % n : Nat) : Int)]⟩] := by
 refine call_of_vc B.fn B.mo E.1 rfl rfl ?_
 have hpw := pw hn
 refine ⟨((n * n : Nat) : Int), ml (by omega), ?_⟩
 refine ⟨((n * n * n : Nat) : Int), ml (by omega), ?_⟩
 refine ⟨((n * n * n * n : Nat) : Int), ml (by omega), ?_⟩
 refine .inl ⟨(fun a0 a3 a19 b0 i0 => St.mk [(0, a0), (3, a3), (19, a19), (20, .one (.i .i64 ((i0 : Nat) : Int)))] [b0]) _ _ _ _ , fun i0 => ∀ t, t < i0 → CoaT p n f t, n * n * n * n, fun _ _ => by omega, ⟨⟨rfl, rfl, rfl, rfl, trivial⟩, ⟨rfl, trivial⟩, rfl⟩, fun i0 hi0 hF0 => ?_⟩
 refine ⟨fun h21 => ?_, fun h21 => ?_⟩
 ·replace h21 := of_decide_eq_true h21
  have hlt : i0 < n * n * n * n := by omega
  have hd := dig hlt
  refine ⟨((n * n : Nat) : Int), ml (by omega), ?_⟩
  refine ⟨((n * n * n : Nat) : Int), ml (by omega), ?_⟩
  refine ⟨by have : n * n * n ≠ 0 := Nat.ne_of_gt (Nat.mul_pos (Nat.mul_pos hd.1 hd.1) hd.1); omega, ((i0 / (n * n * n) : Nat) : Int), qd (by omega), ?_⟩
  refine ⟨((n * n : Nat) : Int), ml (by omega), ?_⟩
  refine ⟨by have : n * n ≠ 0 := Nat.ne_of_gt (Nat.mul_pos hd.1 hd.1); omega, ((i0 / (n * n) : Nat) : Int), qd (by omega), ?_⟩
  refine ⟨by omega, ((i0 / (n * n) % n : Nat) : Int), rm, ?_⟩
  refine ⟨by omega, ((i0 / n : Nat) : Int), qd (by omega), ?_⟩
  refine ⟨by omega, ((i0 / n % n : Nat) : Int), rm, ?_⟩
  refine ⟨by omega, ((i0 % n : Nat) : Int), rm, ?_⟩
  refine .inl ⟨1, [0], _, _, _, _, [_], rfl, i_Coalgebra_isFault_ok B E.2 hp hp2 hn (i := i0 / (n * n * n)) (j := i0 / (n * n) % n) (k := i0 / n % n) (l := i0 % n) (by omega) (by omega) (by omega) (by omega), rfl, ⟨⟨_, rfl, fun h => by first | rfl | cases h⟩, trivial⟩, rfl, rfl, ?_⟩
  refine ⟨fun h50 => ?_, fun h50 => ?_⟩
  ·skip
   have q : ¬ CoaT p n f i0 := dec_elim_t h50
   have e : i0 = a := by
    rcases Nat.lt_trichotomy i0 a with e | e | e
    ·exact (q (hL i0 e)).elim
    ·exact e
    ·exact (hA (hF0 a e)).elim
   refine ⟨1, rfl, ?_⟩
   refine ⟨rfl, [1], rfl, rfl, ⟨rfl, ?_, trivial⟩, rfl, rfl⟩
   show some (Blk.mk false (.rw [.i .i64 ((i0 / (n * n * n) : Nat) : Int), .i .i64 ((i0 / (n * n) % n : Nat) : Int), .i .i64 ((i0 / n % n : Nat) : Int), .i .i64 ((i0 % n : Nat) : Int)])) = some (Blk.mk false (.rw [.i .i64 ((a / (n * n * n) : Nat) : Int), .i .i64 ((a / (n * n) % n : Nat) : Int), .i .i64 ((a / n % n : Nat) : Int), .i .i64 ((a % n : Nat) : Int)]))
   rw [e]
  ·skip
   have q : CoaT p n f i0 := Classical.not_not.1 (dec_elim_t' h50)
   refine ⟨((i0 + 1 : Nat) : Int), w64_id _ (by omega) (by omega), ?_⟩
   refine ⟨by omega, ?_, ⟨rfl, rfl, rfl, rfl, trivial⟩, ⟨rfl, trivial⟩, rfl⟩
   intro t ht
   by_cases e : t = i0
   ·rw [e]; exact q
   ·exact hF0 t (by omega)
 ·replace h21 := of_decide_eq_false h21
  have e0 : n * n * n * n = i0 := by omega
  exact (hA (hF0 a (by omega))).elim


end Hf
namespace Hf
open Go Classical
variable {P : Program} {ρ : Nat → FuncId}
theorem sm_8n {n : Nat} {x : Nat → Int} (hn : n ≤ 8) (h : ∀ i, n ≤ i → i < 8 → x i = 0) : sm 8 x = sm n x := sm_ext hn h

theorem i_Coalgebra_isCounit_ok (B : Bs P ρ) (E : E_i_Coalgebra_isCounit P ρ) {n : Nat} {p : Int} {f : By} (hp : 1 ≤ p) (hp2 : p ≤ 256) (hn : n ≤ 8) (hv : ∀ i, n ≤ i → i < 8 → bz f (2 + i) = 0) :
  CallOK P ρ 107 [.pt 0 0] [⟨true, .by [p, (n : Int)] 522 f⟩] (.one (.b (decide (∀ i, i < n → Cou p n f i)))) [⟨true, .by [p, (n : Int)] 522 f⟩] := by
 refine call_of_vc B.fn B.mo E.1 rfl rfl ?_
 refine .inl ⟨1, [0], _, _, _, _, [_], rfl, i_Coalgebra_field_ok B E.2.1 , rfl, ⟨⟨_, rfl, fun h => by first | rfl | cases h⟩, trivial⟩, rfl, rfl, ?_⟩
 refine ⟨1, rfl, ?_⟩
 refine .inl ⟨(fun a0 a11 b0 b1 i0 => St.mk [(0, a0), (3, .one (.pt 1 0)), (11, a11), (12, .one (.i .i64 ((i0 : Nat) : Int)))] [b0, b1]) _ _ _ _ , fun i0 => ∀ i, i < i0 → Cou p n f i, n, fun _ _ => by omega, ⟨⟨rfl, rfl, rfl, rfl, trivial⟩, ⟨rfl, rfl, trivial⟩, rfl⟩, fun i0 hi0 hF0 => ?_⟩
 refine ⟨fun h13 => ?_, fun h13 => ?_⟩
 ·replace h13 := of_decide_eq_true h13
  refine ⟨2, rfl, ?_⟩
  refine ⟨3, rfl, ?_⟩
  refine ⟨⟨rfl, by first | omega | (simp <;> omega), by first | omega | (simp <;> omega)⟩, ?_⟩   -- sta ['.t', 5] ['.t', 15] 8
  refine ⟨⟨rfl, by first | omega | (simp <;> omega), by first | omega | (simp <;> omega)⟩, ?_⟩   -- sta ['.t', 6] ['.t', 16] 8
  refine .inl ⟨(fun a0 a4 a11 a12 a18 b0 b1 i1 => St.mk [(0, a0), (3, .one (.pt 1 0)), (4, a4), (5, .one (.pt 2 0)), (6, .one (.pt 3 0)), (11, a11), (12, a12), (18, a18), (19, .one (.i .i64 ((i1 : Nat) : Int)))] [b0, b1, Blk.mk false (.by [] 8 (vec 8 p fun x => cuL i1 f i0 x)), Blk.mk false (.by [] 8 (vec i1 p (cuR n f i0)))]) _ _ _ _ _ _ _ , fun i1 => True, n, trivial, ⟨⟨rfl, rfl, rfl, rfl, rfl, rfl, rfl, rfl, rfl, trivial⟩, ⟨rfl, rfl, ?_, ?_, trivial⟩, rfl⟩, fun i1 hi1 _ => ?_⟩
  ·refine blk_by ?_
   rw [z_sta]
   exact vec_0.symm
  ·refine blk_by ?_
   rw [z_sta]
   rfl
  refine ⟨fun h20 => ?_, fun h20 => ?_⟩
  ·replace h20 := of_decide_eq_true h20
   have q0 := bz_nn f (2 + i1)
   have q1 := bz_le f (2 + i1)
   refine ⟨i1, 2 + i1, rfl, by omega, by omega, ?_⟩
   refine ⟨⟨by first | omega | (simp <;> omega), by first | omega | (simp <;> omega)⟩, ?_⟩
   refine ⟨i0, 10 + i0 * 64, rfl, by omega, by omega, ?_⟩
   refine ⟨i1, 10 + i0 * 64 + i1 * 8, rfl, by omega, by omega, ?_⟩
   refine ⟨⟨by first | omega | (simp <;> omega), by first | omega | (simp <;> omega)⟩, ?_⟩
   refine .inl ⟨4, [2], _, _, _, _, [_, _, _, _], rfl, i_field_plus_ok B E.2.2.1 (k := bz f (2 + i1)) hp (by omega) (by simp) (by omega) (by omega) (by omega) (bz_vec_lt' hp hp2), rfl, ⟨⟨_, rfl, fun h => by first | rfl | cases h⟩, trivial⟩, rfl, rfl, ?_⟩
   refine ⟨⟨by first | omega | (simp <;> omega), by first | omega | (simp <;> omega)⟩, ?_⟩
   refine ⟨i0, 10 + i0 * 64, rfl, by omega, by omega, ?_⟩
   refine ⟨i1, 10 + i0 * 64 + i1 * 8, rfl, by omega, by omega, ?_⟩
   refine ⟨⟨by first | omega | (simp <;> omega), by first | omega | (simp <;> omega)⟩, ?_⟩
   refine ⟨4, [], _, _, _, _, [_, _, _, _], rfl, i_field_dot_ok B E.2.2.2.1 hp (by omega), rfl, trivial, rfl, rfl, rfl, ?_⟩
   refine ⟨i1, i1, rfl, by omega, by omega, ?_⟩
   refine ⟨⟨by first | omega | (simp <;> omega), by first | omega | (simp <;> omega)⟩, ?_⟩   -- st8 ['.t', 55] ['.t', 54]
   refine ⟨((i1 + 1 : Nat) : Int), w64_id _ (by omega) (by omega), ?_⟩
   refine ⟨by omega, trivial, ⟨rfl, rfl, rfl, rfl, rfl, rfl, rfl, rfl, rfl, trivial⟩, ⟨rfl, rfl, ?_, ?_, trivial⟩, rfl⟩
   ·refine blk_by ?_
    rw [pl_vec0 hp hp2]
    exact vec_congr fun y _ => cg_of_eq rfl
   ·refine blk_by (upd_vec ?_).symm
    congr 2
    exact sm_8n hn fun k h1 h2 => by rw [bz_sh, hv k h1 h2, Int.zero_mul]
  ·replace h20 := of_decide_eq_false h20
   have e1 : n = i1 := by omega
   subst e1
   refine ⟨⟨by first | omega | (simp <;> omega), by first | omega | (simp <;> omega)⟩, ?_⟩
   refine ⟨4, [], _, _, _, _, [_, _, _, _], rfl, i_basis_ok B E.2.2.2.2 (i := i0) (by omega), rfl, trivial, rfl, rfl, rfl, ?_⟩
   refine ⟨fun h61 => ?_, fun h61 => ?_⟩
   ·skip
    have z61 := neB_t h61
    rw [sh_zero] at z61
    iterate 5 refine brB_t ?_
    refine ⟨rfl, [], ?_, rfl, ⟨rfl, trivial⟩, rfl, rfl⟩
    exact one_b (dec_f fun q => z61 fun x _ => congrFun (q i0 (by omega)).1 x)
   ·skip
    have z61 := neB_f h61
    rw [sh_zero] at z61
    refine ⟨⟨by first | omega | (simp <;> omega), by first | omega | (simp <;> omega)⟩, ?_⟩
    iterate 2 refine brB_f ?_
    refine ⟨4, [], _, _, _, _, [_, _, _, _], rfl, i_basis_ok B E.2.2.2.2 (i := i0) (by omega), rfl, trivial, rfl, rfl, rfl, ?_⟩
    iterate 2 refine brB_f ?_
    refine ⟨fun h66 => ?_, fun h66 => ?_⟩
    ·skip
     have z66 := neB_t h66
     rw [sh_zero] at z66
     refine ⟨rfl, [], ?_, rfl, ⟨rfl, trivial⟩, rfl, rfl⟩
     exact one_b (dec_f fun q => z66 fun x _ => congrFun (q i0 (by omega)).2 x)
    ·skip
     have z66 := neB_f h66
     rw [sh_zero] at z66
     refine ⟨((i0 + 1 : Nat) : Int), w64_id _ (by omega) (by omega), ?_⟩
     refine ⟨by omega, ?_, ⟨rfl, rfl, rfl, rfl, trivial⟩, ⟨rfl, rfl, trivial⟩, rfl⟩
     intro k hk
     by_cases e : k = i0
     ·subst e
      refine ⟨vec_ext (bas_out (by omega)) z61, ?_⟩
      funext x
      by_cases hx : x < 8
      ·exact z66 x hx
      ·rw [vec_out (by omega), bas_out (by omega) x (by omega)]
     ·exact hF0 k (by omega)
 ·replace h13 := of_decide_eq_false h13
  have e0 : n = i0 := by omega
  subst e0
  refine ⟨rfl, [], ?_, rfl, ⟨rfl, trivial⟩, rfl, rfl⟩
  exact one_b (dec_t hF0)

theorem i_IsCoalgebra_s_ok (B : Bs P ρ) (E : E_i_IsCoalgebra P ρ) {n : Int} {p : Int} {f : By} (hS : ¬ CShp p n f) :
  CallOK P ρ 106 [.ag [p, n] 522 f] [] (.one (.b false)) [] := by
 refine call_of_vc B.fn B.mo E.1 rfl rfl ?_
 refine ⟨0, rfl, ?_⟩
 refine .inl ⟨1, [0], _, _, _, _, [_], rfl, i_Coalgebra_isShaped_ok B E.2.1 , rfl, ⟨⟨_, rfl, fun h => by first | rfl | cases h⟩, trivial⟩, rfl, rfl, ?_⟩
 refine ⟨fun h4 => ?_, fun h4 => ?_⟩
 ·skip
  have q : Shp p n ∧ Vec p n f 2 ∧ Tab p n f 10 := dec_elim_t h4
  exact (hS q).elim
 ·skip
  iterate 4 refine brB_f ?_
  exact ⟨rfl, [], rfl, rfl, trivial, rfl, rfl⟩

theorem i_IsCoalgebra_t_ok (B : Bs P ρ) (E : E_i_IsCoalgebra P ρ) {n : Nat} {p : Int} {f : By} (hS : CShp p n f) (hA : ∀ t : Nat, t < n * n * n * n → CoaT p n f t) :
  CallOK P ρ 106 [.ag [p, (n : Int)] 522 f] [] (.one (.b (decide (∀ i, i < n → Cou p n f i)))) [] := by
 refine call_of_vc B.fn B.mo E.1 rfl rfl ?_
 refine ⟨0, rfl, ?_⟩
 refine .inl ⟨1, [0], _, _, _, _, [_], rfl, i_Coalgebra_isShaped_ok B E.2.1 , rfl, ⟨⟨_, rfl, fun h => by first | rfl | cases h⟩, trivial⟩, rfl, rfl, ?_⟩
 refine ⟨fun h4 => ?_, fun h4 => ?_⟩
 ·skip
  have hb := AShp.p1 hS
  have hv : ∀ i, n ≤ i → i < 8 → bz f (2 + i) = 0 := fun i h1 h2 => (hS.2.1 i h2).2 (by omega)
  refine .inl ⟨1, [0], _, _, _, _, [_], rfl, i_Coalgebra_isCounit_ok B E.2.2.1 (by omega) (by omega) (by omega) hv, rfl, ⟨⟨_, rfl, fun h => by first | rfl | cases h⟩, trivial⟩, rfl, rfl, ?_⟩
  refine brB_t ?_
  refine ⟨fun h7 => ?_, fun h7 => ?_⟩
  ·skip
   refine .inl ⟨1, [0], _, _, _, _, [_], rfl, i_Coalgebra_fault_t_ok B E.2.2.2 (by omega) (by omega) (by omega) hA, rfl, ⟨⟨_, rfl, fun h => by first | rfl | cases h⟩, trivial⟩, rfl, rfl, ?_⟩
   iterate 2 refine brB_t ?_
   refine ⟨rfl, [], ?_, rfl, trivial, rfl, rfl⟩
   exact one_b h7.symm
  ·skip
   iterate 2 refine brB_f ?_
   refine ⟨rfl, [], ?_, rfl, trivial, rfl, rfl⟩
   exact one_b h7.symm
 ·skip
  have q : ¬ (Shp p n ∧ Vec p n f 2 ∧ Tab p n f 10) := dec_elim_t' h4
  exact (q hS).elim

theorem i_IsCoalgebra_f_ok (B : Bs P ρ) (E : E_i_IsCoalgebra P ρ) {n : Nat} {p : Int} {f : By} {a : Nat} (hS : CShp p n f) (ha : a < n * n * n * n) (hA : ¬ CoaT p n f a) (hL : ∀ t, t < a → CoaT p n f t) :
  CallOK P ρ 106 [.ag [p, (n : Int)] 522 f] [] (.one (.b false)) [] := by
 refine call_of_vc B.fn B.mo E.1 rfl rfl ?_
 refine ⟨0, rfl, ?_⟩
 refine .inl ⟨1, [0], _, _, _, _, [_], rfl, i_Coalgebra_isShaped_ok B E.2.1 , rfl, ⟨⟨_, rfl, fun h => by first | rfl | cases h⟩, trivial⟩, rfl, rfl, ?_⟩
 refine ⟨fun h4 => ?_, fun h4 => ?_⟩
 ·skip
  have hb := AShp.p1 hS
  have hv : ∀ i, n ≤ i → i < 8 → bz f (2 + i) = 0 := fun i h1 h2 => (hS.2.1 i h2).2 (by omega)
  refine .inl ⟨1, [0], _, _, _, _, [_], rfl, i_Coalgebra_isCounit_ok B E.2.2.1 (by omega) (by omega) (by omega) hv, rfl, ⟨⟨_, rfl, fun h => by first | rfl | cases h⟩, trivial⟩, rfl, rfl, ?_⟩
  refine brB_t ?_
  refine ⟨fun h7 => ?_, fun h7 => ?_⟩
  ·skip
   refine .inl ⟨1, [0], _, _, _, _, [_, _], rfl, i_Coalgebra_fault_f_ok B E.2.2.2 (by omega) (by omega) (by omega) ha hA hL, rfl, ⟨⟨_, rfl, fun h => by first | rfl | cases h⟩, trivial⟩, rfl, rfl, ?_⟩
   iterate 2 refine brB_t ?_
   exact ⟨rfl, [], rfl, rfl, trivial, rfl, rfl⟩
  ·skip
   iterate 2 refine brB_f ?_
   exact ⟨rfl, [], rfl, rfl, trivial, rfl, rfl⟩
 ·skip
  have q : ¬ (Shp p n ∧ Vec p n f 2 ∧ Tab p n f 10) := dec_elim_t' h4
  exact (q hS).elim

theorem i_IsCoalgebra_ok (B : Bs P ρ) (E : E_i_IsCoalgebra P ρ) {n : Int} {p : Int} {f : By} :
  CallOK P ρ 106 [.ag [p, n] 522 f] [] (.one (.b (decide (Cog p n f)))) [] := by
 by_cases hS : CShp p n f
 ·obtain ⟨m, rfl⟩ : ∃ m : Nat, n = (m : Int) := ⟨n.toNat, by have := hS.1.2.1; omega⟩
  by_cases hA : ∀ t : Nat, t < m * m * m * m → CoaT p m f t
  ·have e : decide (Cog p m f) = decide (∀ i, i < m → Cou p m f i) :=
    decide_eq_decide.2 ⟨fun q i hi => q.2.1 i (by omega), fun q => ⟨hS, fun i hi => q i (by omega), hA⟩⟩
   rw [e]; exact i_IsCoalgebra_t_ok B E hS hA
  ·rw [decide_eq_false fun q : Cog p m f => hA q.2.2]
   obtain ⟨a, ⟨h1, h2⟩, h3⟩ := least (q := fun t => t < m * m * m * m ∧ ¬ CoaT p m f t) (by
    simp only [Classical.not_forall] at hA
    obtain ⟨t, ht, h⟩ := hA
    exact ⟨t, ht, h⟩)
   exact i_IsCoalgebra_f_ok B E hS h1 h2 fun t ht => Classical.byContradiction fun q => h3 t ht ⟨by omega, q⟩
 ·rw [decide_eq_false fun q : Cog p n f => hS q.1]
  exact i_IsCoalgebra_s_ok B E hS

end Hf
namespace Hf
open Go Classical
variable {P : Program} {ρ : Nat → FuncId}
theorem map_id' {α : Type} {F : α → α} (h : ∀ a, F a = a) (l : List α) : l.map F = l := by
  induction l with
  | nil => rfl
  | cons x r ih => simp [h, ih]
end Hf
namespace Hf
open Go Classical
variable {P : Program} {ρ : Nat → FuncId}
theorem Tab.z {p : Int} {n : Nat} {f : By} {o i j k : Nat} (h : Tab p n f o) (hi : i < 8) (hj : j < 8) (hk : k < 8) (hz : n ≤ i ∨ n ≤ j ∨ n ≤ k) : bz f (o + i * 64 + j * 8 + k) = 0 := by
 obtain ⟨h1, h2⟩ := h i hi
 rcases hz with hz | hz | hz
 ·have := h2 (by omega) (j * 8 + k) (by omega)
  rw [← Nat.add_assoc] at this; exact this
 ·exact (h1 j hj).2 (by omega) k hk
 ·exact ((h1 j hj).1 k hk).2 (by omega)
end Hf
namespace Hf
open Go Classical
variable {P : Program} {ρ : Nat → FuncId}
/-- a call under another numbering of the blocks -/
theorem CallOK.emb {f : Nat} {as args : List At} {Hc Hc' H H' : List Blk} {v v' : Sv} (h : CallOK P ρ f as Hc v Hc') (τ : List Nat) (ha : args = as.map (mva (tau τ H.length))) (he : emb (tau τ H.length) H τ Hc) (hp : apart τ Hc = true)
  (hv : mvs (tau τ H.length) v = v') (hb : back (tau τ H.length) τ Hc Hc' H ++ (Hc'.drop Hc.length).map (fun B => ⟨B.ro, mvb (tau τ H.length) B.c⟩) = H') : CallOK P ρ f args H v' H' := by
 intro σ w hh
 have hc : vcall P ρ H f args (fun u G => u = v' ∧ G = H') := ⟨H.length, τ, as, Hc, v, Hc', H', rfl, h, ha, he, hp, hb, hv, rfl⟩
 refine (call_sound hh hc).mono ?_
 rintro e w' ⟨u, G, σ', rfl, ⟨rfl, rfl⟩, sp, hl⟩
 exact ⟨σ', rfl, sp, hl⟩

/-- the first place at which q holds, or -1 -/
def firstQ (q : Nat → Bool) : Nat → Nat → Int
  | 0, _ => -1
  | n + 1, i => if q i = true then (i : Int) else firstQ q n (i + 1)
theorem firstQ_none {q : Nat → Bool} : ∀ {n i : Nat}, (∀ j, i ≤ j → j < i + n → q j = false) → firstQ q n i = -1
  | 0, _, _ => rfl
  | n + 1, i, h => by
    simp only [firstQ]
    rw [if_neg (by rw [h i (Nat.le_refl _) (by omega)]; simp), firstQ_none fun j h1 h2 => h j (by omega) (by omega)]
theorem firstQ_some {q : Nat → Bool} {k : Nat} : ∀ {n i : Nat}, i ≤ k → k < i + n → q k = true → (∀ j, i ≤ j → j < k → q j = false) → firstQ q n i = (k : Int)
  | 0, _, h1, h2, _, _ => by omega
  | n + 1, i, h1, h2, h3, h4 => by
    simp only [firstQ]
    by_cases e : i = k
    · subst e; rw [if_pos h3]
    · rw [if_neg (by rw [h4 i (Nat.le_refl _) (by omega)]; simp), firstQ_some (by omega) (by omega) h3 fun j h5 h6 => h4 j (by omega) h6]
theorem firstQ_nn {q : Nat → Bool} : ∀ {n i : Nat}, (0 ≤ firstQ q n i ↔ ∃ j, i ≤ j ∧ j < i + n ∧ q j = true)
  | 0, i => by simp only [firstQ]; constructor
               · intro h; omega
               · rintro ⟨j, h1, h2, -⟩; omega
  | n + 1, i => by
    simp only [firstQ]
    by_cases h : q i = true
    · rw [if_pos h]; exact ⟨fun _ => ⟨i, Nat.le_refl _, by omega, h⟩, fun _ => by omega⟩
    · rw [if_neg h, firstQ_nn]
      constructor
      · rintro ⟨j, h1, h2, h3⟩; exact ⟨j, by omega, by omega, h3⟩
      · rintro ⟨j, h1, h2, h3⟩
        refine ⟨j, ?_, by omega, h3⟩
        rcases Nat.eq_or_lt_of_le h1 with e | e
        · subst e; exact (h h3).elim
        · omega

end Hf
namespace Hf
open Go Classical
variable {P : Program} {ρ : Nat → FuncId}
theorem i_unless_ok (B : Bs P ρ) (E : E_i_unless P ρ) {b : Bool} {c : Int} :
  CallOK P ρ 49 [.b b, .i .i64 c] [] (.one (.i .i64 (if b = true then 0 else c))) [] := by
 refine call_of_vc B.fn B.mo E rfl rfl ?_
 refine ⟨fun h5 => ?_, fun h5 => ?_⟩
 ·skip
  refine ⟨rfl, [], ?_, rfl, trivial, rfl, rfl⟩
  rw [if_pos h5]; rfl
 ·skip
  refine ⟨rfl, [], ?_, rfl, trivial, rfl, rfl⟩
  rw [if_neg (by rw [h5]; simp)]; rfl

end Hf
namespace Hf
open Go Classical
variable {P : Program} {ρ : Nat → FuncId}
theorem tmod_mod {x p : Int} (hp : 1 ≤ p) : (x.tmod p) % p = x % p := by
 have h1 := tmod_emod x p (by omega)
 by_cases h : x.tmod p < 0
 ·rw [if_pos h] at h1
  rw [← Int.emod_emod_of_dvd x (Int.dvd_refl p), ← h1, Int.add_emod_right]
 ·rw [if_neg h] at h1; rw [h1]; exact Int.emod_emod_of_dvd x (Int.dvd_refl p)
theorem s_l01In_ok (B : Bs P ρ) (E : E_s_l01In P ρ) {x a b : Int} :
  CallOK P ρ 96 [.i .i64 x, .i .i64 a, .i .i64 b] [] (.one (.b (decide (a ≤ x ∧ x ≤ b)))) [] := by
 refine call_of_vc B.fn B.mo E rfl rfl ?_
 refine ⟨fun h10 => ?_, fun h10 => ?_⟩
 ·replace h10 := of_decide_eq_true h10
  iterate 3 refine brB_t ?_
  refine ⟨rfl, [], ?_, rfl, trivial, rfl, rfl⟩
  refine one_b ?_
  by_cases h : x ≤ b
  ·rw [decide_eq_true h, decide_eq_true (⟨h10, h⟩ : a ≤ x ∧ x ≤ b)]
  ·rw [decide_eq_false h, decide_eq_false (fun q : a ≤ x ∧ x ≤ b => h q.2)]
 ·replace h10 := of_decide_eq_false h10
  iterate 3 refine brB_f ?_
  refine ⟨rfl, [], ?_, rfl, trivial, rfl, rfl⟩
  exact one_b (dec_f fun q => h10 q.1)

theorem s_l01Prime_ok (B : Bs P ρ) (E : E_s_l01Prime P ρ) {p : Int} :
  CallOK P ρ 95 [.i .i64 p] [] (.one (.b (decide (Pr p)))) [] := by
 refine call_of_vc B.fn B.mo E.1 rfl rfl ?_
 refine .inl ⟨(fun a0 i0 => St.mk [(0, a0), (3, .one (.i .i64 ((2 + i0 : Nat) : Int)))] []) _ , fun i0 => ∀ k : Int, 2 ≤ k → k < ((2 + i0 : Nat) : Int) → p % k ≠ 0, 30, fun _ _ => by omega, ⟨⟨rfl, rfl, trivial⟩, trivial, rfl⟩, fun i0 hi0 hF0 => ?_⟩
 refine ⟨fun h7 => ?_, fun h7 => ?_⟩
 ·replace h7 := of_decide_eq_true h7
  iterate 2 refine brB_t ?_
  refine ⟨fun h10 => ?_, fun h10 => ?_⟩
  ·replace h10 := of_decide_eq_true h10
   refine ⟨by omega, _, rfl, ?_⟩
   refine ⟨fun h16 => ?_, fun h16 => ?_⟩
   ·replace h16 := eq_of_beq h16
    rw [Int.tmod_eq_emod_of_nonneg (by omega)] at h16
    refine ⟨rfl, [], ?_, rfl, trivial, rfl, rfl⟩
    exact one_b (dec_f fun h => h.2.2 _ (by omega) h7 h16)
   ·replace h16 := ne_of_beq_false h16
    rw [Int.tmod_eq_emod_of_nonneg (by omega)] at h16
    refine ⟨((2 + i0 + 1 : Nat) : Int), w64_id _ (by omega) (by omega), ?_⟩
    refine ⟨by omega, ?_, ⟨rfl, rfl, trivial⟩, trivial, rfl⟩
    intro k hk hk2
    by_cases e : k = ((2 + i0 : Nat) : Int)
    ·rw [e]; exact h16
    ·exact hF0 k hk (by omega)
  ·replace h10 := of_decide_eq_false h10
   refine .inl ⟨0, [], _, _, _, _, [], rfl, s_l01In_ok B E.2 , rfl, trivial, rfl, rfl, ?_⟩
   refine ⟨rfl, [], ?_, rfl, trivial, rfl, rfl⟩
   exact one_b (decide_eq_decide.2 ⟨fun q => by omega, fun q => by have := q.2.1; omega⟩)
 ·replace h7 := of_decide_eq_false h7
  iterate 3 refine brB_f ?_
  refine .inl ⟨0, [], _, _, _, _, [], rfl, s_l01In_ok B E.2 , rfl, trivial, rfl, rfl, ?_⟩
  refine ⟨rfl, [], ?_, rfl, trivial, rfl, rfl⟩
  exact one_b (decide_eq_decide.2 ⟨fun q => ⟨q.1, q.2, fun k h1 h2 => hF0 k h1 (by omega)⟩, fun q => ⟨q.1, q.2.1⟩⟩)

theorem s_l01Sizes_ok (B : Bs P ρ) (E : E_s_l01Sizes P ρ) {p n : Int} :
  CallOK P ρ 75 [.i .i64 p, .i .i64 n] [] (.one (.b (decide (Shp p n)))) [] := by
 refine call_of_vc B.fn B.mo E.1 rfl rfl ?_
 refine .inl ⟨0, [], _, _, _, _, [], rfl, s_l01Prime_ok B E.2.1 , rfl, trivial, rfl, rfl, ?_⟩
 refine ⟨fun h7 => ?_, fun h7 => ?_⟩
 ·skip
  refine brB_t ?_
  refine .inl ⟨0, [], _, _, _, _, [], rfl, s_l01In_ok B E.2.2 , rfl, trivial, rfl, rfl, ?_⟩
  refine brB_t ?_
  refine ⟨rfl, [], ?_, rfl, trivial, rfl, rfl⟩
  exact one_b (decide_eq_decide.2 ⟨fun q => ⟨dec_elim_t h7, q⟩, fun q => q.2⟩)
 ·skip
  iterate 2 refine brB_f ?_
  refine ⟨rfl, [], ?_, rfl, trivial, rfl, rfl⟩
  exact one_b (dec_f fun q => dec_elim_t' h7 q.1)

theorem s_l01Vector_ok (B : Bs P ρ) (E : E_s_l01Vector P ρ) {p n : Int} {v : By} :
  CallOK P ρ 53 [.i .i64 p, .i .i64 n, .ag [] 8 v] [] (.one (.b (decide (Vec p n v 0)))) [] := by
 refine call_of_vc B.fn B.mo E rfl rfl ?_
 refine ⟨0, rfl, ?_⟩
 refine .inl ⟨(fun a0 a1 b0 i0 => St.mk [(0, a0), (1, a1), (5, .one (.pt 0 0)), (7, .one (.i .i64 ((i0 : Nat) : Int)))] [b0]) _ _ _ , fun i0 => ∀ k : Nat, k < i0 → bz v k < p ∧ (n ≤ k → bz v k = 0), 8, fun _ _ => by omega, ⟨⟨rfl, rfl, rfl, rfl, trivial⟩, ⟨rfl, trivial⟩, rfl⟩, fun i0 hi0 hF0 => ?_⟩
 refine ⟨fun h9 => ?_, fun h9 => ?_⟩
 ·replace h9 := of_decide_eq_true h9
  refine ⟨i0, i0, rfl, by omega, by omega, ?_⟩
  refine ⟨⟨by first | omega | (simp <;> omega), by first | omega | (simp <;> omega)⟩, ?_⟩
  refine ⟨fun h18 => ?_, fun h18 => ?_⟩
  ·replace h18 := of_decide_eq_true h18
   iterate 6 refine brB_t ?_
   refine ⟨rfl, [], ?_, rfl, trivial, rfl, rfl⟩
   exact one_b (dec_f fun q => by have := (q i0 (by omega)).1; rw [Nat.zero_add] at this; simp [bz] at this h18; omega)
  ·replace h18 := of_decide_eq_false h18
   iterate 3 refine brB_f ?_
   refine ⟨fun h22 => ?_, fun h22 => ?_⟩
   ·replace h22 := of_decide_eq_true h22
    refine brB_t ?_
    refine ⟨i0, i0, rfl, by omega, by omega, ?_⟩
    refine brB_t ?_
    refine ⟨⟨by first | omega | (simp <;> omega), by first | omega | (simp <;> omega)⟩, ?_⟩
    refine brB_t ?_
    refine brB_f ?_
    refine brB_t ?_
    refine brB_f ?_
    refine ⟨fun h28 => ?_, fun h28 => ?_⟩
    ·replace h28 := bne_t h28
     refine ⟨rfl, [], ?_, rfl, trivial, rfl, rfl⟩
     exact one_b (dec_f fun q => by have := (q i0 (by omega)).2 (by omega); rw [Nat.zero_add, bz_eq0] at this; exact h28 this)
    ·replace h28 := bne_f h28
     refine ⟨((i0 + 1 : Nat) : Int), w64_id _ (by omega) (by omega), ?_⟩
     refine ⟨by omega, ?_, ⟨rfl, rfl, rfl, rfl, trivial⟩, ⟨rfl, trivial⟩, rfl⟩
     intro k hk
     by_cases e : k = i0
     ·subst e
      simp [bz] at h18 ⊢
      exact ⟨h18, fun _ => by rw [h28]; rfl⟩
     ·exact hF0 k (by omega)
   ·replace h22 := of_decide_eq_false h22
    iterate 7 refine brB_f ?_
    refine ⟨((i0 + 1 : Nat) : Int), w64_id _ (by omega) (by omega), ?_⟩
    refine ⟨by omega, ?_, ⟨rfl, rfl, rfl, rfl, trivial⟩, ⟨rfl, trivial⟩, rfl⟩
    intro k hk
    by_cases e : k = i0
    ·subst e
     simp [bz] at h18 ⊢
     exact ⟨h18, fun q => by omega⟩
    ·exact hF0 k (by omega)
 ·replace h9 := of_decide_eq_false h9
  have e0 : 8 = i0 := by omega
  subst e0
  refine ⟨rfl, [], ?_, rfl, trivial, rfl, rfl⟩
  exact one_b (dec_t fun k hk => by rw [Nat.zero_add]; exact hF0 k hk)

theorem s_l01Linear_ok (B : Bs P ρ) (E : E_s_l01Linear P ρ) {p n : Int} {v : By} :
  CallOK P ρ 64 [.i .i64 p, .i .i64 n, .ag [] 64 v] [] (.one (.b (decide (Lin p n n v 0)))) [] := by
 refine call_of_vc B.fn B.mo E.1 rfl rfl ?_
 refine ⟨0, rfl, ?_⟩
 refine .inl ⟨(fun a0 a1 b0 i0 => St.mk [(0, a0), (1, a1), (5, .one (.pt 0 0)), (7, .one (.i .i64 ((i0 : Nat) : Int)))] [b0]) _ _ _ , fun i0 => ∀ i : Nat, i < i0 → Vec p n v (i * 8) ∧ (n ≤ i → ∀ k : Nat, k < 8 → bz v (i * 8 + k) = 0), 8, fun _ _ => by omega, ⟨⟨rfl, rfl, rfl, rfl, trivial⟩, ⟨rfl, trivial⟩, rfl⟩, fun i0 hi0 hF0 => ?_⟩
 refine ⟨fun h9 => ?_, fun h9 => ?_⟩
 ·replace h9 := of_decide_eq_true h9
  refine ⟨i0, i0 * 8, rfl, by omega, by omega, ?_⟩
  refine ⟨⟨by first | omega | (simp <;> omega), by first | omega | (simp <;> omega)⟩, ?_⟩
  refine .inl ⟨1, [], _, _, _, _, [_], rfl, s_l01Vector_ok B E.2 , rfl, trivial, rfl, rfl, ?_⟩
  refine ⟨fun h19 => ?_, fun h19 => ?_⟩
  ·skip
   have h19' : ¬ Vec p n v (i0 * 8) := fun q => dec_elim_t' (not_t h19) ((Vec_sh (a := i0 * 8) (o := 0)).2 q)
   iterate 6 refine brB_t ?_
   refine ⟨rfl, [], ?_, rfl, trivial, rfl, rfl⟩
   exact one_b (dec_f fun q => h19' (by have := (q i0 (by omega)).1; rw [Nat.zero_add] at this; exact this))
  ·skip
   have h19' : Vec p n v (i0 * 8) := (Vec_sh (a := i0 * 8) (o := 0)).1 (dec_elim_t (not_f h19))
   iterate 3 refine brB_f ?_
   refine ⟨fun h23 => ?_, fun h23 => ?_⟩
   ·replace h23 := of_decide_eq_true h23
    refine brB_t ?_
    refine ⟨i0, i0 * 8, rfl, by omega, by omega, ?_⟩
    refine brB_t ?_
    refine ⟨⟨by first | omega | (simp <;> omega), by first | omega | (simp <;> omega)⟩, ?_⟩
    iterate 2 refine brB_t ?_
    refine brB_f ?_
    refine brB_t ?_
    refine brB_f ?_
    refine ⟨fun h30 => ?_, fun h30 => ?_⟩
    ·skip
     refine ⟨rfl, [], ?_, rfl, trivial, rfl, rfl⟩
     refine one_b (dec_f fun q => ?_)
     have := (q i0 (by omega)).2 (by omega)
     rw [Nat.zero_add] at this
     have := eqB_z.2 this
     erw [this] at h30; cases h30
    ·skip
     refine ⟨((i0 + 1 : Nat) : Int), w64_id _ (by omega) (by omega), ?_⟩
     refine ⟨by omega, ?_, ⟨rfl, rfl, rfl, rfl, trivial⟩, ⟨rfl, trivial⟩, rfl⟩
     intro i hi
     by_cases e : i = i0
     ·subst e
      exact ⟨h19', fun _ => eqB_z.1 (by simpa using h30)⟩
     ·exact hF0 i (by omega)
   ·replace h23 := of_decide_eq_false h23
    iterate 8 refine brB_f ?_
    refine ⟨((i0 + 1 : Nat) : Int), w64_id _ (by omega) (by omega), ?_⟩
    refine ⟨by omega, ?_, ⟨rfl, rfl, rfl, rfl, trivial⟩, ⟨rfl, trivial⟩, rfl⟩
    intro i hi
    by_cases e : i = i0
    ·subst e
     exact ⟨h19', fun q => by omega⟩
    ·exact hF0 i (by omega)
 ·replace h9 := of_decide_eq_false h9
  have e0 : 8 = i0 := by omega
  subst e0
  refine ⟨rfl, [], ?_, rfl, trivial, rfl, rfl⟩
  exact one_b (dec_t fun i hi => by rw [Nat.zero_add]; exact hF0 i hi)

theorem s_l01Table_ok (B : Bs P ρ) (E : E_s_l01Table P ρ) {p n : Int} {v : By} :
  CallOK P ρ 63 [.i .i64 p, .i .i64 n, .ag [] 512 v] [] (.one (.b (decide (Tab p n v 0)))) [] := by
 refine call_of_vc B.fn B.mo E.1 rfl rfl ?_
 refine ⟨0, rfl, ?_⟩
 refine .inl ⟨(fun a0 a1 b0 i0 => St.mk [(0, a0), (1, a1), (5, .one (.pt 0 0)), (7, .one (.i .i64 ((i0 : Nat) : Int)))] [b0]) _ _ _ , fun i0 => ∀ i : Nat, i < i0 → Lin p n n v (i * 64) ∧ (n ≤ i → ∀ k : Nat, k < 64 → bz v (i * 64 + k) = 0), 8, fun _ _ => by omega, ⟨⟨rfl, rfl, rfl, rfl, trivial⟩, ⟨rfl, trivial⟩, rfl⟩, fun i0 hi0 hF0 => ?_⟩
 refine ⟨fun h9 => ?_, fun h9 => ?_⟩
 ·replace h9 := of_decide_eq_true h9
  refine ⟨i0, i0 * 64, rfl, by omega, by omega, ?_⟩
  refine ⟨⟨by first | omega | (simp <;> omega), by first | omega | (simp <;> omega)⟩, ?_⟩
  refine .inl ⟨1, [], _, _, _, _, [_], rfl, s_l01Linear_ok B E.2 , rfl, trivial, rfl, rfl, ?_⟩
  refine ⟨fun h19 => ?_, fun h19 => ?_⟩
  ·skip
   have h19' : ¬ Lin p n n v (i0 * 64) := fun q => dec_elim_t' (not_t h19) ((Lin_sh (a := i0 * 64) (o := 0)).2 q)
   iterate 6 refine brB_t ?_
   refine ⟨rfl, [], ?_, rfl, trivial, rfl, rfl⟩
   exact one_b (dec_f fun q => h19' (by have := (q i0 (by omega)).1; rw [Nat.zero_add] at this; exact this))
  ·skip
   have h19' : Lin p n n v (i0 * 64) := (Lin_sh (a := i0 * 64) (o := 0)).1 (dec_elim_t (not_f h19))
   iterate 3 refine brB_f ?_
   refine ⟨fun h23 => ?_, fun h23 => ?_⟩
   ·replace h23 := of_decide_eq_true h23
    refine brB_t ?_
    refine ⟨i0, i0 * 64, rfl, by omega, by omega, ?_⟩
    refine brB_t ?_
    refine ⟨⟨by first | omega | (simp <;> omega), by first | omega | (simp <;> omega)⟩, ?_⟩
    iterate 2 refine brB_t ?_
    refine brB_f ?_
    refine brB_t ?_
    refine brB_f ?_
    refine ⟨fun h30 => ?_, fun h30 => ?_⟩
    ·skip
     refine ⟨rfl, [], ?_, rfl, trivial, rfl, rfl⟩
     refine one_b (dec_f fun q => ?_)
     have := (q i0 (by omega)).2 (by omega)
     rw [Nat.zero_add] at this
     have := eqB_z.2 this
     erw [this] at h30; cases h30
    ·skip
     refine ⟨((i0 + 1 : Nat) : Int), w64_id _ (by omega) (by omega), ?_⟩
     refine ⟨by omega, ?_, ⟨rfl, rfl, rfl, rfl, trivial⟩, ⟨rfl, trivial⟩, rfl⟩
     intro i hi
     by_cases e : i = i0
     ·subst e
      exact ⟨h19', fun _ => eqB_z.1 (by simpa using h30)⟩
     ·exact hF0 i (by omega)
   ·replace h23 := of_decide_eq_false h23
    iterate 8 refine brB_f ?_
    refine ⟨((i0 + 1 : Nat) : Int), w64_id _ (by omega) (by omega), ?_⟩
    refine ⟨by omega, ?_, ⟨rfl, rfl, rfl, rfl, trivial⟩, ⟨rfl, trivial⟩, rfl⟩
    intro i hi
    by_cases e : i = i0
    ·subst e
     exact ⟨h19', fun q => by omega⟩
    ·exact hF0 i (by omega)
 ·replace h9 := of_decide_eq_false h9
  have e0 : 8 = i0 := by omega
  subst e0
  refine ⟨rfl, [], ?_, rfl, trivial, rfl, rfl⟩
  exact one_b (dec_t fun i hi => by rw [Nat.zero_add]; exact hF0 i hi)

theorem s_l01Shape_ok (B : Bs P ρ) (E : E_s_l01Shape P ρ) {p n : Int} {f : By} :
  CallOK P ρ 62 [.ag [p, n] 522 f] [] (.one (.b (decide (AShp p n f)))) [] := by
 refine call_of_vc B.fn B.mo E.1 rfl rfl ?_
 refine ⟨0, rfl, ?_⟩
 refine .inl ⟨1, [], _, _, _, _, [_], rfl, s_l01Sizes_ok B E.2.1 , rfl, trivial, rfl, rfl, ?_⟩
 refine ⟨fun h8 => ?_, fun h8 => ?_⟩
 ·skip
  have h8' := dec_elim_t h8
  iterate 5 refine brB_t ?_
  refine ⟨⟨by first | omega | (simp <;> omega), by first | omega | (simp <;> omega)⟩, ?_⟩
  refine brB_t ?_
  refine .inl ⟨1, [], _, _, _, _, [_], rfl, s_l01Vector_ok B E.2.2.1 , rfl, trivial, rfl, rfl, ?_⟩
  refine brB_t ?_
  refine ⟨fun h17 => ?_, fun h17 => ?_⟩
  ·skip
   have h17' : Vec p n f 2 := (Vec_sh (a := 2) (o := 0)).1 (dec_elim_t h17)
   iterate 5 refine brB_t ?_
   refine ⟨⟨by first | omega | (simp <;> omega), by first | omega | (simp <;> omega)⟩, ?_⟩
   refine brB_t ?_
   refine .inl ⟨1, [], _, _, _, _, [_], rfl, s_l01Table_ok B E.2.2.2 , rfl, trivial, rfl, rfl, ?_⟩
   refine brB_t ?_
   refine ⟨rfl, [], ?_, rfl, trivial, rfl, rfl⟩
   exact one_b (decide_eq_decide.2 ⟨fun q => ⟨h8', h17', (Tab_sh (a := 10) (o := 0)).1 q⟩, fun q => (Tab_sh (a := 10) (o := 0)).2 q.2.2⟩)
  ·skip
   iterate 7 refine brB_f ?_
   refine ⟨rfl, [], ?_, rfl, trivial, rfl, rfl⟩
   exact one_b (dec_f fun q => dec_elim_t' h17 ((Vec_sh (a := 2) (o := 0)).2 q.2.1))
 ·skip
  iterate 15 refine brB_f ?_
  refine ⟨rfl, [], ?_, rfl, trivial, rfl, rfl⟩
  exact one_b (dec_f fun q => dec_elim_t' h8 q.1)

theorem s_l02Shape_ok (B : Bs P ρ) (E : E_s_l02Shape P ρ) {p n : Int} {f : By} :
  CallOK P ρ 98 [.ag [p, n] 522 f] [] (.one (.b (decide (CShp p n f)))) [] := by
 refine call_of_vc B.fn B.mo E.1 rfl rfl ?_
 refine ⟨0, rfl, ?_⟩
 refine .inl ⟨1, [], _, _, _, _, [_], rfl, s_l01Sizes_ok B E.2.1 , rfl, trivial, rfl, rfl, ?_⟩
 refine ⟨fun h8 => ?_, fun h8 => ?_⟩
 ·skip
  have h8' := dec_elim_t h8
  iterate 5 refine brB_t ?_
  refine ⟨⟨by first | omega | (simp <;> omega), by first | omega | (simp <;> omega)⟩, ?_⟩
  refine brB_t ?_
  refine .inl ⟨1, [], _, _, _, _, [_], rfl, s_l01Vector_ok B E.2.2.1 , rfl, trivial, rfl, rfl, ?_⟩
  refine brB_t ?_
  refine ⟨fun h17 => ?_, fun h17 => ?_⟩
  ·skip
   have h17' : Vec p n f 2 := (Vec_sh (a := 2) (o := 0)).1 (dec_elim_t h17)
   iterate 5 refine brB_t ?_
   refine ⟨⟨by first | omega | (simp <;> omega), by first | omega | (simp <;> omega)⟩, ?_⟩
   refine brB_t ?_
   refine .inl ⟨1, [], _, _, _, _, [_], rfl, s_l01Table_ok B E.2.2.2 , rfl, trivial, rfl, rfl, ?_⟩
   refine brB_t ?_
   refine ⟨rfl, [], ?_, rfl, trivial, rfl, rfl⟩
   exact one_b (decide_eq_decide.2 ⟨fun q => ⟨h8', h17', (Tab_sh (a := 10) (o := 0)).1 q⟩, fun q => (Tab_sh (a := 10) (o := 0)).2 q.2.2⟩)
  ·skip
   iterate 7 refine brB_f ?_
   refine ⟨rfl, [], ?_, rfl, trivial, rfl, rfl⟩
   exact one_b (dec_f fun q => dec_elim_t' h17 ((Vec_sh (a := 2) (o := 0)).2 q.2.1))
 ·skip
  iterate 15 refine brB_f ?_
  refine ⟨rfl, [], ?_, rfl, trivial, rfl, rfl⟩
  exact one_b (dec_f fun q => dec_elim_t' h8 q.1)

theorem s_l01Mod_ok (B : Bs P ρ) (E : E_s_l01Mod P ρ) {p x : Int} (hp : 1 ≤ p) (hp2 : p ≤ 1000) :
  CallOK P ρ 72 [.i .i64 p, .i .i64 x] [] (.one (.u (byt (x % p)))) [] := by
 refine call_of_vc B.fn B.mo E rfl rfl ?_
 have hm := Int.tmod_lt_of_pos x (show 0 < p by omega)
 have hm2 := Int.lt_tmod_of_pos x (show 0 < p by omega)
 refine ⟨by omega, _, rfl, ?_⟩
 refine ⟨_, w64_id _ (by omega) (by omega), ?_⟩
 refine ⟨by omega, x % p, ?_, ?_⟩
 ·rw [Int.tmod_eq_emod_of_nonneg (by omega), Int.add_emod_right]
  exact tmod_mod hp
 exact ⟨rfl, [], rfl, rfl, trivial, rfl, rfl⟩

theorem s_l01Add_ok (B : Bs P ρ) (E : E_s_l01Add P ρ) {p k : Int} {v w : By} (hp : 1 ≤ p) (hp2 : p ≤ 1000) (hk : -1000000000000 ≤ k) (hk2 : k ≤ 1000000000000) :
  CallOK P ρ 57 [.i .i64 p, .ag [] 8 v, .ag [] 8 w, .i .i64 k] [] (.one (.ag [] 8 (vec 8 p fun y => bz v y + k * bz w y))) [] := by
 refine call_of_vc B.fn B.mo E.1 rfl rfl ?_
 refine ⟨0, rfl, ?_⟩
 refine ⟨1, rfl, ?_⟩
 refine ⟨2, rfl, ?_⟩
 refine .inl ⟨(fun a0 a3 b1 b2 i0 => St.mk [(0, a0), (3, a3), (5, .one (.pt 0 0)), (6, .one (.pt 1 0)), (8, .one (.pt 2 0)), (9, .one (.i .i64 ((i0 : Nat) : Int)))] [Blk.mk false (.by [] 8 (plsN p v 0 k w i0)), b1, b2]) _ _ _ _ , fun i0 => True, 8, trivial, ⟨⟨rfl, rfl, rfl, rfl, rfl, rfl, trivial⟩, ⟨?_, rfl, rfl, trivial⟩, rfl⟩, fun i0 hi0 _ => ?_⟩
 ·rw [plsN_zero]
 refine ⟨fun h11 => ?_, fun h11 => ?_⟩
 ·replace h11 := of_decide_eq_true h11
  have b1 := mul_bd (A := 1000000000000) (B := 255) (a := k) (b := bz w i0) (by omega) (by omega) (bz_nn _ _) (bz_le _ _)
  have b2 := bz_nn v i0
  have b3 := bz_le v i0
  refine ⟨i0, i0, rfl, by omega, by omega, ?_⟩
  refine ⟨⟨by first | omega | (simp <;> omega), by first | omega | (simp <;> omega)⟩, ?_⟩
  refine ⟨i0, i0, rfl, by omega, by omega, ?_⟩
  refine ⟨⟨by first | omega | (simp <;> omega), by first | omega | (simp <;> omega)⟩, ?_⟩
  refine ⟨k * bz w i0, w64_id (k * bz w i0) (by omega) (by omega), ?_⟩
  refine ⟨bz v i0 + k * bz w i0, ?_, ?_⟩
  ·show w64 (bz (plsN p v 0 k w i0) i0 + _) = _
   have : bz (plsN p v 0 k w i0) i0 = bz v i0 := by simp only [bz, plsN]; rw [if_neg (by omega)]
   rw [this]
   exact w64_id _ (by omega) (by omega)
  refine ⟨3, [], _, _, _, _, [_, _, _], rfl, s_l01Mod_ok B E.2 hp hp2, rfl, trivial, rfl, rfl, rfl, ?_⟩
  refine ⟨i0, 0 + i0, rfl, by omega, by omega, ?_⟩
  refine ⟨⟨by first | omega | (simp <;> omega), by first | omega | (simp <;> omega)⟩, ?_⟩   -- st8 ['.t', 28] ['.t', 27]
  refine ⟨((i0 + 1 : Nat) : Int), w64_id _ (by omega) (by omega), ?_⟩
  refine ⟨by omega, trivial, ⟨rfl, rfl, rfl, rfl, rfl, rfl, trivial⟩, ⟨?_, rfl, rfl, trivial⟩, rfl⟩
  have := plsN_succ (p := p) (f := v) (off := 0) (k := k) (w := w) (m := i0)
  rw [Nat.zero_add] at this
  refine blk_by ?_
  rw [Nat.zero_add]
  exact this.symm
 ·replace h11 := of_decide_eq_false h11
  have e0 : 8 = i0 := by omega
  subst e0
  refine ⟨⟨by first | omega | (simp <;> omega), by first | omega | (simp <;> omega)⟩, ?_⟩
  refine ⟨⟨rfl, by first | omega | (simp <;> omega), by first | omega | (simp <;> omega)⟩, ?_⟩   -- sta ['.t', 8] ['.t', 29] 8
  refine ⟨rfl, ⟨by first | omega | (simp <;> omega), by first | omega | (simp <;> omega)⟩, [], ?_, rfl, trivial, rfl, rfl⟩
  refine one_ag (out_eq (fun y hy => ?_) fun _ h => vec_out h)
  simp only [plsN, vec]
  rw [if_pos (by omega), if_pos hy]
  rfl


end Hf
namespace Hf
open Go Classical
variable {P : Program} {ρ : Nat → FuncId}
theorem spl_plsN {p k : Int} {f w : By} {a : Nat} : spl f a 8 (vec 8 p fun y => bz (sh f a) y + k * bz w y) = plsN p f a k w 8 := by
 funext x
 simp only [spl, plsN]
 by_cases h : a ≤ x ∧ x < a + 8
 ·rw [if_pos h, if_pos h]
  simp only [vec]
  rw [if_pos (by omega), bz_sh, show a + (x - a) = x by omega]
 ·rw [if_neg h, if_neg h]
theorem z0_of {v : By} {i : Nat} (h : v i = 0) : bz v i = 0 := u_eq0.1 h

theorem s_l01Basis_ok (B : Bs P ρ) (E : E_s_l01Basis P ρ) {i : Nat} (hi : i < 8) :
  CallOK P ρ 55 [.i .i64 (i : Int)] [] (.one (.ag [] 8 (bas i))) [] := by
 refine call_of_vc B.fn B.mo E rfl rfl ?_
 refine ⟨0, rfl, ?_⟩
 refine ⟨1, rfl, ?_⟩
 refine ⟨⟨rfl, by first | omega | (simp <;> omega), by first | omega | (simp <;> omega)⟩, ?_⟩   -- sta ['.t', 3] ['.t', 4] 8
 refine ⟨i, i, rfl, by omega, by omega, ?_⟩
 refine ⟨⟨by first | omega | (simp <;> omega), by first | omega | (simp <;> omega)⟩, ?_⟩   -- st8 ['.t', 6] ['.c', ['.u', 1]]
 refine ⟨⟨by first | omega | (simp <;> omega), by first | omega | (simp <;> omega)⟩, ?_⟩
 refine ⟨⟨rfl, by first | omega | (simp <;> omega), by first | omega | (simp <;> omega)⟩, ?_⟩   -- sta ['.t', 2] ['.t', 7] 8
 refine ⟨rfl, ⟨by first | omega | (simp <;> omega), by first | omega | (simp <;> omega)⟩, [], ?_, rfl, trivial, rfl, rfl⟩
 refine one_ag (out_eq (fun k hk => ?_) fun k hk => ?_)
 ·simp only [upd, spl, bas]
  by_cases e : k = i <;> simp [e]
 ·simp only [bas]; rw [if_neg (by omega)]

theorem s_l01Apply_ok (B : Bs P ρ) (E : E_s_l01Apply P ρ) {p : Int} {n : Nat} {f v : By} (hp : 1 ≤ p) (hp2 : p ≤ 256) (hn : n ≤ 8) :
  CallOK P ρ 51 [.i .i64 p, .i .i64 (n : Int), .ag [] 64 f, .ag [] 8 v] [] (.one (.ag [] 8 (vec 8 p fun y => sm n fun i => bz v i * bz f (i * 8 + y)))) [] := by
 refine call_of_vc B.fn B.mo E.1 rfl rfl ?_
 refine ⟨0, rfl, ?_⟩
 refine ⟨1, rfl, ?_⟩
 refine ⟨2, rfl, ?_⟩
 refine ⟨3, rfl, ?_⟩
 refine ⟨⟨rfl, by first | omega | (simp <;> omega), by first | omega | (simp <;> omega)⟩, ?_⟩   -- sta ['.t', 9] ['.t', 11] 8
 refine .inl ⟨(fun a0 a1 b0 b1 b2 i0 => St.mk [(0, a0), (1, a1), (6, .one (.pt 0 0)), (7, .one (.pt 1 0)), (8, .one (.pt 2 0)), (9, .one (.pt 3 0)), (10, .one (.i .i64 ((i0 : Nat) : Int)))] [b0, b1, b2, Blk.mk false (.by [] 8 (vec 8 p fun y => sm i0 fun i => bz v i * bz f (i * 8 + y)))]) _ _ _ _ _ , fun i0 => True, n, trivial, ⟨⟨rfl, rfl, rfl, rfl, rfl, rfl, rfl, trivial⟩, ⟨rfl, rfl, rfl, ?_, trivial⟩, rfl⟩, fun i0 hi0 _ => ?_⟩
 ·refine blk_by ?_
  rw [z_sta]
  exact vec_0.symm
 have q0 := bz_nn v i0
 have q1 := bz_le v i0
 refine ⟨fun h14 => ?_, fun h14 => ?_⟩
 ·replace h14 := of_decide_eq_true h14
  refine ⟨i0, i0, rfl, by omega, by omega, ?_⟩
  refine ⟨⟨by first | omega | (simp <;> omega), by first | omega | (simp <;> omega)⟩, ?_⟩
  refine ⟨fun h20 => ?_, fun h20 => ?_⟩
  ·replace h20 := bne_t h20
   refine ⟨⟨by first | omega | (simp <;> omega), by first | omega | (simp <;> omega)⟩, ?_⟩
   refine ⟨i0, i0 * 8, rfl, by omega, by omega, ?_⟩
   refine ⟨⟨by first | omega | (simp <;> omega), by first | omega | (simp <;> omega)⟩, ?_⟩
   refine ⟨i0, i0, rfl, by omega, by omega, ?_⟩
   refine ⟨⟨by first | omega | (simp <;> omega), by first | omega | (simp <;> omega)⟩, ?_⟩
   refine .inl ⟨4, [], _, _, _, _, [_, _, _, _], rfl, s_l01Add_ok B E.2 (k := bz v i0) hp (by omega) (by omega) (by omega), rfl, trivial, rfl, rfl, ?_⟩
   refine ⟨⟨rfl, by first | omega | (simp <;> omega), by first | omega | (simp <;> omega)⟩, ?_⟩   -- sta ['.t', 9] ['.t', 30] 8
   refine ⟨((i0 + 1 : Nat) : Int), w64_id _ (by omega) (by omega), ?_⟩
   refine ⟨by omega, trivial, ⟨rfl, rfl, rfl, rfl, rfl, rfl, rfl, trivial⟩, ⟨rfl, rfl, rfl, ?_, trivial⟩, rfl⟩
   refine blk_by ?_
   rw [spl_plsN, pl_vec0 hp hp2]
   exact vec_congr fun y _ => cg_of_eq rfl
  ·replace h20 := bne_f h20
   refine ⟨((i0 + 1 : Nat) : Int), w64_id _ (by omega) (by omega), ?_⟩
   refine ⟨by omega, trivial, ⟨rfl, rfl, rfl, rfl, rfl, rfl, rfl, trivial⟩, ⟨rfl, rfl, rfl, ?_, trivial⟩, rfl⟩
   refine blk_by (vec_congr fun y _ => cg_of_eq ?_)
   simp only [sm]
   rw [z0_of h20, Int.zero_mul, Int.add_zero]
 ·replace h14 := of_decide_eq_false h14
  have e0 : n = i0 := by omega
  subst e0
  refine ⟨⟨by first | omega | (simp <;> omega), by first | omega | (simp <;> omega)⟩, ?_⟩
  refine ⟨⟨rfl, by first | omega | (simp <;> omega), by first | omega | (simp <;> omega)⟩, ?_⟩   -- sta ['.t', 8] ['.t', 31] 8
  refine ⟨rfl, ⟨by first | omega | (simp <;> omega), by first | omega | (simp <;> omega)⟩, [], ?_, rfl, trivial, rfl, rfl⟩
  exact one_ag out_vec

theorem s_l01Times_ok (B : Bs P ρ) (E : E_s_l01Times P ρ) {p : Int} {n : Nat} {f v w : By} (hp : 1 ≤ p) (hp2 : p ≤ 256) (hn : n ≤ 8) :
  CallOK P ρ 56 [.ag [p, (n : Int)] 522 f, .ag [] 8 v, .ag [] 8 w] [] (.one (.ag [] 8 (vec 8 p (prd n f 10 v w)))) [] := by
 refine call_of_vc B.fn B.mo E.1 rfl rfl ?_
 refine ⟨0, rfl, ?_⟩
 refine ⟨1, rfl, ?_⟩
 refine ⟨2, rfl, ?_⟩
 refine ⟨3, rfl, ?_⟩
 refine ⟨4, rfl, ?_⟩
 refine ⟨⟨rfl, by first | omega | (simp <;> omega), by first | omega | (simp <;> omega)⟩, ?_⟩   -- sta ['.t', 7] ['.t', 9] 8
 refine .inl ⟨(fun b0 b1 b2 b3 i0 => St.mk [(3, .one (.pt 0 0)), (4, .one (.pt 1 0)), (5, .one (.pt 2 0)), (6, .one (.pt 3 0)), (7, .one (.pt 4 0)), (8, .one (.i .i64 ((i0 : Nat) : Int)))] [b0, b1, b2, b3, Blk.mk false (.by [] 8 (vec 8 p fun k => sm i0 fun i => sm n fun j => bz v i * bz w j * bz f (10 + i * 64 + j * 8 + k)))]) _ _ _ _ , fun i0 => True, n, trivial, ⟨⟨rfl, rfl, rfl, rfl, rfl, rfl, trivial⟩, ⟨rfl, rfl, rfl, rfl, ?_, trivial⟩, rfl⟩, fun i0 hi0 _ => ?_⟩
 ·refine blk_by ?_
  rw [z_sta]
  exact vec_0.symm
 have q0 := bz_nn v i0
 have q1 := bz_le v i0
 refine ⟨fun h13 => ?_, fun h13 => ?_⟩
 ·replace h13 := of_decide_eq_true h13
  refine ⟨i0, i0, rfl, by omega, by omega, ?_⟩
  refine ⟨⟨by first | omega | (simp <;> omega), by first | omega | (simp <;> omega)⟩, ?_⟩
  refine ⟨fun h19 => ?_, fun h19 => ?_⟩
  ·replace h19 := bne_t h19
   refine ⟨⟨by first | omega | (simp <;> omega), by first | omega | (simp <;> omega)⟩, ?_⟩
   refine ⟨i0, 10 + i0 * 64, rfl, by omega, by omega, ?_⟩
   refine ⟨⟨by first | omega | (simp <;> omega), by first | omega | (simp <;> omega)⟩, ?_⟩
   refine ⟨⟨by first | omega | (simp <;> omega), by first | omega | (simp <;> omega)⟩, ?_⟩
   refine ⟨5, [], _, _, _, _, [_, _, _, _, _], rfl, s_l01Apply_ok B E.2.1 hp hp2 hn, rfl, trivial, rfl, rfl, rfl, ?_⟩
   refine ⟨i0, i0, rfl, by omega, by omega, ?_⟩
   refine ⟨⟨by first | omega | (simp <;> omega), by first | omega | (simp <;> omega)⟩, ?_⟩
   refine .inl ⟨5, [], _, _, _, _, [_, _, _, _, _], rfl, s_l01Add_ok B E.2.2 (k := bz v i0) hp (by omega) (by omega) (by omega), rfl, trivial, rfl, rfl, ?_⟩
   refine ⟨⟨rfl, by first | omega | (simp <;> omega), by first | omega | (simp <;> omega)⟩, ?_⟩   -- sta ['.t', 7] ['.t', 37] 8
   refine ⟨((i0 + 1 : Nat) : Int), w64_id _ (by omega) (by omega), ?_⟩
   refine ⟨by omega, trivial, ⟨rfl, rfl, rfl, rfl, rfl, rfl, trivial⟩, ⟨rfl, rfl, rfl, rfl, ?_, trivial⟩, rfl⟩
   refine blk_by ?_
   rw [spl_plsN, pl_vec0 hp hp2]
   refine vec_congr fun y hy => cg.symm (cg_add rfl ((cg_mul rfl (cg_vec hp hp2 hy)).trans (cg_of_eq ?_)))
   rw [← sm_mul]
   refine sm_congr fun j _ => ?_
   rw [Int.mul_assoc, sh_zero, bz_sh, Nat.add_assoc (10 + i0 * 64)]
  ·replace h19 := bne_f h19
   refine ⟨((i0 + 1 : Nat) : Int), w64_id _ (by omega) (by omega), ?_⟩
   refine ⟨by omega, trivial, ⟨rfl, rfl, rfl, rfl, rfl, rfl, trivial⟩, ⟨rfl, rfl, rfl, rfl, ?_, trivial⟩, rfl⟩
   refine blk_by (vec_congr fun y _ => cg_of_eq ?_)
   show sm i0 _ + sm n _ = sm i0 _
   rw [sm_zero (n := n) fun j _ => by rw [z0_of h19, Int.zero_mul, Int.zero_mul], Int.add_zero]
 ·replace h13 := of_decide_eq_false h13
  have e0 : n = i0 := by omega
  subst e0
  refine ⟨⟨by first | omega | (simp <;> omega), by first | omega | (simp <;> omega)⟩, ?_⟩
  refine ⟨⟨rfl, by first | omega | (simp <;> omega), by first | omega | (simp <;> omega)⟩, ?_⟩   -- sta ['.t', 6] ['.t', 38] 8
  refine ⟨rfl, ⟨by first | omega | (simp <;> omega), by first | omega | (simp <;> omega)⟩, [], ?_, rfl, trivial, rfl, rfl⟩
  exact one_ag out_vec

theorem s_l01Fault_t_ok (B : Bs P ρ) (E : E_s_l01Fault P ρ) {n : Nat} {p : Int} {f : By} (hp : 1 ≤ p) (hp2 : p ≤ 256) (hn : n ≤ 8) (hA : ∀ i j k : Nat, i < n → j < n → k < n → Aso p n f i j k) :
  CallOK P ρ 97 [.ag [p, (n : Int)] 522 f] [] (.tup [.sn, .b false]) [] := by
 refine call_of_vc B.fn B.mo E.1 rfl rfl ?_
 refine ⟨0, rfl, ?_⟩
 refine .inl ⟨(fun b0 i0 => St.mk [(1, .one (.pt 0 0)), (4, .one (.i .i64 ((i0 : Nat) : Int)))] [b0]) _ , fun i0 => True, n, trivial, ⟨⟨rfl, rfl, trivial⟩, ⟨rfl, trivial⟩, rfl⟩, fun i0 hi0 _ => ?_⟩
 refine ⟨fun h10 => ?_, fun h10 => ?_⟩
 ·replace h10 := of_decide_eq_true h10
  refine .inl ⟨(fun a4 b0 i1 => St.mk [(1, .one (.pt 0 0)), (4, a4), (5, .one (.i .i64 ((i1 : Nat) : Int)))] [b0]) _ _ , fun i1 => True, n, trivial, ⟨⟨rfl, rfl, rfl, trivial⟩, ⟨rfl, trivial⟩, rfl⟩, fun i1 hi1 _ => ?_⟩
  refine ⟨fun h16 => ?_, fun h16 => ?_⟩
  ·replace h16 := of_decide_eq_true h16
   refine .inl ⟨(fun a4 a5 b0 i2 => St.mk [(1, .one (.pt 0 0)), (4, a4), (5, a5), (6, .one (.i .i64 ((i2 : Nat) : Int)))] [b0]) _ _ _ , fun i2 => True, n, trivial, ⟨⟨rfl, rfl, rfl, rfl, trivial⟩, ⟨rfl, trivial⟩, rfl⟩, fun i2 hi2 _ => ?_⟩
   refine ⟨fun h22 => ?_, fun h22 => ?_⟩
   ·replace h22 := of_decide_eq_true h22
    refine ⟨i0, 10 + i0 * 64, rfl, by omega, by omega, ?_⟩
    refine ⟨i1, 10 + i0 * 64 + i1 * 8, rfl, by omega, by omega, ?_⟩
    refine ⟨⟨by first | omega | (simp <;> omega), by first | omega | (simp <;> omega)⟩, ?_⟩
    refine ⟨1, [], _, _, _, _, [_], rfl, s_l01Basis_ok B E.2.1 (i := i2) (by omega), rfl, trivial, rfl, rfl, rfl, ?_⟩
    refine ⟨1, [], _, _, _, _, [_], rfl, s_l01Times_ok B E.2.2 hp hp2 hn, rfl, trivial, rfl, rfl, rfl, ?_⟩
    refine ⟨1, [], _, _, _, _, [_], rfl, s_l01Basis_ok B E.2.1 (i := i0) (by omega), rfl, trivial, rfl, rfl, rfl, ?_⟩
    refine ⟨i1, 10 + i1 * 64, rfl, by omega, by omega, ?_⟩
    refine ⟨i2, 10 + i1 * 64 + i2 * 8, rfl, by omega, by omega, ?_⟩
    refine ⟨⟨by first | omega | (simp <;> omega), by first | omega | (simp <;> omega)⟩, ?_⟩
    refine .inl ⟨1, [], _, _, _, _, [_], rfl, s_l01Times_ok B E.2.2 hp hp2 hn, rfl, trivial, rfl, rfl, ?_⟩
    refine ⟨fun h45 => ?_, fun h45 => ?_⟩
    ·skip
     have q := hA i0 i1 i2 (by omega) (by omega) (by omega)
     exact (neB_t h45 fun x _ => congrFun q x).elim
     skip
    ·skip
     refine ⟨((i2 + 1 : Nat) : Int), w64_id _ (by omega) (by omega), ?_⟩
     exact ⟨by omega, trivial, ⟨rfl, rfl, rfl, rfl, trivial⟩, ⟨rfl, trivial⟩, rfl⟩
   ·replace h22 := of_decide_eq_false h22
    have e2 : n = i2 := by omega
    subst e2
    refine ⟨((i1 + 1 : Nat) : Int), w64_id _ (by omega) (by omega), ?_⟩
    exact ⟨by omega, trivial, ⟨rfl, rfl, rfl, trivial⟩, ⟨rfl, trivial⟩, rfl⟩
  ·replace h16 := of_decide_eq_false h16
   have e1 : n = i1 := by omega
   subst e1
   refine ⟨((i0 + 1 : Nat) : Int), w64_id _ (by omega) (by omega), ?_⟩
   exact ⟨by omega, trivial, ⟨rfl, rfl, trivial⟩, ⟨rfl, trivial⟩, rfl⟩
 ·replace h10 := of_decide_eq_false h10
  have e0 : n = i0 := by omega
  subst e0
  exact ⟨rfl, [], rfl, rfl, trivial, rfl, rfl⟩

theorem s_l01Fault_f_ok (B : Bs P ρ) (E : E_s_l01Fault P ρ) {n : Nat} {p : Int} {f : By} {a b c : Nat} (hp : 1 ≤ p) (hp2 : p ≤ 256) (hn : n ≤ 8) (hA : Fst n (fun i j k => ¬ Aso p n f i j k) a b c) :
  CallOK P ρ 97 [.ag [p, (n : Int)] 522 f] [] (.tup [.sl 0 0 3 3, .b true]) [⟨false, .rw [.i .i64 (a : Int), .i .i64 (b : Int), .i .i64 (c : Int)]⟩] := by
 refine call_of_vc B.fn B.mo E.1 rfl rfl ?_
 refine ⟨0, rfl, ?_⟩
 refine .inl ⟨(fun b0 i0 => St.mk [(1, .one (.pt 0 0)), (4, .one (.i .i64 ((i0 : Nat) : Int)))] [b0]) _ , fun i0 => ∀ i, i < i0 → ∀ j, j < n → ∀ k, k < n → Aso p n f i j k, n, fun _ _ => by omega, ⟨⟨rfl, rfl, trivial⟩, ⟨rfl, trivial⟩, rfl⟩, fun i0 hi0 hF0 => ?_⟩
 refine ⟨fun h10 => ?_, fun h10 => ?_⟩
 ·replace h10 := of_decide_eq_true h10
  refine .inl ⟨(fun a4 b0 i1 => St.mk [(1, .one (.pt 0 0)), (4, a4), (5, .one (.i .i64 ((i1 : Nat) : Int)))] [b0]) _ _ , fun i1 => ∀ j, j < i1 → ∀ k, k < n → Aso p n f i0 j k, n, fun _ _ => by omega, ⟨⟨rfl, rfl, rfl, trivial⟩, ⟨rfl, trivial⟩, rfl⟩, fun i1 hi1 hF1 => ?_⟩
  refine ⟨fun h16 => ?_, fun h16 => ?_⟩
  ·replace h16 := of_decide_eq_true h16
   refine .inl ⟨(fun a4 a5 b0 i2 => St.mk [(1, .one (.pt 0 0)), (4, a4), (5, a5), (6, .one (.i .i64 ((i2 : Nat) : Int)))] [b0]) _ _ _ , fun i2 => ∀ k, k < i2 → Aso p n f i0 i1 k, n, fun _ _ => by omega, ⟨⟨rfl, rfl, rfl, rfl, trivial⟩, ⟨rfl, trivial⟩, rfl⟩, fun i2 hi2 hF2 => ?_⟩
   refine ⟨fun h22 => ?_, fun h22 => ?_⟩
   ·replace h22 := of_decide_eq_true h22
    refine ⟨i0, 10 + i0 * 64, rfl, by omega, by omega, ?_⟩
    refine ⟨i1, 10 + i0 * 64 + i1 * 8, rfl, by omega, by omega, ?_⟩
    refine ⟨⟨by first | omega | (simp <;> omega), by first | omega | (simp <;> omega)⟩, ?_⟩
    refine ⟨1, [], _, _, _, _, [_], rfl, s_l01Basis_ok B E.2.1 (i := i2) (by omega), rfl, trivial, rfl, rfl, rfl, ?_⟩
    refine ⟨1, [], _, _, _, _, [_], rfl, s_l01Times_ok B E.2.2 hp hp2 hn, rfl, trivial, rfl, rfl, rfl, ?_⟩
    refine ⟨1, [], _, _, _, _, [_], rfl, s_l01Basis_ok B E.2.1 (i := i0) (by omega), rfl, trivial, rfl, rfl, rfl, ?_⟩
    refine ⟨i1, 10 + i1 * 64, rfl, by omega, by omega, ?_⟩
    refine ⟨i2, 10 + i1 * 64 + i2 * 8, rfl, by omega, by omega, ?_⟩
    refine ⟨⟨by first | omega | (simp <;> omega), by first | omega | (simp <;> omega)⟩, ?_⟩
    refine .inl ⟨1, [], _, _, _, _, [_], rfl, s_l01Times_ok B E.2.2 hp hp2 hn, rfl, trivial, rfl, rfl, ?_⟩
    refine ⟨fun h45 => ?_, fun h45 => ?_⟩
    ·skip
     have q : ¬ Aso p n f i0 i1 i2 := fun q => neB_t h45 fun x _ => congrFun q x
     have q2 : Fst n (fun i j k => ¬ Aso p n f i j k) i0 i1 i2 := ⟨⟨by omega, by omega, by omega, q⟩, fun i h1 j h2 k h3 => Classical.not_not.2 (hF0 i h1 j h2 k h3), fun j h2 k h3 => Classical.not_not.2 (hF1 j h2 k h3), fun k h3 => Classical.not_not.2 (hF2 k h3)⟩
     have q3 := Fst_un hA q2
     refine ⟨1, rfl, ?_⟩
     refine ⟨rfl, [1], rfl, rfl, ⟨?_, trivial⟩, rfl, rfl⟩
     show some (Blk.mk false (.rw [.i .i64 (i0 : Int), .i .i64 (i1 : Int), .i .i64 (i2 : Int)])) = some (Blk.mk false (.rw [.i .i64 (a : Int), .i .i64 (b : Int), .i .i64 (c : Int)]))
     rw [q3.1, q3.2.1, q3.2.2]
    ·skip
     have q : Aso p n f i0 i1 i2 := vec_ext (fun x hx => vec_out hx) (neB_f h45)
     refine ⟨((i2 + 1 : Nat) : Int), w64_id _ (by omega) (by omega), ?_⟩
     refine ⟨by omega, ?_, ⟨rfl, rfl, rfl, rfl, trivial⟩, ⟨rfl, trivial⟩, rfl⟩
     intro k hk
     by_cases e : k = i2
     ·subst e; exact q
     ·exact hF2 k (by omega)
   ·replace h22 := of_decide_eq_false h22
    have e2 : n = i2 := by omega
    subst e2
    refine ⟨((i1 + 1 : Nat) : Int), w64_id _ (by omega) (by omega), ?_⟩
    refine ⟨by omega, ?_, ⟨rfl, rfl, rfl, trivial⟩, ⟨rfl, trivial⟩, rfl⟩
    intro j hj k hk
    by_cases e : j = i1
    ·subst e; exact hF2 k hk
    ·exact hF1 j (by omega) k hk
  ·replace h16 := of_decide_eq_false h16
   have e1 : n = i1 := by omega
   subst e1
   refine ⟨((i0 + 1 : Nat) : Int), w64_id _ (by omega) (by omega), ?_⟩
   refine ⟨by omega, ?_, ⟨rfl, rfl, trivial⟩, ⟨rfl, trivial⟩, rfl⟩
   intro i hi j hj k hk
   by_cases e : i = i0
   ·subst e; exact hF1 j hj k hk
   ·exact hF0 i (by omega) j hj k hk
 ·replace h10 := of_decide_eq_false h10
  have e0 : n = i0 := by omega
  subst e0
  exact (hA.1.2.2.2 (hF0 a hA.1.1 b hA.1.2.1 c hA.1.2.2.1)).elim

theorem s_l01Is_s_ok (B : Bs P ρ) (E : E_s_l01Is P ρ) {n : Int} {p : Int} {f : By} (hS : ¬ AShp p n f) :
  CallOK P ρ 76 [.ag [p, n] 522 f] [] (.one (.b false)) [] := by
 refine call_of_vc B.fn B.mo E.1 rfl rfl ?_
 refine ⟨0, rfl, ?_⟩
 refine .inl ⟨1, [], _, _, _, _, [_], rfl, s_l01Shape_ok B E.2.1 , rfl, trivial, rfl, rfl, ?_⟩
 refine ⟨fun h8 => ?_, fun h8 => ?_⟩
 ·skip
  exact ⟨rfl, [], rfl, rfl, trivial, rfl, rfl⟩
 ·skip
  exact (hS (dec_elim_t (not_f h8))).elim

theorem s_l01Is_t_ok (B : Bs P ρ) (E : E_s_l01Is P ρ) {n : Nat} {p : Int} {f : By} (hS : AShp p n f) (hA : ∀ i j k : Nat, i < n → j < n → k < n → Aso p n f i j k) :
  CallOK P ρ 76 [.ag [p, (n : Int)] 522 f] [] (.one (.b (decide (∀ i, i < n → Uni p n f i)))) [] := by
 refine call_of_vc B.fn B.mo E.1 rfl rfl ?_
 refine ⟨0, rfl, ?_⟩
 refine .inl ⟨1, [], _, _, _, _, [_], rfl, s_l01Shape_ok B E.2.1 , rfl, trivial, rfl, rfl, ?_⟩
 refine ⟨fun h8 => ?_, fun h8 => ?_⟩
 ·skip
  exact (dec_elim_t' (not_t h8) hS).elim
 ·skip
  have hb := hS.p1
  refine .inl ⟨(fun b0 i0 => St.mk [(1, .one (.pt 0 0)), (3, .one (.i .i64 ((i0 : Nat) : Int)))] [b0]) _ , fun i0 => ∀ i, i < i0 → Uni p n f i, n, fun _ _ => by omega, ⟨⟨rfl, rfl, trivial⟩, ⟨rfl, trivial⟩, rfl⟩, fun i0 hi0 hF0 => ?_⟩
  refine ⟨fun h12 => ?_, fun h12 => ?_⟩
  ·replace h12 := of_decide_eq_true h12
   refine ⟨⟨by first | omega | (simp <;> omega), by first | omega | (simp <;> omega)⟩, ?_⟩
   refine ⟨1, [], _, _, _, _, [_], rfl, s_l01Basis_ok B E.2.2.1 (i := i0) (by omega), rfl, trivial, rfl, rfl, rfl, ?_⟩
   refine ⟨1, [], _, _, _, _, [_], rfl, s_l01Times_ok B E.2.2.2.1 (by omega) (by omega) (by omega), rfl, trivial, rfl, rfl, rfl, ?_⟩
   refine ⟨1, [], _, _, _, _, [_], rfl, s_l01Basis_ok B E.2.2.1 (i := i0) (by omega), rfl, trivial, rfl, rfl, rfl, ?_⟩
   refine ⟨fun h24 => ?_, fun h24 => ?_⟩
   ·skip
    have z20 := neB_t h24
    iterate 10 refine brB_t ?_
    refine ⟨rfl, [], ?_, rfl, trivial, rfl, rfl⟩
    exact one_b (dec_f fun q => z20 fun x _ => congrFun (q i0 (by omega)).1 x)
   ·skip
    have z20 := neB_f h24
    iterate 2 refine brB_f ?_
    refine ⟨1, [], _, _, _, _, [_], rfl, s_l01Basis_ok B E.2.2.1 (i := i0) (by omega), rfl, trivial, rfl, rfl, rfl, ?_⟩
    iterate 2 refine brB_f ?_
    refine ⟨⟨by first | omega | (simp <;> omega), by first | omega | (simp <;> omega)⟩, ?_⟩
    refine brB_f ?_
    refine ⟨1, [], _, _, _, _, [_], rfl, s_l01Times_ok B E.2.2.2.1 (by omega) (by omega) (by omega), rfl, trivial, rfl, rfl, rfl, ?_⟩
    iterate 2 refine brB_f ?_
    refine .inl ⟨1, [], _, _, _, _, [_], rfl, s_l01Basis_ok B E.2.2.1 (i := i0) (by omega), rfl, trivial, rfl, rfl, ?_⟩
    iterate 2 refine brB_f ?_
    refine ⟨fun h34 => ?_, fun h34 => ?_⟩
    ·skip
     have z27 := neB_t h34
     refine ⟨rfl, [], ?_, rfl, trivial, rfl, rfl⟩
     exact one_b (dec_f fun q => z27 fun x _ => congrFun (q i0 (by omega)).2 x)
    ·skip
     have z27 := neB_f h34
     refine ⟨((i0 + 1 : Nat) : Int), w64_id _ (by omega) (by omega), ?_⟩
     refine ⟨by omega, ?_, ⟨rfl, rfl, trivial⟩, ⟨rfl, trivial⟩, rfl⟩
     intro k hk
     by_cases e : k = i0
     ·subst e
      exact ⟨vec_ext (bas_out (by omega)) z20, vec_ext (bas_out (by omega)) z27⟩
     ·exact hF0 k (by omega)
  ·replace h12 := of_decide_eq_false h12
   have e0 : n = i0 := by omega
   subst e0
   refine .inl ⟨1, [], _, _, _, _, [_], rfl, s_l01Fault_t_ok B E.2.2.2.2 (by omega) (by omega) (by omega) hA, rfl, trivial, rfl, rfl, ?_⟩
   refine ⟨rfl, [], ?_, rfl, trivial, rfl, rfl⟩
   exact one_b (dec_t hF0)

theorem s_l01Is_f_ok (B : Bs P ρ) (E : E_s_l01Is P ρ) {n : Nat} {p : Int} {f : By} {a b c : Nat} (hS : AShp p n f) (hA : Fst n (fun i j k => ¬ Aso p n f i j k) a b c) :
  CallOK P ρ 76 [.ag [p, (n : Int)] 522 f] [] (.one (.b false)) [] := by
 refine call_of_vc B.fn B.mo E.1 rfl rfl ?_
 refine ⟨0, rfl, ?_⟩
 refine .inl ⟨1, [], _, _, _, _, [_], rfl, s_l01Shape_ok B E.2.1 , rfl, trivial, rfl, rfl, ?_⟩
 refine ⟨fun h8 => ?_, fun h8 => ?_⟩
 ·skip
  exact (dec_elim_t' (not_t h8) hS).elim
 ·skip
  have hb := hS.p1
  refine .inl ⟨(fun b0 i0 => St.mk [(1, .one (.pt 0 0)), (3, .one (.i .i64 ((i0 : Nat) : Int)))] [b0]) _ , fun i0 => True, n, trivial, ⟨⟨rfl, rfl, trivial⟩, ⟨rfl, trivial⟩, rfl⟩, fun i0 hi0 _ => ?_⟩
  refine ⟨fun h12 => ?_, fun h12 => ?_⟩
  ·replace h12 := of_decide_eq_true h12
   refine ⟨⟨by first | omega | (simp <;> omega), by first | omega | (simp <;> omega)⟩, ?_⟩
   refine ⟨1, [], _, _, _, _, [_], rfl, s_l01Basis_ok B E.2.2.1 (i := i0) (by omega), rfl, trivial, rfl, rfl, rfl, ?_⟩
   refine ⟨1, [], _, _, _, _, [_], rfl, s_l01Times_ok B E.2.2.2.1 (by omega) (by omega) (by omega), rfl, trivial, rfl, rfl, rfl, ?_⟩
   refine ⟨1, [], _, _, _, _, [_], rfl, s_l01Basis_ok B E.2.2.1 (i := i0) (by omega), rfl, trivial, rfl, rfl, rfl, ?_⟩
   refine ⟨fun h24 => ?_, fun h24 => ?_⟩
   ·skip
    iterate 10 refine brB_t ?_
    exact ⟨rfl, [], rfl, rfl, trivial, rfl, rfl⟩
   ·skip
    iterate 2 refine brB_f ?_
    refine ⟨1, [], _, _, _, _, [_], rfl, s_l01Basis_ok B E.2.2.1 (i := i0) (by omega), rfl, trivial, rfl, rfl, rfl, ?_⟩
    iterate 2 refine brB_f ?_
    refine ⟨⟨by first | omega | (simp <;> omega), by first | omega | (simp <;> omega)⟩, ?_⟩
    refine brB_f ?_
    refine ⟨1, [], _, _, _, _, [_], rfl, s_l01Times_ok B E.2.2.2.1 (by omega) (by omega) (by omega), rfl, trivial, rfl, rfl, rfl, ?_⟩
    iterate 2 refine brB_f ?_
    refine .inl ⟨1, [], _, _, _, _, [_], rfl, s_l01Basis_ok B E.2.2.1 (i := i0) (by omega), rfl, trivial, rfl, rfl, ?_⟩
    iterate 2 refine brB_f ?_
    refine ⟨fun h34 => ?_, fun h34 => ?_⟩
    ·skip
     exact ⟨rfl, [], rfl, rfl, trivial, rfl, rfl⟩
    ·skip
     refine ⟨((i0 + 1 : Nat) : Int), w64_id _ (by omega) (by omega), ?_⟩
     exact ⟨by omega, trivial, ⟨rfl, rfl, trivial⟩, ⟨rfl, trivial⟩, rfl⟩
  ·replace h12 := of_decide_eq_false h12
   have e0 : n = i0 := by omega
   subst e0
   refine .inl ⟨1, [], _, _, _, _, [_, _], rfl, s_l01Fault_f_ok B E.2.2.2.2 (by omega) (by omega) (by omega) hA, rfl, trivial, rfl, rfl, ?_⟩
   exact ⟨rfl, [], rfl, rfl, trivial, rfl, rfl⟩

theorem s_l01Is_ok (B : Bs P ρ) (E : E_s_l01Is P ρ) {n : Int} {p : Int} {f : By} :
  CallOK P ρ 76 [.ag [p, n] 522 f] [] (.one (.b (decide (Alg p n f)))) [] := by
 by_cases hS : AShp p n f
 ·obtain ⟨m, rfl⟩ : ∃ m : Nat, n = (m : Int) := ⟨n.toNat, by have := hS.1.2.1; omega⟩
  by_cases hA : ∀ i j k : Nat, i < m → j < m → k < m → Aso p m f i j k
  ·have e : decide (Alg p m f) = decide (∀ i, i < m → Uni p m f i) :=
    decide_eq_decide.2 ⟨fun q i hi => q.2.1 i (by omega), fun q => ⟨hS, fun i hi => q i (by omega), hA⟩⟩
   rw [e]; exact s_l01Is_t_ok B E hS hA
  ·rw [decide_eq_false fun q : Alg p m f => hA q.2.2]
   obtain ⟨a, b, c, h⟩ := Fst_ex (n := m) (bad := fun i j k => ¬ Aso p m f i j k) (fun q => hA fun i j k h1 h2 h3 => Classical.not_not.1 (q i j k h1 h2 h3))
   exact s_l01Is_f_ok B E hS h
 ·rw [decide_eq_false fun q : Alg p n f => hS q.1]
  exact s_l01Is_s_ok B E hS

end Hf
namespace Hf
open Go Classical
variable {P : Program} {ρ : Nat → FuncId}
theorem byt_mod_inj {p a b : Int} (hp : 1 ≤ p) (hp2 : p ≤ 256) (h : byt (a % p) = byt (b % p)) : a % p = b % p := by
 have h1 := byt_toNat (a % p)
 have h2 := byt_toNat (b % p)
 rw [h] at h1
 have := Int.emod_nonneg a (show p ≠ 0 by omega)
 have := Int.emod_lt_of_pos a (show 0 < p by omega)
 have := Int.emod_nonneg b (show p ≠ 0 by omega)
 have := Int.emod_lt_of_pos b (show 0 < p by omega)
 omega

theorem s_l02Sums_ok (B : Bs P ρ) (E : E_s_l02Sums P ρ) {n : Nat} {p : Int} {f : By} {i j k l : Nat} (hp : 1 ≤ p) (hp2 : p ≤ 256) (hn : n ≤ 8) (hi : i < 8) (hj : j < 8) (hk : k < 8) (hl : l < 8) :
  CallOK P ρ 115 [.ag [p, (n : Int)] 522 f, .i .i64 (i : Int), .i .i64 (j : Int), .i .i64 (k : Int), .i .i64 (l : Int)] [] (.tup [.u (byt (coL n f i j k l % p)), .u (byt (coR n f i j k l % p))]) [] := by
 refine call_of_vc B.fn B.mo E.1 rfl rfl ?_
 refine ⟨0, rfl, ?_⟩
 refine .inl ⟨(fun a1 a2 a3 a4 b0 i0 => St.mk [(1, a1), (2, a2), (3, a3), (4, a4), (5, .one (.pt 0 0)), (12, .one (.i .i64 (coL i0 f i j k l))), (13, .one (.i .i64 (coR i0 f i j k l))), (14, .one (.i .i64 ((i0 : Nat) : Int)))] [b0]) _ _ _ _ _ , fun i0 => True, n, trivial, ⟨⟨rfl, rfl, rfl, rfl, rfl, rfl, rfl, rfl, trivial⟩, ⟨rfl, trivial⟩, rfl⟩, fun i0 hi0 _ => ?_⟩
 have q1 := bz2 f f (10 + i * 64 + i0 * 8 + l) (10 + i0 * 64 + j * 8 + k)
 have q2 := bz2 f f (10 + i * 64 + j * 8 + i0) (10 + i0 * 64 + k * 8 + l)
 have q3 := coL_bd (m := i0) (f := f) (i := i) (j := j) (k := k) (l := l)
 have q4 := coR_bd (m := i0) (f := f) (i := i) (j := j) (k := k) (l := l)
 refine ⟨fun h18 => ?_, fun h18 => ?_⟩
 ·replace h18 := of_decide_eq_true h18
  refine ⟨i, 10 + i * 64, rfl, by omega, by omega, ?_⟩
  refine ⟨i0, 10 + i * 64 + i0 * 8, rfl, by omega, by omega, ?_⟩
  refine ⟨l, 10 + i * 64 + i0 * 8 + l, rfl, by omega, by omega, ?_⟩
  refine ⟨⟨by first | omega | (simp <;> omega), by first | omega | (simp <;> omega)⟩, ?_⟩
  refine ⟨i0, 10 + i0 * 64, rfl, by omega, by omega, ?_⟩
  refine ⟨j, 10 + i0 * 64 + j * 8, rfl, by omega, by omega, ?_⟩
  refine ⟨k, 10 + i0 * 64 + j * 8 + k, rfl, by omega, by omega, ?_⟩
  refine ⟨⟨by first | omega | (simp <;> omega), by first | omega | (simp <;> omega)⟩, ?_⟩
  refine ⟨bz f (10 + i * 64 + i0 * 8 + l) * bz f (10 + i0 * 64 + j * 8 + k), w64_id (bz f (10 + i * 64 + i0 * 8 + l) * bz f (10 + i0 * 64 + j * 8 + k)) (by omega) (by omega), ?_⟩
  refine ⟨coL i0 f i j k l + bz f (10 + i * 64 + i0 * 8 + l) * bz f (10 + i0 * 64 + j * 8 + k), w64_id (coL i0 f i j k l + bz f (10 + i * 64 + i0 * 8 + l) * bz f (10 + i0 * 64 + j * 8 + k)) (by omega) (by omega), ?_⟩
  refine ⟨i, 10 + i * 64, rfl, by omega, by omega, ?_⟩
  refine ⟨j, 10 + i * 64 + j * 8, rfl, by omega, by omega, ?_⟩
  refine ⟨i0, 10 + i * 64 + j * 8 + i0, rfl, by omega, by omega, ?_⟩
  refine ⟨⟨by first | omega | (simp <;> omega), by first | omega | (simp <;> omega)⟩, ?_⟩
  refine ⟨i0, 10 + i0 * 64, rfl, by omega, by omega, ?_⟩
  refine ⟨k, 10 + i0 * 64 + k * 8, rfl, by omega, by omega, ?_⟩
  refine ⟨l, 10 + i0 * 64 + k * 8 + l, rfl, by omega, by omega, ?_⟩
  refine ⟨⟨by first | omega | (simp <;> omega), by first | omega | (simp <;> omega)⟩, ?_⟩
  refine ⟨bz f (10 + i * 64 + j * 8 + i0) * bz f (10 + i0 * 64 + k * 8 + l), w64_id (bz f (10 + i * 64 + j * 8 + i0) * bz f (10 + i0 * 64 + k * 8 + l)) (by omega) (by omega), ?_⟩
  refine ⟨coR i0 f i j k l + bz f (10 + i * 64 + j * 8 + i0) * bz f (10 + i0 * 64 + k * 8 + l), w64_id (coR i0 f i j k l + bz f (10 + i * 64 + j * 8 + i0) * bz f (10 + i0 * 64 + k * 8 + l)) (by omega) (by omega), ?_⟩
  refine ⟨((i0 + 1 : Nat) : Int), w64_id _ (by omega) (by omega), ?_⟩
  exact ⟨by omega, trivial, ⟨rfl, rfl, rfl, rfl, rfl, rfl, rfl, rfl, trivial⟩, ⟨rfl, trivial⟩, rfl⟩
 ·replace h18 := of_decide_eq_false h18
  have e0 : n = i0 := by omega
  subst e0
  refine ⟨1, [], _, _, _, _, [_], rfl, s_l01Mod_ok B E.2 hp (by omega), rfl, trivial, rfl, rfl, rfl, ?_⟩
  refine .inl ⟨1, [], _, _, _, _, [_], rfl, s_l01Mod_ok B E.2 hp (by omega), rfl, trivial, rfl, rfl, ?_⟩
  exact ⟨rfl, [], rfl, rfl, trivial, rfl, rfl⟩

theorem s_l02Fault_t_ok (B : Bs P ρ) (E : E_s_l02Fault P ρ) {n : Nat} {p : Int} {f : By} (hp : 1 ≤ p) (hp2 : p ≤ 256) (hn : n ≤ 8) (hA : ∀ t : Nat, t < n * n * n * n → CoaT p n f t) :
  CallOK P ρ 99 [.ag [p, (n : Int)] 522 f] [] (.tup [.sn, .b false]) [] := by
 refine call_of_vc B.fn B.mo E.1 rfl rfl ?_
 have hpw := pw hn
 refine ⟨0, rfl, ?_⟩
 refine .inl ⟨(fun a4 b0 i0 => St.mk [(1, .one (.pt 0 0)), (4, a4), (5, .one (.i .i64 ((i0 : Nat) : Int)))] [b0]) _ _ , fun i0 => True, n * n * n * n, trivial, ⟨⟨rfl, rfl, rfl, trivial⟩, ⟨rfl, trivial⟩, rfl⟩, fun i0 hi0 _ => ?_⟩
 refine ⟨((n * n : Nat) : Int), ml (by omega), ?_⟩
 refine ⟨((n * n * n : Nat) : Int), ml (by omega), ?_⟩
 refine ⟨((n * n * n * n : Nat) : Int), ml (by omega), ?_⟩
 refine ⟨fun h22 => ?_, fun h22 => ?_⟩
 ·replace h22 := of_decide_eq_true h22
  have hlt : i0 < n * n * n * n := by omega
  have hd := dig hlt
  refine ⟨((n * n : Nat) : Int), ml (by omega), ?_⟩
  refine ⟨((n * n * n : Nat) : Int), ml (by omega), ?_⟩
  refine ⟨by have : n * n * n ≠ 0 := Nat.ne_of_gt (Nat.mul_pos (Nat.mul_pos hd.1 hd.1) hd.1); omega, ((i0 / (n * n * n) : Nat) : Int), qd (by omega), ?_⟩
  refine ⟨((n * n : Nat) : Int), ml (by omega), ?_⟩
  refine ⟨by have : n * n ≠ 0 := Nat.ne_of_gt (Nat.mul_pos hd.1 hd.1); omega, ((i0 / (n * n) : Nat) : Int), qd (by omega), ?_⟩
  refine ⟨by omega, ((i0 / (n * n) % n : Nat) : Int), rm, ?_⟩
  refine ⟨by omega, ((i0 / n : Nat) : Int), qd (by omega), ?_⟩
  refine ⟨by omega, ((i0 / n % n : Nat) : Int), rm, ?_⟩
  refine ⟨by omega, ((i0 % n : Nat) : Int), rm, ?_⟩
  refine .inl ⟨1, [], _, _, _, _, [_], rfl, s_l02Sums_ok B E.2 hp hp2 hn (i := i0 / (n * n * n)) (j := i0 / (n * n) % n) (k := i0 / n % n) (l := i0 % n) (by omega) (by omega) (by omega) (by omega), rfl, trivial, rfl, rfl, ?_⟩
  refine ⟨fun h58 => ?_, fun h58 => ?_⟩
  ·replace h58 := bne_t h58
   exact (h58 (congrArg byt (hA i0 hlt))).elim
  ·replace h58 := bne_f h58
   refine ⟨((i0 + 1 : Nat) : Int), w64_id _ (by omega) (by omega), ?_⟩
   exact ⟨by omega, trivial, ⟨rfl, rfl, rfl, trivial⟩, ⟨rfl, trivial⟩, rfl⟩
 ·replace h22 := of_decide_eq_false h22
  have e0 : n * n * n * n = i0 := by omega
  exact ⟨rfl, [], rfl, rfl, trivial, rfl, rfl⟩

theorem s_l02Fault_f_ok (B : Bs P ρ) (E : E_s_l02Fault P ρ) {n : Nat} {p : Int} {f : By} {a : Nat} (hp : 1 ≤ p) (hp2 : p ≤ 256) (hn : n ≤ 8) (ha : a < n * n * n * n) (hA : ¬ CoaT p n f a) (hL : ∀ t, t < a → CoaT p n f t) :
  CallOK P ρ 99 [.ag [p, (n : Int)] 522 f] [] (.tup [.sl 0 0 4 4, .b true]) [⟨false, .rw [.i .i64 ((a / (n * n * n) : Nat) : Int), .i .i64 ((a / (n * n) % n : Nat) : Int), .i .i64 ((a / n % n : Nat) : Int), .i .i64 ((a % n : Nat) : Int)]⟩] := by
 refine call_of_vc B.fn B.mo E.1 rfl rfl ?_
 have hpw := pw hn
 refine ⟨0, rfl, ?_⟩
 refine .inl ⟨(fun a4 b0 i0 => St.mk [(1, .one (.pt 0 0)), (4, a4), (5, .one (.i .i64 ((i0 : Nat) : Int)))] [b0]) _ _ , fun i0 => ∀ t, t < i0 → CoaT p n f t, n * n * n * n, fun _ _ => by omega, ⟨⟨rfl, rfl, rfl, trivial⟩, ⟨rfl, trivial⟩, rfl⟩, fun i0 hi0 hF0 => ?_⟩
 refine ⟨((n * n : Nat) : Int), ml (by omega), ?_⟩
 refine ⟨((n * n * n : Nat) : Int), ml (by omega), ?_⟩
 refine ⟨((n * n * n * n : Nat) : Int), ml (by omega), ?_⟩
 refine ⟨fun h22 => ?_, fun h22 => ?_⟩
 ·replace h22 := of_decide_eq_true h22
  have hlt : i0 < n * n * n * n := by omega
  have hd := dig hlt
  refine ⟨((n * n : Nat) : Int), ml (by omega), ?_⟩
  refine ⟨((n * n * n : Nat) : Int), ml (by omega), ?_⟩
  refine ⟨by have : n * n * n ≠ 0 := Nat.ne_of_gt (Nat.mul_pos (Nat.mul_pos hd.1 hd.1) hd.1); omega, ((i0 / (n * n * n) : Nat) : Int), qd (by omega), ?_⟩
  refine ⟨((n * n : Nat) : Int), ml (by omega), ?_⟩
  refine ⟨by have : n * n ≠ 0 := Nat.ne_of_gt (Nat.mul_pos hd.1 hd.1); omega, ((i0 / (n * n) : Nat) : Int), qd (by omega), ?_⟩
  refine ⟨by omega, ((i0 / (n * n) % n : Nat) : Int), rm, ?_⟩
  refine ⟨by omega, ((i0 / n : Nat) : Int), qd (by omega), ?_⟩
  refine ⟨by omega, ((i0 / n % n : Nat) : Int), rm, ?_⟩
  refine ⟨by omega, ((i0 % n : Nat) : Int), rm, ?_⟩
  refine .inl ⟨1, [], _, _, _, _, [_], rfl, s_l02Sums_ok B E.2 hp hp2 hn (i := i0 / (n * n * n)) (j := i0 / (n * n) % n) (k := i0 / n % n) (l := i0 % n) (by omega) (by omega) (by omega) (by omega), rfl, trivial, rfl, rfl, ?_⟩
  refine ⟨fun h58 => ?_, fun h58 => ?_⟩
  ·replace h58 := bne_t h58
   have q : ¬ CoaT p n f i0 := fun q => h58 (congrArg byt q)
   have e : i0 = a := by
    rcases Nat.lt_trichotomy i0 a with e | e | e
    ·exact (q (hL i0 e)).elim
    ·exact e
    ·exact (hA (hF0 a e)).elim
   refine ⟨1, rfl, ?_⟩
   refine ⟨rfl, [1], rfl, rfl, ⟨?_, trivial⟩, rfl, rfl⟩
   show some (Blk.mk false (.rw [.i .i64 ((i0 / (n * n * n) : Nat) : Int), .i .i64 ((i0 / (n * n) % n : Nat) : Int), .i .i64 ((i0 / n % n : Nat) : Int), .i .i64 ((i0 % n : Nat) : Int)])) = some (Blk.mk false (.rw [.i .i64 ((a / (n * n * n) : Nat) : Int), .i .i64 ((a / (n * n) % n : Nat) : Int), .i .i64 ((a / n % n : Nat) : Int), .i .i64 ((a % n : Nat) : Int)]))
   rw [e]
  ·replace h58 := bne_f h58
   have q : CoaT p n f i0 := byt_mod_inj hp hp2 h58
   refine ⟨((i0 + 1 : Nat) : Int), w64_id _ (by omega) (by omega), ?_⟩
   refine ⟨by omega, ?_, ⟨rfl, rfl, rfl, trivial⟩, ⟨rfl, trivial⟩, rfl⟩
   intro t ht
   by_cases e : t = i0
   ·rw [e]; exact q
   ·exact hF0 t (by omega)
 ·replace h22 := of_decide_eq_false h22
  have e0 : n * n * n * n = i0 := by omega
  exact (hA (hF0 a (by omega))).elim

theorem s_l02Counits_ok (B : Bs P ρ) (E : E_s_l02Counits P ρ) {n : Nat} {p : Int} {f : By} (hp : 1 ≤ p) (hp2 : p ≤ 256) (hn : n ≤ 8) :
  CallOK P ρ 100 [.ag [p, (n : Int)] 522 f] [] (.one (.b (decide (∀ i, i < n → Cou p n f i)))) [] := by
 refine call_of_vc B.fn B.mo E.1 rfl rfl ?_
 refine ⟨0, rfl, ?_⟩
 refine .inl ⟨(fun b0 i0 => St.mk [(1, .one (.pt 0 0)), (3, .one (.i .i64 ((i0 : Nat) : Int)))] [b0]) _ , fun i0 => ∀ i, i < i0 → Cou p n f i, n, fun _ _ => by omega, ⟨⟨rfl, rfl, trivial⟩, ⟨rfl, trivial⟩, rfl⟩, fun i0 hi0 hF0 => ?_⟩
 refine ⟨fun h12 => ?_, fun h12 => ?_⟩
 ·replace h12 := of_decide_eq_true h12
  refine ⟨1, rfl, ?_⟩
  refine ⟨2, rfl, ?_⟩
  refine ⟨⟨rfl, by first | omega | (simp <;> omega), by first | omega | (simp <;> omega)⟩, ?_⟩   -- sta ['.t', 4] ['.t', 15] 8
  refine ⟨⟨rfl, by first | omega | (simp <;> omega), by first | omega | (simp <;> omega)⟩, ?_⟩   -- sta ['.t', 5] ['.t', 16] 8
  refine .inl ⟨(fun a3 b0 i1 => St.mk [(1, .one (.pt 0 0)), (3, a3), (4, .one (.pt 1 0)), (5, .one (.pt 2 0)), (6, .one (.i .i64 ((i1 : Nat) : Int)))] [b0, Blk.mk false (.by [] 8 (vec 8 p fun x => cuL i1 f i0 x)), Blk.mk false (.by [] 8 (vec i1 p (cuR n f i0)))]) _ _ , fun i1 => True, n, trivial, ⟨⟨rfl, rfl, rfl, rfl, rfl, trivial⟩, ⟨rfl, ?_, ?_, trivial⟩, rfl⟩, fun i1 hi1 _ => ?_⟩
  ·refine blk_by ?_
   rw [z_sta]
   exact vec_0.symm
  ·refine blk_by ?_
   rw [z_sta]
   rfl
  have q0 := bz_nn f (2 + i1)
  have q1 := bz_le f (2 + i1)
  refine ⟨fun h20 => ?_, fun h20 => ?_⟩
  ·replace h20 := of_decide_eq_true h20
   refine ⟨⟨by first | omega | (simp <;> omega), by first | omega | (simp <;> omega)⟩, ?_⟩
   refine ⟨i0, 10 + i0 * 64, rfl, by omega, by omega, ?_⟩
   refine ⟨i1, 10 + i0 * 64 + i1 * 8, rfl, by omega, by omega, ?_⟩
   refine ⟨⟨by first | omega | (simp <;> omega), by first | omega | (simp <;> omega)⟩, ?_⟩
   refine ⟨i1, 2 + i1, rfl, by omega, by omega, ?_⟩
   refine ⟨⟨by first | omega | (simp <;> omega), by first | omega | (simp <;> omega)⟩, ?_⟩
   refine .inl ⟨3, [], _, _, _, _, [_, _, _], rfl, s_l01Add_ok B E.2.1 (k := bz f (2 + i1)) hp (by omega) (by omega) (by omega), rfl, trivial, rfl, rfl, ?_⟩
   refine ⟨⟨rfl, by first | omega | (simp <;> omega), by first | omega | (simp <;> omega)⟩, ?_⟩   -- sta ['.t', 4] ['.t', 37] 8
   refine .inl ⟨(fun a3 a6 b0 b1 b2 i2 => St.mk [(1, .one (.pt 0 0)), (3, a3), (4, .one (.pt 1 0)), (5, .one (.pt 2 0)), (6, a6), (7, .one (.i .i64 (cuR i2 f i0 i1))), (8, .one (.i .i64 ((i2 : Nat) : Int)))] [b0, b1, b2]) _ _ _ _ _ , fun i2 => True, n, trivial, ⟨⟨rfl, rfl, rfl, rfl, rfl, rfl, rfl, trivial⟩, ⟨rfl, rfl, rfl, trivial⟩, rfl⟩, fun i2 hi2 _ => ?_⟩
   have q2 := bz2 f f (2 + i2) (10 + i0 * 64 + i1 * 8 + i2)
   have q3 := sm_bd (n := i2) (x := fun k => bz f (2 + k) * bz f (10 + i0 * 64 + i1 * 8 + k)) (A := 65025) fun k _ => bz2 f f _ _
   have q4 : sm i2 (fun k => bz f (2 + k) * bz f (10 + i0 * 64 + i1 * 8 + k)) = cuR i2 f i0 i1 := rfl
   refine ⟨fun h41 => ?_, fun h41 => ?_⟩
   ·replace h41 := of_decide_eq_true h41
    refine ⟨i2, 2 + i2, rfl, by omega, by omega, ?_⟩
    refine ⟨⟨by first | omega | (simp <;> omega), by first | omega | (simp <;> omega)⟩, ?_⟩
    refine ⟨i0, 10 + i0 * 64, rfl, by omega, by omega, ?_⟩
    refine ⟨i1, 10 + i0 * 64 + i1 * 8, rfl, by omega, by omega, ?_⟩
    refine ⟨i2, 10 + i0 * 64 + i1 * 8 + i2, rfl, by omega, by omega, ?_⟩
    refine ⟨⟨by first | omega | (simp <;> omega), by first | omega | (simp <;> omega)⟩, ?_⟩
    refine ⟨bz f (2 + i2) * bz f (10 + i0 * 64 + i1 * 8 + i2), w64_id (bz f (2 + i2) * bz f (10 + i0 * 64 + i1 * 8 + i2)) (by omega) (by omega), ?_⟩
    refine ⟨cuR i2 f i0 i1 + bz f (2 + i2) * bz f (10 + i0 * 64 + i1 * 8 + i2), w64_id (cuR i2 f i0 i1 + bz f (2 + i2) * bz f (10 + i0 * 64 + i1 * 8 + i2)) (by omega) (by omega), ?_⟩
    refine ⟨((i2 + 1 : Nat) : Int), w64_id _ (by omega) (by omega), ?_⟩
    exact ⟨by omega, trivial, ⟨rfl, rfl, rfl, rfl, rfl, rfl, rfl, trivial⟩, ⟨rfl, rfl, rfl, trivial⟩, rfl⟩
   ·replace h41 := of_decide_eq_false h41
    have e2 : n = i2 := by omega
    subst e2
    refine .inl ⟨3, [], _, _, _, _, [_, _, _], rfl, s_l01Mod_ok B E.2.2.1 hp (by omega), rfl, trivial, rfl, rfl, ?_⟩
    refine ⟨i1, i1, rfl, by omega, by omega, ?_⟩
    refine ⟨⟨by first | omega | (simp <;> omega), by first | omega | (simp <;> omega)⟩, ?_⟩   -- st8 ['.t', 66] ['.t', 65]
    refine ⟨((i1 + 1 : Nat) : Int), w64_id _ (by omega) (by omega), ?_⟩
    refine ⟨by omega, trivial, ⟨rfl, rfl, rfl, rfl, rfl, trivial⟩, ⟨rfl, ?_, ?_, trivial⟩, rfl⟩
    ·refine blk_by ?_
     rw [spl_plsN, pl_vec0 hp hp2]
     exact vec_congr fun y _ => cg_of_eq rfl
    ·exact blk_by (upd_vec rfl).symm
  ·replace h20 := of_decide_eq_false h20
   have e1 : n = i1 := by omega
   subst e1
   refine ⟨⟨by first | omega | (simp <;> omega), by first | omega | (simp <;> omega)⟩, ?_⟩
   refine ⟨3, [], _, _, _, _, [_, _, _], rfl, s_l01Basis_ok B E.2.2.2 (i := i0) (by omega), rfl, trivial, rfl, rfl, rfl, ?_⟩
   refine ⟨fun h71 => ?_, fun h71 => ?_⟩
   ·skip
    have z61 := neB_t h71
    rw [sh_zero] at z61
    iterate 5 refine brB_t ?_
    refine ⟨rfl, [], ?_, rfl, trivial, rfl, rfl⟩
    exact one_b (dec_f fun q => z61 fun x _ => congrFun (q i0 (by omega)).1 x)
   ·skip
    have z61 := neB_f h71
    rw [sh_zero] at z61
    refine ⟨⟨by first | omega | (simp <;> omega), by first | omega | (simp <;> omega)⟩, ?_⟩
    iterate 2 refine brB_f ?_
    refine ⟨3, [], _, _, _, _, [_, _, _], rfl, s_l01Basis_ok B E.2.2.2 (i := i0) (by omega), rfl, trivial, rfl, rfl, rfl, ?_⟩
    iterate 2 refine brB_f ?_
    refine ⟨fun h76 => ?_, fun h76 => ?_⟩
    ·skip
     have z66 := neB_t h76
     rw [sh_zero] at z66
     refine ⟨rfl, [], ?_, rfl, trivial, rfl, rfl⟩
     exact one_b (dec_f fun q => z66 fun x _ => congrFun (q i0 (by omega)).2 x)
    ·skip
     have z66 := neB_f h76
     rw [sh_zero] at z66
     refine ⟨((i0 + 1 : Nat) : Int), w64_id _ (by omega) (by omega), ?_⟩
     refine ⟨by omega, ?_, ⟨rfl, rfl, trivial⟩, ⟨rfl, trivial⟩, rfl⟩
     intro k hk
     by_cases e : k = i0
     ·subst e
      refine ⟨vec_ext (bas_out (by omega)) z61, ?_⟩
      funext x
      by_cases hx : x < 8
      ·exact z66 x hx
      ·rw [vec_out (by omega), bas_out (by omega) x (by omega)]
     ·exact hF0 k (by omega)
 ·replace h12 := of_decide_eq_false h12
  have e0 : n = i0 := by omega
  subst e0
  refine ⟨rfl, [], ?_, rfl, trivial, rfl, rfl⟩
  exact one_b (dec_t hF0)

theorem s_l02Is_s_ok (B : Bs P ρ) (E : E_s_l02Is P ρ) {n : Int} {p : Int} {f : By} (hS : ¬ CShp p n f) :
  CallOK P ρ 77 [.ag [p, n] 522 f] [] (.one (.b false)) [] := by
 refine call_of_vc B.fn B.mo E.1 rfl rfl ?_
 refine ⟨0, rfl, ?_⟩
 refine .inl ⟨1, [], _, _, _, _, [_], rfl, s_l02Shape_ok B E.2.1 , rfl, trivial, rfl, rfl, ?_⟩
 refine ⟨fun h7 => ?_, fun h7 => ?_⟩
 ·skip
  exact ⟨rfl, [], rfl, rfl, trivial, rfl, rfl⟩
 ·skip
  exact (hS (dec_elim_t (not_f h7))).elim

theorem s_l02Is_t_ok (B : Bs P ρ) (E : E_s_l02Is P ρ) {n : Nat} {p : Int} {f : By} (hS : CShp p n f) (hA : ∀ t : Nat, t < n * n * n * n → CoaT p n f t) :
  CallOK P ρ 77 [.ag [p, (n : Int)] 522 f] [] (.one (.b (decide (∀ i, i < n → Cou p n f i)))) [] := by
 refine call_of_vc B.fn B.mo E.1 rfl rfl ?_
 have hb := AShp.p1 hS
 refine ⟨0, rfl, ?_⟩
 refine .inl ⟨1, [], _, _, _, _, [_], rfl, s_l02Shape_ok B E.2.1 , rfl, trivial, rfl, rfl, ?_⟩
 refine ⟨fun h7 => ?_, fun h7 => ?_⟩
 ·skip
  exact (dec_elim_t' (not_t h7) hS).elim
 ·skip
  refine .inl ⟨1, [], _, _, _, _, [_], rfl, s_l02Fault_t_ok B E.2.2.1 (by omega) (by omega) (by omega) hA, rfl, trivial, rfl, rfl, ?_⟩
  refine ⟨fun h15 => ?_, fun h15 => ?_⟩
  ·skip
   refine brB_t ?_
   refine .inl ⟨1, [], _, _, _, _, [_], rfl, s_l02Counits_ok B E.2.2.2 (by omega) (by omega) (by omega), rfl, trivial, rfl, rfl, ?_⟩
   refine brB_t ?_
   exact ⟨rfl, [], rfl, rfl, trivial, rfl, rfl⟩
  ·skip
   exact absurd h15 (by decide)

theorem s_l02Is_f_ok (B : Bs P ρ) (E : E_s_l02Is P ρ) {n : Nat} {p : Int} {f : By} {a : Nat} (hS : CShp p n f) (ha : a < n * n * n * n) (hA : ¬ CoaT p n f a) (hL : ∀ t, t < a → CoaT p n f t) :
  CallOK P ρ 77 [.ag [p, (n : Int)] 522 f] [] (.one (.b false)) [] := by
 refine call_of_vc B.fn B.mo E.1 rfl rfl ?_
 have hb := AShp.p1 hS
 refine ⟨0, rfl, ?_⟩
 refine .inl ⟨1, [], _, _, _, _, [_], rfl, s_l02Shape_ok B E.2.1 , rfl, trivial, rfl, rfl, ?_⟩
 refine ⟨fun h7 => ?_, fun h7 => ?_⟩
 ·skip
  exact (dec_elim_t' (not_t h7) hS).elim
 ·skip
  refine .inl ⟨1, [], _, _, _, _, [_, _], rfl, s_l02Fault_f_ok B E.2.2.1 (by omega) (by omega) (by omega) ha hA hL, rfl, trivial, rfl, rfl, ?_⟩
  refine ⟨fun h15 => ?_, fun h15 => ?_⟩
  ·skip
   exact absurd h15 (by decide)
  ·skip
   iterate 2 refine brB_f ?_
   exact ⟨rfl, [], rfl, rfl, trivial, rfl, rfl⟩

theorem s_l02Is_ok (B : Bs P ρ) (E : E_s_l02Is P ρ) {n : Int} {p : Int} {f : By} :
  CallOK P ρ 77 [.ag [p, n] 522 f] [] (.one (.b (decide (Cog p n f)))) [] := by
 by_cases hS : CShp p n f
 ·obtain ⟨m, rfl⟩ : ∃ m : Nat, n = (m : Int) := ⟨n.toNat, by have := hS.1.2.1; omega⟩
  by_cases hA : ∀ t : Nat, t < m * m * m * m → CoaT p m f t
  ·have e : decide (Cog p m f) = decide (∀ i, i < m → Cou p m f i) :=
    decide_eq_decide.2 ⟨fun q i hi => q.2.1 i (by omega), fun q => ⟨hS, fun i hi => q i (by omega), hA⟩⟩
   rw [e]; exact s_l02Is_t_ok B E hS hA
  ·rw [decide_eq_false fun q : Cog p m f => hA q.2.2]
   obtain ⟨a, ⟨h1, h2⟩, h3⟩ := least (q := fun t => t < m * m * m * m ∧ ¬ CoaT p m f t) (by
    simp only [Classical.not_forall] at hA
    obtain ⟨t, ht, h⟩ := hA
    exact ⟨t, ht, h⟩)
   exact s_l02Is_f_ok B E hS h1 h2 fun t ht => Classical.byContradiction fun q => h3 t ht ⟨by omega, q⟩
 ·rw [decide_eq_false fun q : Cog p n f => hS q.1]
  exact s_l02Is_s_ok B E hS

end Hf
namespace Hf
open Go Classical
variable {P : Program} {ρ : Nat → FuncId}
theorem s_l01Zero_ok (B : Bs P ρ) (E : E_s_l01Zero P ρ) {v : By} :
  CallOK P ρ 101 [.ag [] 8 v] [] (.one (.b (eqB 8 v fun _ => 0))) [] := by
 refine call_of_vc B.fn B.mo E rfl rfl ?_
 refine ⟨0, rfl, ?_⟩
 refine ⟨⟨by first | omega | (simp <;> omega), by first | omega | (simp <;> omega)⟩, ?_⟩
 exact ⟨rfl, [], rfl, rfl, trivial, rfl, rfl⟩

end Hf
namespace Hf
open Go Classical
variable {P : Program} {ρ : Nat → FuncId}
noncomputable def oc (q : Prop) (c : Int) : Int := if q then 0 else c
theorem oc_t {q : Prop} (h : q) {c : Int} : oc q c = 0 := if_pos h
theorem oc_f {q : Prop} (h : ¬ q) {c : Int} : oc q c = c := if_neg h

-- left out: i_RegularModule (not among the functions at hand)
-- left out: s_RegularModule (not among the functions at hand)
-- left out: l_FnExactRegularModule (not among the functions at hand)

end Hf
namespace Hf
open Go Classical
variable {P : Program} {ρ : Nat → FuncId}
theorem vec_more {a N : Nat} {p : Int} {X : Nat → Int} (h : a ≤ N) (h0 : ∀ y, a ≤ y → y < N → X y = 0) : vec a p X = vec N p X := by
 funext y
 simp only [vec]
 by_cases e : y < a
 ·rw [if_pos e, if_pos (by omega)]
 ·rw [if_neg e]
  by_cases e2 : y < N
  ·rw [if_pos e2, h0 y (by omega) e2]; simp; rfl
  ·rw [if_neg e2]
end Hf
namespace Hf
open Go Classical
variable {P : Program} {ρ : Nat → FuncId}
theorem sm_bas {d k : Nat} {X : Nat → Int} (hk : k < d) : sm d (fun l => bz (bas k) l * X l) = X k := by
 have e : ∀ l, bz (bas k) l = if l = k then 1 else 0 := fun l => by
  simp only [bz, bas]; split <;> rfl
 rw [sm_ext (n := k + 1) (by omega) fun l h1 h2 => by rw [e l, if_neg (by omega), Int.zero_mul]]
 simp only [sm]
 rw [sm_zero fun l hl => by rw [e l, if_neg (by omega), Int.zero_mul], e k, if_pos rfl]; omega
end Hf
namespace Hf
open Go Classical
variable {P : Program} {ρ : Nat → FuncId}
/-- the first number other than 0 -/
def fz : List Int → Int
  | [] => 0
  | a :: r => if a ≠ 0 then a else fz r
theorem fz_at : ∀ {l : List Int} {i : Nat}, i < l.length → l.getD i 0 ≠ 0 → (∀ j, j < i → l.getD j 0 = 0) → fz l = l.getD i 0
  | a :: r, 0, _, h, _ => by
    simp at h
    simp [fz, h]
  | a :: r, i + 1, hi, h, h0 => by
    have h1 := h0 0 (by omega)
    simp at h1
    simp only [fz]
    rw [if_neg (by simp [h1]), fz_at (l := r) (i := i) (by simpa using hi) (by simpa using h) fun j hj => by have := h0 (j + 1) (by omega); simpa using this]
    simp
theorem fz_0 : ∀ {l : List Int}, (∀ j, j < l.length → l.getD j 0 = 0) → fz l = 0
  | [], _ => rfl
  | a :: r, h => by
    have h1 := h 0 (by simp)
    simp at h1
    simp only [fz]
    rw [if_neg (by simp [h1]), fz_0 (l := r) fun j hj => by have := h (j + 1) (by simp; omega); simpa using this]

theorem i_first2_ok (B : Bs P ρ) (E : E_i_first P ρ) {a b : Int} :
  CallOK P ρ 139 [.sl 0 0 2 2] [⟨true, .rw [.i .i64 a, .i .i64 b]⟩] (.one (.i .i64 (fz [a, b]))) [⟨true, .rw [.i .i64 a, .i .i64 b]⟩] := by
 refine call_of_vc B.fn B.mo E rfl rfl ?_
 refine .inl ⟨(fun b0 i0 => St.mk [(5, .one (.sl 0 0 2 2)), (6, .one (.i .i64 2)), (7, .one (.i .i64 ((i0 : Nat) : Int)))] [b0]) _ , fun i0 => ∀ j, j < i0 → [a, b].getD j 0 = 0, 2, fun _ _ => by omega, ⟨⟨rfl, rfl, rfl, trivial⟩, ⟨rfl, trivial⟩, rfl⟩, fun i0 hi0 hF0 => ?_⟩
 refine ⟨fun h8 => ?_, fun h8 => ?_⟩
 ·replace h8 := of_decide_eq_true h8
  refine ⟨i0, i0, rfl, by omega, by omega, ?_⟩
  refine ⟨.i .i64 ([a, b].getD i0 0), ?_, ?_⟩
  ·have hi7 : i0 = 0 ∨ i0 = 1 := by omega
   rcases hi7 with rfl | rfl <;> rfl
  refine ⟨fun h12 => ?_, fun h12 => ?_⟩
  ·replace h12 := bne_t h12
   refine ⟨rfl, [], ?_, rfl, ⟨rfl, trivial⟩, rfl, rfl⟩
   exact one_i (fz_at (l := [a, b]) (by simp; omega) h12 hF0).symm
  ·replace h12 := bne_f h12
   refine ⟨((i0 + 1 : Nat) : Int), w64_id _ (by omega) (by omega), ?_⟩
   refine ⟨by omega, ?_, ⟨rfl, rfl, rfl, trivial⟩, ⟨rfl, trivial⟩, rfl⟩
   intro j hj
   by_cases e : j = i0
   ·subst e; exact h12
   ·exact hF0 j (by omega)
 ·replace h8 := of_decide_eq_false h8
  have e0 : 2 = i0 := by omega
  subst e0
  refine ⟨rfl, [], ?_, rfl, ⟨rfl, trivial⟩, rfl, rfl⟩
  exact one_i (fz_0 (l := [a, b]) hF0).symm

theorem oc_dec {q : Prop} [Decidable q] {c : Int} : (if decide q = true then 0 else c) = oc q c := by
 by_cases h : q
 ·rw [if_pos (decide_eq_true h), oc_t h]
 ·rw [if_neg (by simp [h]), oc_f h]
end Hf
namespace Hf
open Go Classical
variable {P : Program} {ρ : Nat → FuncId}
/-- a table from 1 on, by its places; only those that r names -/
noncomputable def s3 (r : Nat → Nat → Nat → Prop) (G : Nat → Nat → Nat → UInt8) : By := fun x => if 1 ≤ x ∧ x < 513 ∧ r ((x - 1) / 64) ((x - 1) / 8 % 8) ((x - 1) % 8) then G ((x - 1) / 64) ((x - 1) / 8 % 8) ((x - 1) % 8) else 0
end Hf
namespace Hf
open Go Classical
variable {P : Program} {ρ : Nat → FuncId}
/-- a table of 64 by its places; only those that r names -/
noncomputable def s2 (r : Nat → Nat → Prop) (G : Nat → Nat → UInt8) : By := fun x => if x < 64 ∧ r (x / 8) (x % 8) then G (x / 8) (x % 8) else 0
theorem s2_upd {r r' : Nat → Nat → Prop} {G : Nat → Nat → UInt8} {a0 b0 : Nat} (ha : a0 < 8) (hb : b0 < 8) (h : ∀ a b, a < 8 → b < 8 → (r' a b ↔ r a b ∨ (a = a0 ∧ b = b0))) :
  upd (s2 r G) (a0 * 8 + b0) (G a0 b0) = s2 r' G := by
 funext x
 simp only [upd, s2]
 by_cases e : x = a0 * 8 + b0
 ·rw [if_pos e, show x / 8 = a0 by omega, show x % 8 = b0 by omega, if_pos ⟨by omega, (h _ _ ha hb).2 (.inr ⟨rfl, rfl⟩)⟩]
 ·rw [if_neg e]
  by_cases hx : x < 64
  ·have h1 := h (x / 8) (x % 8) (by omega) (by omega)
   have h2 : ¬ (x / 8 = a0 ∧ x % 8 = b0) := by omega
   by_cases q : r (x / 8) (x % 8)
   ·rw [if_pos ⟨hx, q⟩, if_pos ⟨hx, h1.2 (.inl q)⟩]
   ·rw [if_neg fun k => q k.2, if_neg fun k => (h1.1 k.2).elim q h2]
  ·rw [if_neg fun k => hx k.1, if_neg fun k => hx k.1]
theorem s2_eq {r r' : Nat → Nat → Prop} {G : Nat → Nat → UInt8} (h : ∀ a b, a < 8 → b < 8 → (r a b ↔ r' a b)) : s2 r G = s2 r' G := by
 funext x
 simp only [s2]
 by_cases hx : x < 64
 ·have h1 := h (x / 8) (x % 8) (by omega) (by omega)
  by_cases q : r (x / 8) (x % 8)
  ·rw [if_pos ⟨hx, q⟩, if_pos ⟨hx, h1.1 q⟩]
  ·rw [if_neg fun k => q k.2, if_neg fun k => q (h1.2 k.2)]
 ·rw [if_neg fun k => hx k.1, if_neg fun k => hx k.1]
theorem s2_z {r : Nat → Nat → Prop} {G : Nat → Nat → UInt8} (h : ∀ a b, a < 8 → b < 8 → ¬ r a b) : s2 r G = fun _ => 0 := by
 funext x
 simp only [s2]
 by_cases hx : x < 64
 ·rw [if_neg fun k => h _ _ (by omega) (by omega) k.2]
 ·rw [if_neg fun k => hx k.1]
theorem s2_out {r : Nat → Nat → Prop} {G : Nat → Nat → UInt8} : sh (spl (fun _ => 0) 0 64 (sh (s2 r G) 0)) 0 = s2 r G := out_eq (fun _ _ => rfl) fun k h => by simp only [s2]; rw [if_neg (by omega)]
/-- rows and columns exchanged -/
def trG (F : By) (a b : Nat) : UInt8 := F (b * 8 + a)
noncomputable def trT (F : By) : By := s2 (fun _ _ => True) (trG F)
theorem trT_app {F : By} {a b : Nat} (ha : a < 8) (hb : b < 8) : trT F (a * 8 + b) = F (b * 8 + a) := by
 simp only [trT, s2, trG]
 rw [if_pos ⟨by omega, trivial⟩, show (a * 8 + b) / 8 = a by omega, show (a * 8 + b) % 8 = b by omega]
theorem i_transposed_ok (B : Bs P ρ) (E : E_i_transposed P ρ) {F : By} :
  CallOK P ρ 227 [.pt 0 0] [⟨true, .by [] 64 F⟩] (.one (.ag [] 64 (trT F))) [⟨true, .by [] 64 F⟩] := by
 refine call_of_vc B.fn B.mo E rfl rfl ?_
 refine ⟨1, rfl, ?_⟩
 refine ⟨2, rfl, ?_⟩
 refine ⟨⟨rfl, by first | omega | (simp <;> omega), by first | omega | (simp <;> omega)⟩, ?_⟩   -- sta ['.t', 3] ['.t', 6] 64
 refine .inl ⟨(fun a0 b0 b1 i0 => St.mk [(0, a0), (2, .one (.pt 1 0)), (3, .one (.pt 2 0)), (7, .one (.i .i64 ((i0 : Nat) : Int)))] [b0, b1, Blk.mk false (.by [] 64 (s2 (fun a b => a < i0) (trG F)))]) _ _ _ , fun i0 => True, 8, trivial, ⟨⟨rfl, rfl, rfl, rfl, trivial⟩, ⟨rfl, rfl, ?_, trivial⟩, rfl⟩, fun i0 hi0 _ => ?_⟩
 ·exact blk_by (by rw [s2_z fun a b _ _ q => by omega]; exact z_sta.symm)
 refine ⟨fun h8 => ?_, fun h8 => ?_⟩
 ·replace h8 := of_decide_eq_true h8
  refine .inl ⟨(fun a0 a4 a7 b0 b1 i1 => St.mk [(0, a0), (2, .one (.pt 1 0)), (3, .one (.pt 2 0)), (4, a4), (7, a7), (10, .one (.i .i64 ((i1 : Nat) : Int)))] [b0, b1, Blk.mk false (.by [] 64 (s2 (fun a b => a < i0 ∨ (a = i0 ∧ b < i1)) (trG F)))]) _ _ _ _ _ , fun i1 => True, 8, trivial, ⟨⟨rfl, rfl, rfl, rfl, rfl, rfl, trivial⟩, ⟨rfl, rfl, ?_, trivial⟩, rfl⟩, fun i1 hi1 _ => ?_⟩
  ·exact blk_by (s2_eq fun a b _ _ => by omega)
  refine ⟨fun h11 => ?_, fun h11 => ?_⟩
  ·replace h11 := of_decide_eq_true h11
   refine ⟨i1, i1 * 8, rfl, by omega, by omega, ?_⟩
   refine ⟨i0, i1 * 8 + i0, rfl, by omega, by omega, ?_⟩
   refine ⟨⟨by first | omega | (simp <;> omega), by first | omega | (simp <;> omega)⟩, ?_⟩
   refine ⟨i0, i0 * 8, rfl, by omega, by omega, ?_⟩
   refine ⟨i1, i0 * 8 + i1, rfl, by omega, by omega, ?_⟩
   refine ⟨⟨by first | omega | (simp <;> omega), by first | omega | (simp <;> omega)⟩, ?_⟩   -- st8 ['.t', 23] ['.t', 21]
   refine ⟨((i1 + 1 : Nat) : Int), w64_id _ (by omega) (by omega), ?_⟩
   refine ⟨by omega, trivial, ⟨rfl, rfl, rfl, rfl, rfl, rfl, trivial⟩, ⟨rfl, rfl, ?_, trivial⟩, rfl⟩
   exact blk_by (s2_upd (G := trG F) (by omega) (by omega) fun a b _ _ => by omega).symm
  ·replace h11 := of_decide_eq_false h11
   have e1 : 8 = i1 := by omega
   subst e1
   refine ⟨((i0 + 1 : Nat) : Int), w64_id _ (by omega) (by omega), ?_⟩
   refine ⟨by omega, trivial, ⟨rfl, rfl, rfl, rfl, trivial⟩, ⟨rfl, rfl, ?_, trivial⟩, rfl⟩
   exact blk_by (s2_eq fun a b _ _ => by omega)
 ·replace h8 := of_decide_eq_false h8
  have e0 : 8 = i0 := by omega
  subst e0
  refine ⟨⟨by first | omega | (simp <;> omega), by first | omega | (simp <;> omega)⟩, ?_⟩
  refine ⟨⟨rfl, by first | omega | (simp <;> omega), by first | omega | (simp <;> omega)⟩, ?_⟩   -- sta ['.t', 2] ['.t', 26] 64
  refine ⟨rfl, ⟨by first | omega | (simp <;> omega), by first | omega | (simp <;> omega)⟩, [], ?_, rfl, ⟨rfl, trivial⟩, rfl, rfl⟩
  exact one_ag (s2_out.trans (s2_eq fun a b h _ => ⟨fun _ => trivial, fun _ => h⟩))

-- left out: i_DualModule (not among the functions at hand)
-- left out: s_DualModule (not among the functions at hand)
-- left out: l_FnExactDualModule (not among the functions at hand)

end Hf
namespace Hf
open Go Classical
variable {P : Program} {ρ : Nat → FuncId}
theorem cat_u {N x : Nat} {f : By} (h : x < N) : cat (.by [] N f) x = some (.u (f x)) := by simp [cat, h]
theorem cat_hd {hd : List Int} {N x : Nat} {f : By} {z : Int} (h0 : hd[x]? = some z) (h : x < N) : cat (.by hd N f) x = some (.i .i64 z) := by
 simp [cat, h, h0]
theorem cput_u {hd : List Int} {N x : Nat} {f : By} {v : UInt8} (h0 : hd.length ≤ x) (h : x < N) : cput (.by hd N f) x (.u v) = some (.by hd N (upd f x v)) := if_pos ⟨h0, h⟩
theorem cputs_by {hd : List Int} {N off n : Nat} {f g : By} (h0 : hd.length ≤ off) (h : off + n ≤ N) : cputs (.by hd N f) off (.ag [] n g) n = some (.by hd N (spl f off n g)) := if_pos ⟨rfl, h0, h⟩
theorem Ext.nil {H : List Blk} : Ext [] H := fun k B h => by simp at h
theorem Ext.get {H H' : List Blk} (h : Ext H H') {k : Nat} {B : Blk} (e : H[k]? = some B) : H'[k]? = some B := h k B e
theorem get_new {H : List Blk} {B : Blk} : (H ++ [B])[H.length]? = some B := by simp
theorem lt_of {H : List Blk} {k : Nat} {B : Blk} (e : H[k]? = some B) : k < H.length := (List.getElem?_eq_some_iff.1 e).1
theorem set_same {H : List Blk} {k : Nat} {A B : Blk} (e : H[k]? = some A) : (H.set k B)[k]? = some B := by
 have := lt_of e; simp [this]
theorem set_other {H : List Blk} {k j : Nat} {A B : Blk} (e : H[j]? = some A) (h : k ≠ j) : (H.set k B)[j]? = some A := by
 rw [List.getElem?_set_ne h]; exact e
theorem app_old {H G : List Blk} {j : Nat} {A : Blk} (e : H[j]? = some A) : (H ++ G)[j]? = some A := Ext.app _ _ e

/-- the first place of n, from i on, at which q holds, else where they end -/
def fstN (q : Nat → Bool) : Nat → Nat → Nat
  | 0, i => i
  | n + 1, i => if q i = true then i else fstN q n (i + 1)
theorem fstN_ge {q : Nat → Bool} : ∀ {n i : Nat}, i ≤ fstN q n i ∧ fstN q n i ≤ i + n
  | 0, i => by simp [fstN]
  | n + 1, i => by
    simp only [fstN]
    split
    · omega
    · have := @fstN_ge q n (i + 1); omega
theorem fstN_eq {q : Nat → Bool} {k : Nat} : ∀ {n i : Nat}, i ≤ k → k < i + n → q k = true → (∀ j, i ≤ j → j < k → q j = false) → fstN q n i = k
  | 0, i, h1, h2, _, _ => by omega
  | n + 1, i, h1, h2, h3, h4 => by
    simp only [fstN]
    by_cases e : i = k
    · subst e; rw [if_pos h3]
    · rw [if_neg (by rw [h4 i (Nat.le_refl _) (by omega)]; simp)]
      exact fstN_eq (by omega) (by omega) h3 fun j h5 h6 => h4 j (by omega) h6
theorem fstN_end {q : Nat → Bool} : ∀ {n i : Nat}, (∀ j, i ≤ j → j < i + n → q j = false) → fstN q n i = i + n
  | 0, i, _ => rfl
  | n + 1, i, h => by
    simp only [fstN]
    rw [if_neg (by rw [h i (Nat.le_refl _) (by omega)]; simp), fstN_end fun j h1 h2 => h j (by omega) (by omega)]
    omega
theorem fstN_none {q : Nat → Bool} : ∀ {n i : Nat} (j : Nat), i ≤ j → j < fstN q n i → q j = false
  | 0, i, j, h1, h2 => by simp only [fstN] at h2; omega
  | n + 1, i, j, h1, h2 => by
    simp only [fstN] at h2
    split at h2
    · omega
    · rename_i h
      rcases Nat.eq_or_lt_of_le h1 with e | e
      · subst e; simpa using h
      · exact fstN_none j e h2
theorem fstN_some {q : Nat → Bool} : ∀ {n i : Nat}, fstN q n i < i + n → q (fstN q n i) = true
  | 0, i, h => by simp only [fstN] at h; omega
  | n + 1, i, h => by
    simp only [fstN] at h ⊢
    split
    · assumption
    · rename_i hq
      rw [if_neg hq] at h
      exact fstN_some (by omega)

/-- the place of the first entry other than 0 of eight, or 8 -/
def fst8 (v : By) : Nat := fstN (fun i => v i != 0) 8 0
theorem fst8_le {v : By} : fst8 v ≤ 8 := by have := @fstN_ge (fun i => v i != 0) 8 0; unfold fst8; omega


/-- the least k in 1 .. p - 1 with k x = 1 modulo p, or p -/
def invN (p : Int) (x : UInt8) : Nat := fstN (fun k => ((k : Nat) : Int) * (x.toNat : Int) % p == 1) (p - 1).toNat 1
theorem mul_bd2 {a b c d : Int} (h1 : 0 ≤ a) (h2 : a ≤ c) (h3 : 0 ≤ b) (h4 : b ≤ d) : 0 ≤ a * b ∧ a * b ≤ c * d :=
 ⟨Int.mul_nonneg h1 h3, Int.mul_le_mul h2 h4 h3 (Int.le_trans h1 h2)⟩

/-! ### slices of vectors -/
def z0 : By := fun _ => 0
/-- the slice a, over the blocks H, has the vectors L -/
def VS (H : List Blk) (a : At) (L : List By) : Prop :=
 (a = .sn ∧ L = []) ∨ ∃ k off cap r N f, a = .sl k off L.length cap ∧ H[k]? = some ⟨r, .by [] N f⟩ ∧ (off + cap * 8 ≤ N ∧ L.length ≤ cap) ∧ ∀ i x, i < L.length → x < 8 → f (off + i * 8 + x) = (L.getD i z0) x
/-- the same, and it may be written behind: its block is none of the first m -/
def VW (m : Nat) (H : List Blk) (a : At) (L : List By) : Prop :=
 ∃ k off cap N f, a = .sl k off L.length cap ∧ H[k]? = some ⟨false, .by [] N f⟩ ∧ (off + cap * 8 ≤ N ∧ L.length ≤ cap ∧ m ≤ k) ∧ ∀ i x, i < L.length → x < 8 → f (off + i * 8 + x) = (L.getD i z0) x
/-- the first m blocks are there still -/
def Upto (m : Nat) (H H' : List Blk) : Prop := ∀ (k : Nat) (B : Blk), k < m → H[k]? = some B → H'[k]? = some B
theorem Upto.refl {m : Nat} {H : List Blk} : Upto m H H := fun _ _ _ h => h
theorem Upto.trans {m : Nat} {H H1 H2 : List Blk} (h : Upto m H H1) (h' : Upto m H1 H2) : Upto m H H2 := fun k B hk e => h' k B hk (h k B hk e)
theorem Upto.ext {m : Nat} {H H1 H2 : List Blk} (h : Ext H H1) (h' : Upto m H1 H2) (hm : H.length ≤ m) : Ext H H2 := fun k B e => h' k B (by have := lt_of e; omega) (h k B e)
theorem Ext.upto {m : Nat} {H H' : List Blk} (h : Ext H H') : Upto m H H' := fun k B _ e => h k B e
theorem Upto.get {m k : Nat} {H H' : List Blk} {B : Blk} (h : Upto m H H') (e : H[k]? = some B) (hk : k < m) : H'[k]? = some B := h k B hk e
theorem VW.vs {m : Nat} {H : List Blk} {a : At} {L : List By} (h : VW m H a L) : VS H a L := by
 obtain ⟨k, off, cap, N, f, h1, h2, h3, h4⟩ := h
 exact .inr ⟨k, off, cap, false, N, f, h1, h2, ⟨h3.1, h3.2.1⟩, h4⟩
theorem VW.mono {m m' : Nat} {H : List Blk} {a : At} {L : List By} (h : VW m H a L) (hm : m' ≤ m) : VW m' H a L := by
 obtain ⟨k, off, cap, N, f, h1, h2, h3, h4⟩ := h
 exact ⟨k, off, cap, N, f, h1, h2, ⟨h3.1, h3.2.1, by omega⟩, h4⟩
theorem VS.ext {H H' : List Blk} {a : At} {L : List By} (h : VS H a L) (e : Ext H H') : VS H' a L := by
 rcases h with h | ⟨k, off, cap, r, N, f, h1, h2, h3, h4⟩
 ·exact .inl h
 ·exact .inr ⟨k, off, cap, r, N, f, h1, e k _ h2, h3, h4⟩
theorem VS.nil {H : List Blk} : VS H .sn [] := .inl ⟨rfl, rfl⟩
theorem VW.ext {m : Nat} {H H' : List Blk} {a : At} {L : List By} (h : VW m H a L) (e : Ext H H') : VW m H' a L := by
 obtain ⟨k, off, cap, N, f, h1, h2, h3, h4⟩ := h
 exact ⟨k, off, cap, N, f, h1, e k _ h2, h3, h4⟩
theorem VS.lt {H : List Blk} {a : At} {L : List By} (h : VS H a L) : a.lt H.length = true := by
 rcases h with ⟨rfl, -⟩ | ⟨k, off, cap, r, N, f, rfl, h2, h3, h4⟩
 ·rfl
 have := lt_of h2
 simp [At.lt, this]
theorem VS.len {H : List Blk} {a : At} {L : List By} (h : VS H a L) : lenA a = some L.length := by
 rcases h with ⟨rfl, rfl⟩ | ⟨k, off, cap, r, N, f, rfl, -⟩ <;> rfl
theorem VS.at {H : List Blk} {a : At} {L : List By} (h : VS H a L) (i : Nat) (hi : i < L.length) :
  ∃ k off len cap q, a = .sl k off len cap ∧ i < len ∧ off + i * 8 = q ∧ ∃ r N f, H[k]? = some ⟨r, .by [] N f⟩ ∧ q + 8 ≤ N ∧ ∀ x, x < 8 → (L.getD i z0) x = f (q + x) := by
 rcases h with ⟨rfl, rfl⟩ | ⟨k, off, cap, r, N, f, rfl, h2, h3, h4⟩
 ·simp at hi
 exact ⟨k, off, L.length, cap, off + i * 8, rfl, hi, rfl, r, N, f, h2, by omega, fun x hx => (h4 i x hi hx).symm⟩
theorem cat_vs {q N x : Nat} {f g : By} (hN : q + 8 ≤ N) (h : ∀ x, x < 8 → g x = f (q + x)) (hx : x < 8) : cat (.by [] N f) (q + x) = some (.u (g x)) := by
 rw [h x hx]; exact cat_u (by omega)
/-- a new list without vectors -/
theorem VW.nil {m : Nat} {H : List Blk} {f : By} (hm : m ≤ H.length) : VW m (H ++ [⟨false, .by [] (0 * 8) f⟩]) (.sl H.length 0 0 0) [] :=
 ⟨H.length, 0, 0, _, f, rfl, get_new, ⟨by omega, by simp, hm⟩, fun i x h => by simp at h⟩
/-- a new list with one vector -/
theorem VS.one {H : List Blk} {v : By} : VS (H ++ [⟨false, .by [] (1 * 8) (spl (fun _ => 0) (0 * 8) 8 v)⟩]) (.sl H.length 0 1 1) [v] := by
 refine .inr ⟨H.length, 0, 1, false, _, _, rfl, get_new, ⟨by omega, by simp⟩, fun i x h hx => ?_⟩
 obtain rfl : i = 0 := by simpa using h
 simp [spl, hx]

theorem getD_app {L M : List By} {i : Nat} : (L ++ M).getD i z0 = if i < L.length then L.getD i z0 else M.getD (i - L.length) z0 := by
 simp only [List.getD_eq_getElem?_getD]
 split
 ·rename_i h; rw [List.getElem?_append_left h]
 ·rename_i h; rw [List.getElem?_append_right (by omega)]

/-- append of vectors -/
theorem vw_app {m : Nat} {H : List Blk} {a b : At} {L M : List By} (hL : VW m H a L) (hM : VS H b M) (hb : L.length + M.length ≤ 1000000000) (hm : m ≤ H.length) :
  apB 8 8 H a b fun a' H' => VW m H' a' (L ++ M) ∧ Upto m H H' := by
 obtain ⟨k, off, cap, N, f, rfl, hk, ⟨h1, h2, h3⟩, hf⟩ := hL
 have hlt := lt_of hk
 obtain ⟨g, hrd, hg⟩ : ∃ g, rdB H 8 b M.length g ∧ ∀ i x, i < M.length → x < 8 → g (i * 8 + x) = (M.getD i z0) x := by
  rcases hM with ⟨rfl, rfl⟩ | ⟨k2, off2, cap2, r2, N2, f2, rfl, hk2, ⟨h4, h5⟩, hf2⟩
  ·exact ⟨z0, rfl, fun i x h => by simp at h⟩
  ·exact ⟨sh f2 off2, ⟨rfl, r2, N2, f2, hk2, by omega, fun _ _ => rfl⟩, fun i x hi hx => by rw [← hf2 i x hi hx, sh_app]; congr 1; omega⟩
 refine ⟨M.length, g, N, f, hrd, hk, ⟨h1, h2, by omega, by omega⟩, fun hc => ⟨⟨k, off, cap, N, _, by rw [List.length_append], set_same hk, ⟨h1, by rw [List.length_append]; exact hc, h3⟩, ?_⟩, fun j B hj e => set_other e (by omega)⟩,
  fun hc cap' hcap' => ⟨⟨H.length, 0, cap', _, _, by rw [List.length_append], get_new, ⟨by omega, by rw [List.length_append]; exact hcap', by omega⟩, ?_⟩, fun j B hj e => app_old e⟩⟩
 ·intro i x hi hx
  rw [List.length_append] at hi
  rw [getD_app]
  by_cases h : i < L.length
  ·rw [if_pos h, ← hf i x h hx]
   simp only [spl]
   rw [if_neg (by omega)]
  ·rw [if_neg h, ← hg (i - L.length) x (by omega) hx]
   simp only [spl]
   rw [if_pos (by omega)]
   congr 1; omega
 ·intro i x hi hx
  rw [List.length_append] at hi
  rw [getD_app]
  by_cases h : i < L.length
  ·rw [if_pos h, ← hf i x h hx]
   simp only [apf, sh_app]
   rw [if_pos (by omega)]
   congr 1; omega
  ·rw [if_neg h, ← hg (i - L.length) x (by omega) hx]
   simp only [apf]
   rw [if_neg (by omega), if_pos (by omega)]
   congr 1; omega

/-- v less what a list takes away of it -/
def addV (p : Int) (v w : By) (k : Int) : By := vec 8 p fun y => bz v y + k * bz w y
def byL1 (p : Int) (v r : By) : By := if v (fst8 r) = 0 then v else addV p v r (-(bz v (fst8 r)))
def byL (p : Int) (v : By) (L : List By) : By := L.foldl (byL1 p) v
theorem byL_snoc {p : Int} {v r : By} {L : List By} : byL p v (L ++ [r]) = byL1 p (byL p v L) r := by simp [byL]
theorem byL_take {p : Int} {v : By} {L : List By} {i : Nat} (h : i < L.length) : byL p v (L.take (i + 1)) = byL1 p (byL p v (L.take i)) (L.getD i z0) := by
 rw [← byL_snoc]
 congr 1
 rw [List.take_add_one]
 simp [h]
theorem getD_mem {L : List By} {i : Nat} (h : i < L.length) : L.getD i z0 ∈ L := by
 rw [List.getD_eq_getElem?_getD, List.getElem?_eq_getElem h]; simp

theorem app_new {H l : List Blk} {i : Nat} {B : Blk} (h : l[i]? = some B) : (H ++ l)[H.length + i]? = some B := by
 rw [List.getElem?_append_right (by omega), Nat.add_sub_cancel_left]; exact h
theorem app_set {H l : List Blk} {i : Nat} {B : Blk} : (H ++ l).set (H.length + i) B = H ++ l.set i B := by
 rw [List.set_append_right _ _ (by omega), Nat.add_sub_cancel_left]
theorem app_set0 {H : List Blk} {A B : Blk} : (H ++ [A]).set H.length B = H ++ [B] := app_set (i := 0)
theorem app2 {H : List Blk} {A B : Blk} : H ++ [A] ++ [B] = H ++ [A, B] := by simp
theorem addV_congr {p k k' : Int} {v v' w w' : By} (h : ∀ y, y < 8 → v y = v' y) (h' : ∀ y, y < 8 → w y = w' y) (hk : k = k') : addV p v w k = addV p v' w' k' := by
 subst hk
 refine vec_congr fun y hy => cg_of_eq ?_
 unfold bz
 rw [h y hy, h' y hy]
end Hf
namespace Hf
open Go Classical
variable {P : Program} {ρ : Nat → FuncId}
theorem s_l01First_ok (B : Bs P ρ) (E : F_s_l01First P ρ) {v : By} :
  CallOK P ρ 273 [.ag [] 8 v] [] (.one (.i .i64 ((fst8 v : Nat) : Int))) [] := by
 refine (CallR.pure (call_of_q B.fn B.mo E rfl (fun _ _ => ?_) rfl) rfl).ok
 refine ⟨0, rfl, ?_⟩
 refine ⟨Unit, (fun a1 (i0 : Nat) (x0 : Unit) => [(1, a1), (3, .one (.i .i64 ((i0 : Nat) : Int)))]) _ , fun (i0 : Nat) (x0 : Unit) (G0 : List Blk) => (G0 = [⟨false, .by [] 8 v⟩] ∧ ∀ j, j < i0 → v j = 0), 8, ⟨(), ⟨rfl, fun j h => by omega⟩, ⟨rfl, rfl, trivial⟩⟩, ?_⟩
 rintro i0 _ G0 hi0 ⟨rfl, hF0⟩
 refine ⟨fun h6 => ?_, fun h6 => ?_⟩
 ·replace h6 := of_decide_eq_true h6
  refine brB_t ?_
  refine ⟨i0, i0, rfl, by omega, by omega, ?_⟩
  refine brB_t ?_
  refine ⟨_, _, rfl, cat_u (by omega), ?_⟩
  iterate 2 refine brB_t ?_
  refine ⟨fun h11 => ?_, fun h11 => ?_⟩
  ·replace h11 := eq_of_beq h11
   refine ⟨((i0 + 1 : Nat) : Int), w64_id _ (by omega) (by omega), ?_⟩
   refine ⟨by omega, (), ?_, ⟨rfl, rfl, trivial⟩⟩
   refine ⟨rfl, fun j hj => ?_⟩
   by_cases e : j = i0
   ·rw [e]; exact h11
   ·exact hF0 j (by omega)
  ·replace h11 := ne_of_beq_false h11
   have e : fst8 v = i0 := fstN_eq (by omega) (by omega) (by simpa using h11) fun j _ hj => by simp [hF0 j hj]
   exact ⟨rfl, by rw [e]; rfl, Ext.nil⟩
 ·replace h6 := of_decide_eq_false h6
  iterate 5 refine brB_f ?_
  have e : fst8 v = i0 := by
   have h : fst8 v = 0 + 8 := fstN_end fun j _ hj => by simp [hF0 j (by omega)]
   omega
  exact ⟨rfl, by rw [e]; rfl, Ext.nil⟩

theorem s_l01Inverse_ok (B : Bs P ρ) (E : F_s_l01Inverse P ρ) {p : Int} {x : UInt8} (hp : 1 ≤ p) (hp2 : p ≤ 256) :
  CallOK P ρ 274 [.i .i64 p, .u x] [] (.one (.u (byt (if ((invN p x : Nat) : Int) < p then ((invN p x : Nat) : Int) else 0)))) [] := by
 refine (CallR.pure (call_of_q B.fn B.mo E rfl (fun _ _ => ?_) rfl) rfl).ok
 refine ⟨Unit, (fun a0 a1 (i0 : Nat) (x0 : Unit) => [(0, a0), (1, a1), (5, .one (.i .i64 ((1 + i0 : Nat) : Int)))]) _ _ , fun (i0 : Nat) (x0 : Unit) (G0 : List Blk) => (G0 = [] ∧ ∀ j : Nat, 1 ≤ j → j < 1 + i0 → ((j : Int) * (x.toNat : Int) % p == 1) = false), (p - 1).toNat, ⟨(), ⟨rfl, fun j h1 h2 => by omega⟩, ⟨rfl, rfl, rfl, trivial⟩⟩, ?_⟩
 rintro i0 _ G0 hi0 ⟨rfl, hF0⟩
 refine ⟨fun h8 => ?_, fun h8 => ?_⟩
 ·replace h8 := of_decide_eq_true h8
  have hx := toNat_le x
  have hm := mul_bd2 (a := ((1 + i0 : Nat) : Int)) (b := (x.toNat : Int)) (c := 256) (d := 255) (by omega) (by omega) (by omega) (by omega)
  refine ⟨_, w64_id _ (by omega) (by omega), ?_⟩
  refine ⟨by omega, _, Int.tmod_eq_emod_of_nonneg hm.1, ?_⟩
  refine ⟨fun h17 => ?_, fun h17 => ?_⟩
  ·replace h17 := eq_of_beq h17
   have e : invN p x = 1 + i0 := fstN_eq (by omega) (by omega) (by simpa using h17) fun j h1 hj => hF0 j h1 hj
   exact ⟨rfl, by rw [e, if_pos (by omega)]; rfl, Ext.nil⟩
  ·replace h17 := ne_of_beq_false h17
   refine ⟨((1 + i0 + 1 : Nat) : Int), w64_id _ (by omega) (by omega), ?_⟩
   refine ⟨by omega, (), ?_, ⟨rfl, rfl, rfl, trivial⟩⟩
   refine ⟨rfl, fun j h1 h2 => ?_⟩
   by_cases e : j = 1 + i0
   ·rw [e]; simpa using h17
   ·exact hF0 j h1 (by omega)
 ·replace h8 := of_decide_eq_false h8
  have e : invN p x = 1 + (p - 1).toNat := fstN_end fun j h1 hj => hF0 j h1 (by omega)
  exact ⟨rfl, by rw [e, if_neg (by omega)]; rfl, Ext.nil⟩

theorem i_field_inverse_ok (B : Bs P ρ) (E : F_i_field_inverse P ρ) {p n : Int} {g : By} {x : UInt8} (hp : 1 ≤ p) (hp2 : p ≤ 256) :
  CallOK P ρ 279 [.ag [p, n] 2 g, .u x] [] (.one (.i .i64 (if ((invN p x : Nat) : Int) < p then ((invN p x : Nat) : Int) else 1 % p))) [] := by
 refine (CallR.pure (call_of_q B.fn B.mo E rfl (fun _ _ => ?_) rfl) rfl).ok
 refine ⟨0, rfl, ?_⟩
 refine ⟨Unit, (fun a1 a2 (i0 : Nat) (x0 : Unit) => [(1, a1), (2, a2), (5, .one (.i .i64 ((1 + i0 : Nat) : Int)))]) _ _ , fun (i0 : Nat) (x0 : Unit) (G0 : List Blk) => (G0 = [⟨false, .by [p, n] 2 g⟩] ∧ ∀ j : Nat, 1 ≤ j → j < 1 + i0 → ((j : Int) * (x.toNat : Int) % p == 1) = false), (p - 1).toNat, ⟨(), ⟨rfl, fun j h1 h2 => by omega⟩, ⟨rfl, rfl, rfl, trivial⟩⟩, ?_⟩
 rintro i0 _ G0 hi0 ⟨rfl, hF0⟩
 refine ⟨_, _, rfl, cat_hd (z := p) rfl (by omega), ?_⟩
 refine ⟨fun h9 => ?_, fun h9 => ?_⟩
 ·replace h9 := of_decide_eq_true h9
  have hx := toNat_le x
  have hm := mul_bd2 (a := ((1 + i0 : Nat) : Int)) (b := (x.toNat : Int)) (c := 256) (d := 255) (by omega) (by omega) (by omega) (by omega)
  refine ⟨_, w64_id _ (by omega) (by omega), ?_⟩
  refine ⟨_, _, rfl, cat_hd (z := p) rfl (by omega), ?_⟩
  refine ⟨by omega, _, Int.tmod_eq_emod_of_nonneg hm.1, ?_⟩
  refine ⟨fun h19 => ?_, fun h19 => ?_⟩
  ·replace h19 := eq_of_beq h19
   have e : invN p x = 1 + i0 := fstN_eq (by omega) (by omega) (by simpa using h19) fun j h1 hj => hF0 j h1 hj
   exact ⟨rfl, by rw [e, if_pos (by omega)]; rfl, Ext.nil⟩
  ·replace h19 := ne_of_beq_false h19
   refine ⟨((1 + i0 + 1 : Nat) : Int), w64_id _ (by omega) (by omega), ?_⟩
   refine ⟨by omega, (), ?_, ⟨rfl, rfl, rfl, trivial⟩⟩
   refine ⟨rfl, fun j h1 h2 => ?_⟩
   by_cases e : j = 1 + i0
   ·rw [e]; simpa using h19
   ·exact hF0 j h1 (by omega)
 ·replace h9 := of_decide_eq_false h9
  refine ⟨_, _, rfl, cat_hd (z := p) rfl (by omega), ?_⟩
  refine ⟨by omega, _, Int.tmod_eq_emod_of_nonneg (by omega), ?_⟩
  have e : invN p x = 1 + (p - 1).toNat := fstN_end fun j h1 hj => hF0 j h1 (by omega)
  exact ⟨rfl, by rw [e, if_neg (by omega)]; rfl, Ext.nil⟩


end Hf
namespace Hf
open Go Classical
variable {P : Program} {ρ : Nat → FuncId}
theorem s_l01By_ok (B : Bs P ρ) (E : F_s_l01By P ρ) {p : Int} {v : By} {H : List Blk} {a : At} {L : List By} (hp : 1 ≤ p) (hp2 : p ≤ 256) (hL : VS H a L) (hl : ∀ r ∈ L, fst8 r < 8) (hlen : L.length ≤ 1000000) :
  CallR P ρ 272 [.i .i64 p, .ag [] 8 v, a] H (fun u G => u = .one (.ag [] 8 (byL p v L)) ∧ G = H) := by
 refine CallR.pure (call_of_q B.fn B.mo E.1 rfl (fun hA hH => ?_) (by simp only [List.all_cons, List.all_nil, hL.lt]; rfl)) rfl
 refine ⟨H.length, rfl, ?_⟩
 refine ⟨H.length + 1, by simp, ?_⟩
 refine ⟨Unit, (fun a0 a2 a4 a6 (i0 : Nat) (x0 : Unit) => [(0, a0), (2, a2), (4, a4), (6, a6), (7, .one (.i .i64 ((i0 : Nat) : Int)))]) _ _ _ _ , fun (i0 : Nat) (x0 : Unit) (G0 : List Blk) => (∃ w, G0 = H ++ [⟨false, .by [] 8 w⟩, ⟨false, .by [] 8 z0⟩] ∧ ∀ y, y < 8 → w y = byL p v (L.take i0) y), L.length, ⟨(), ⟨v, app2, fun _ _ => rfl⟩, ⟨rfl, rfl, rfl, rfl, rfl, trivial⟩⟩, ?_⟩
 rintro i0 _ G0 hi0 ⟨w, rfl, hw⟩
 refine ⟨_, (hL).len, ?_⟩
 refine ⟨fun h12 => ?_, fun h12 => ?_⟩
 ·replace h12 := of_decide_eq_true h12
  obtain ⟨k17, o17, n17, c17, q17, ea17, hl17, hq17, r17, N17, f17, hk17, hN17, hf17⟩ := (hL.ext Ext.app).at i0 (by omega)
  refine ⟨k17, o17, n17, c17, i0, q17, ea17, rfl, hl17, hq17, ?_⟩
  refine ⟨_, _, _, _, _, hk17, ⟨by simp, hN17⟩, hf17, ?_⟩
  refine ⟨_, s_l01First_ok B E.2.1 , rfl, ?_⟩
  have hfl := hl _ (getD_mem (L := L) (i := i0) (by omega))
  refine ⟨fst8 (L.getD i0 z0), fst8 (L.getD i0 z0), rfl, hfl, by omega, ?_⟩
  refine ⟨_, _, app_new (i := 0) rfl, cat_u hfl, ?_⟩
  refine ⟨fun h23 => ?_, fun h23 => ?_⟩
  ·replace h23 := bne_t h23
   refine ⟨_, _, _, _, _, app_new (i := 0) rfl, ⟨by simp, by omega⟩, fun x _ => congrArg _ (Nat.zero_add x).symm, ?_⟩
   obtain ⟨k28, o28, n28, c28, q28, ea28, hl28, hq28, r28, N28, f28, hk28, hN28, hf28⟩ := (hL.ext Ext.app).at i0 (by omega)
   refine ⟨k28, o28, n28, c28, i0, q28, ea28, rfl, hl28, hq28, ?_⟩
   refine ⟨_, _, _, _, _, hk28, ⟨by simp, hN28⟩, hf28, ?_⟩
   refine ⟨fst8 (L.getD i0 z0), fst8 (L.getD i0 z0), rfl, hfl, by omega, ?_⟩
   refine ⟨_, _, app_new (i := 0) rfl, cat_u hfl, ?_⟩
   have hx := toNat_le (w (fst8 (L.getD i0 z0)))
   refine ⟨_, w64_id _ (by omega) (by omega), ?_⟩
   refine ⟨_, s_l01Add_ok B E.2.2 hp (by omega) (by omega) (by omega), rfl, ?_⟩
   refine ⟨_, _, _, app_new (i := 0) rfl, cputs_by (by simp) (by omega), eqBk_rfl, ?_⟩
   refine ⟨((i0 + 1 : Nat) : Int), w64_id _ (by omega) (by omega), ?_⟩
   refine ⟨by omega, (), ?_, ⟨rfl, rfl, rfl, rfl, rfl, trivial⟩⟩
   refine ⟨_, app_set (i := 0), fun y hy => ?_⟩
   rw [byL_take (by omega), byL1, if_neg (by rw [← hw _ hfl]; exact h23)]
   have : addV p (byL p v (L.take i0)) (L.getD i0 z0) (-(bz (byL p v (L.take i0)) (fst8 (L.getD i0 z0)))) = addV p w (L.getD i0 z0) (-(bz w (fst8 (L.getD i0 z0)))) :=
    addV_congr (fun y hy => (hw y hy).symm) (fun _ _ => rfl) (by unfold bz; rw [hw _ hfl])
   rw [this]
   simp [spl, hy, addV, bz]
  ·replace h23 := bne_f h23
   refine ⟨((i0 + 1 : Nat) : Int), w64_id _ (by omega) (by omega), ?_⟩
   refine ⟨by omega, (), ?_, ⟨rfl, rfl, rfl, rfl, rfl, trivial⟩⟩
   refine ⟨w, rfl, fun y hy => ?_⟩
   rw [byL_take (by omega), byL1, if_pos (by rw [← hw _ hfl]; exact h23)]
   exact hw y hy
 ·replace h12 := of_decide_eq_false h12
  have e0 : L.length = i0 := by omega
  subst e0
  refine ⟨_, _, _, _, _, app_new (i := 0) rfl, ⟨by simp, by omega⟩, fun x _ => congrArg _ (Nat.zero_add x).symm, ?_⟩
  refine ⟨_, _, _, app_new (i := 1) rfl, cputs_by (by simp) (by omega), eqBk_rfl, ?_⟩
  refine ⟨rfl, false, [], 8, _, byL p v L, (by rw [app_set]; exact app_new (i := 1) rfl), ⟨by simp, by omega⟩, fun x hx => ?_, rfl, Ext.app.set (by omega)⟩
  rw [← List.take_length (l := L), ← hw x hx]
  simp [spl, hx]

/-- a factor's inverse, as a byte -/
def invB (p : Int) (x : UInt8) : UInt8 := byt (if ((invN p x : Nat) : Int) < p then ((invN p x : Nat) : Int) else 0)
/-- a list with v laid in: step by step -/
def putS (p : Int) (v : By) (at_ : Nat) (s : List By × Bool) (r : By) : List By × Bool :=
 if s.2 = false ∧ at_ < fst8 r then (s.1 ++ [v] ++ [addV p r v (-(bz r at_))], true) else (s.1 ++ [addV p r v (-(bz r at_))], s.2)
def putV (p : Int) (v : By) : By := addV p z0 v (((invB p (v (fst8 v))).toNat : Nat) : Int)
def putL (p : Int) (L : List By) (v : By) : List By :=
 if eqB 8 (byL p v L) z0 = true then L else
  let s := L.foldl (putS p (putV p (byL p v L)) (fst8 (byL p v L))) ([], false)
  if s.2 = true then s.1 else s.1 ++ [putV p (byL p v L)]
def putT (p : Int) (v : By) (at_ : Nat) (L : List By) (i : Nat) : List By × Bool := (L.take i).foldl (putS p v at_) ([], false)
theorem putT_succ {p : Int} {v : By} {at_ : Nat} {L : List By} {i : Nat} (h : i < L.length) : putT p v at_ L (i + 1) = putS p v at_ (putT p v at_ L i) (L.getD i z0) := by
 have e : L[i]? = some (L.getD i z0) := by rw [List.getD_eq_getElem?_getD, List.getElem?_eq_getElem h]; rfl
 unfold putT
 rw [List.take_add_one, e, List.foldl_append]
 rfl
theorem putT_len {p : Int} {v : By} {at_ : Nat} {L : List By} : ∀ {i : Nat}, i ≤ L.length → (putT p v at_ L i).1.length ≤ i + 1 ∧ ((putT p v at_ L i).2 = false → (putT p v at_ L i).1.length ≤ i)
  | 0, _ => by simp [putT]
  | i + 1, h => by
    have := @putT_len p v at_ L i (by omega)
    rw [putT_succ (by omega)]
    unfold putS
    split
    · rename_i hc
      have := this.2 hc.1
      constructor
      · simp only [List.length_append, List.length_singleton]; omega
      · intro e; cases e
    · constructor
      · simp only [List.length_append, List.length_singleton]; omega
      · intro e
        have := this.2 e
        simp only [List.length_append, List.length_singleton]; omega
theorem eqB_ex {v : By} (h : eqB 8 v z0 = false) : fst8 v < 8 := by
 rcases Nat.lt_or_ge (fst8 v) 8 with h1 | h1
 ·exact h1
 ·exfalso
  have h2 : eqB 8 v z0 = true := eqB_iff.2 fun x hx => by
   have := @fstN_none (fun i => v i != 0) 8 0 x (Nat.zero_le _) (by unfold fst8 at h1; omega)
   simpa [z0] using this
  rw [h2] at h; cases h
theorem putL_z {p : Int} {L : List By} {v : By} (h : eqB 8 (byL p v L) z0 = true) : putL p L v = L := by rw [putL, if_pos h]
theorem putL_eq {p : Int} {L : List By} {v : By} (h : eqB 8 (byL p v L) z0 = false) : putL p L v = if (putT p (putV p (byL p v L)) (fst8 (byL p v L)) L L.length).2 = true then (putT p (putV p (byL p v L)) (fst8 (byL p v L)) L L.length).1 else (putT p (putV p (byL p v L)) (fst8 (byL p v L)) L L.length).1 ++ [putV p (byL p v L)] := by
 rw [putL, if_neg (by rw [h]; simp)]
 unfold putT
 rw [List.take_length]

theorem s_l01Put_ok (B : Bs P ρ) (E : F_s_l01Put P ρ) {p : Int} {v : By} {H : List Blk} {a : At} {L : List By} (hp : 1 ≤ p) (hp2 : p ≤ 256) (hL : VS H a L) (hl : ∀ r ∈ L, fst8 r < 8) (hlen : L.length ≤ 100000) :
  CallR P ρ 266 [.i .i64 p, a, .ag [] 8 v] H (fun u G => ∃ b, u = .one b ∧ Ext H G ∧ VS G b (putL p L v)) := by
 refine call_of_q B.fn B.mo E.1 rfl (fun hAr hHp => ?_) (by simp only [List.all_cons, List.all_nil, hL.lt]; rfl)
 refine ⟨H.length, rfl, ?_⟩
 refine ⟨_, _, _, _, v, app_new (i := 0) rfl, ⟨by simp, by omega⟩, fun x hx => by simp [spl, hx] <;> rfl, ?_⟩
 refine ⟨_, s_l01By_ok B E.2.1 hp hp2 (hL.ext Ext.app) hl (by omega), ?_⟩
 rintro _ _ ⟨rfl, rfl⟩
 refine ⟨_, _, .by [] _ (byL p v L), app_new (i := 0) rfl, cputs_by (by simp) (by omega), ⟨rfl, rfl, fun x _ hx => by simp [spl, hx] <;> rfl⟩, ?_⟩
 rw [app_set0]
 refine ⟨_, _, _, _, byL p v L, app_new (i := 0) rfl, ⟨by simp, by omega⟩, fun x hx => by simp [spl, hx] <;> rfl, ?_⟩
 refine ⟨_, s_l01Zero_ok B E.2.2.1 , rfl, ?_⟩
 refine ⟨fun h16 => ?_, fun h16 => ?_⟩
 ·skip
  exact ⟨rfl, _, rfl, Ext.app, by rw [putL_z h16]; exact hL.ext Ext.app⟩
 ·skip
  have hA := eqB_ex h16
  refine ⟨_, _, _, _, byL p v L, app_new (i := 0) rfl, ⟨by simp, by omega⟩, fun x hx => by simp [spl, hx] <;> rfl, ?_⟩
  refine ⟨_, s_l01First_ok B E.2.2.2.1 , rfl, ?_⟩
  refine ⟨_, _, _, _, byL p v L, app_new (i := 0) rfl, ⟨by simp, by omega⟩, fun x hx => by simp [spl, hx] <;> rfl, ?_⟩
  refine ⟨fst8 (byL p v L), fst8 (byL p v L), rfl, hA, by omega, ?_⟩
  refine ⟨_, _, app_new (i := 0) rfl, cat_u hA, ?_⟩
  refine ⟨_, s_l01Inverse_ok B E.2.2.2.2.1 hp hp2, rfl, ?_⟩
  have hiv := toNat_le (invB p (byL p v L (fst8 (byL p v L))))
  refine ⟨_, s_l01Add_ok B E.2.2.2.2.2 hp (by omega) (by unfold invB at hiv; omega) (by unfold invB at hiv; omega), rfl, ?_⟩
  refine ⟨_, _, .by [] _ (putV p (byL p v L)), app_new (i := 0) rfl, cputs_by (by simp) (by omega), ⟨rfl, rfl, fun x _ hx => by simp [spl, hx] <;> rfl⟩, ?_⟩
  rw [app_set0]
  refine ⟨_, rfl, ?_⟩
  refine ⟨At × Bool, (fun a0 a1 a5 a7 (i0 : Nat) (x0 : At × Bool) => match x0 with | ⟨b, pl⟩ => [(0, a0), (1, a1), (5, a5), (7, a7), (8, .one b), (9, .one (.b pl)), (10, .one (.i .i64 ((i0 : Nat) : Int)))]) _ _ _ _ , fun (i0 : Nat) (x0 : At × Bool) (G0 : List Blk) => match x0 with | ⟨b, pl⟩ => (G0[H.length]? = some ⟨false, .by [] 8 (putV p (byL p v L))⟩ ∧ Ext H G0 ∧ VW (H.length + 1) G0 b (putT p (putV p (byL p v L)) (fst8 (byL p v L)) L i0).1 ∧ pl = (putT p (putV p (byL p v L)) (fst8 (byL p v L)) L i0).2), L.length, ⟨⟨_, _⟩, ⟨app_old get_new, Ext.app.app', VW.nil (by simp), rfl⟩, ⟨rfl, rfl, rfl, rfl, rfl, rfl, rfl, trivial⟩⟩, ?_⟩
  rintro i0 ⟨b, pl⟩ G0 hi0 ⟨hbx, hx, hv, hpl⟩
  have hln := @putT_len p (putV p (byL p v L)) (fst8 (byL p v L)) L i0 (by omega)
  refine ⟨_, (hL).len, ?_⟩
  refine ⟨fun h34 => ?_, fun h34 => ?_⟩
  ·replace h34 := of_decide_eq_true h34
   refine ⟨fun h39 => ?_, fun h39 => ?_⟩
   ·skip
    iterate 2 refine brB_t ?_
    obtain ⟨k42, o42, n42, c42, q42, ea42, hl42, hq42, r42, N42, f42, hk42, hN42, hf42⟩ := (hL.ext hx).at i0 (by omega)
    refine ⟨k42, o42, n42, c42, i0, q42, ea42, rfl, hl42, hq42, ?_⟩
    refine brB_t ?_
    refine ⟨_, _, _, _, _, hk42, ⟨by simp, hN42⟩, hf42, ?_⟩
    refine brB_t ?_
    refine ⟨_, s_l01First_ok B E.2.2.2.1 , rfl, ?_⟩
    iterate 3 refine brB_t ?_
    refine ⟨fun h47 => ?_, fun h47 => ?_⟩
    ·replace h47 := of_decide_eq_true h47
     refine ⟨_, _, _, _, putV p (byL p v L), hbx, ⟨by simp, by omega⟩, fun x hx => by simp, ?_⟩
     refine ⟨_, rfl, ?_⟩
     refine ⟨_, vw_app (m := H.length + 1) (hv.ext Ext.app) VS.one (by simp only [List.length_singleton]; omega) (by have := hx.len; simp only [List.length_append, List.length_singleton]; omega), ?_⟩
     rintro a51 G51 ⟨hv51, hu51⟩
     have hbx51 := hu51.get (app_old hbx) (by omega)
     have hx51 := Upto.ext (hx.trans Ext.app) hu51 (by omega)
     obtain ⟨k56, o56, n56, c56, q56, ea56, hl56, hq56, r56, N56, f56, hk56, hN56, hf56⟩ := (hL.ext hx51).at i0 (by omega)
     refine ⟨k56, o56, n56, c56, i0, q56, ea56, rfl, hl56, hq56, ?_⟩
     refine ⟨_, _, _, _, _, hk56, ⟨by simp, hN56⟩, hf56, ?_⟩
     refine ⟨_, _, _, _, putV p (byL p v L), hbx51, ⟨by simp, by omega⟩, fun x hx => by simp [spl, hx] <;> rfl, ?_⟩
     obtain ⟨k62, o62, n62, c62, q62, ea62, hl62, hq62, r62, N62, f62, hk62, hN62, hf62⟩ := (hL.ext hx51).at i0 (by omega)
     refine ⟨k62, o62, n62, c62, i0, q62, ea62, rfl, hl62, hq62, ?_⟩
     refine ⟨fst8 (byL p v L), q62 + fst8 (byL p v L), rfl, hA, by omega, ?_⟩
     refine ⟨_, _, hk62, cat_vs hN62 hf62 hA, ?_⟩
     have hrx := toNat_le ((L.getD i0 z0) (fst8 (byL p v L)))
     refine ⟨_, w64_id _ (by omega) (by omega), ?_⟩
     refine ⟨_, s_l01Add_ok B E.2.2.2.2.2 hp (by omega) (by omega) (by omega), rfl, ?_⟩
     refine ⟨_, rfl, ?_⟩
     refine ⟨_, vw_app (m := H.length + 1) (hv51.ext Ext.app) VS.one (by simp only [List.length_append, List.length_singleton]; omega) (by have := hx51.len; simp only [List.length_append, List.length_singleton]; omega), ?_⟩
     rintro a69 G69 ⟨hv69, hu69⟩
     have hbx69 := hu69.get (app_old hbx51) (by omega)
     have hx69 := Upto.ext (hx51.trans Ext.app) hu69 (by omega)
     refine ⟨((i0 + 1 : Nat) : Int), w64_id _ (by omega) (by omega), ?_⟩
     refine ⟨by omega, ⟨_, _⟩, ?_, ⟨rfl, rfl, rfl, rfl, rfl, rfl, rfl, trivial⟩⟩
     have hpl' : (putT p (putV p (byL p v L)) (fst8 (byL p v L)) L i0).2 = false := by rw [← hpl]; simpa using h39
     refine ⟨hbx69, hx69, ?_, ?_⟩
     ·rw [putT_succ (by omega), putS, if_pos ⟨hpl', by omega⟩]; exact hv69
     ·rw [putT_succ (by omega), putS, if_pos ⟨hpl', by omega⟩]
    ·replace h47 := of_decide_eq_false h47
     obtain ⟨k56, o56, n56, c56, q56, ea56, hl56, hq56, r56, N56, f56, hk56, hN56, hf56⟩ := (hL.ext hx).at i0 (by omega)
     refine ⟨k56, o56, n56, c56, i0, q56, ea56, rfl, hl56, hq56, ?_⟩
     refine ⟨_, _, _, _, _, hk56, ⟨by simp, hN56⟩, hf56, ?_⟩
     refine ⟨_, _, _, _, putV p (byL p v L), hbx, ⟨by simp, by omega⟩, fun x hx => by simp [spl, hx] <;> rfl, ?_⟩
     obtain ⟨k62, o62, n62, c62, q62, ea62, hl62, hq62, r62, N62, f62, hk62, hN62, hf62⟩ := (hL.ext hx).at i0 (by omega)
     refine ⟨k62, o62, n62, c62, i0, q62, ea62, rfl, hl62, hq62, ?_⟩
     refine ⟨fst8 (byL p v L), q62 + fst8 (byL p v L), rfl, hA, by omega, ?_⟩
     refine ⟨_, _, hk62, cat_vs hN62 hf62 hA, ?_⟩
     have hrx := toNat_le ((L.getD i0 z0) (fst8 (byL p v L)))
     refine ⟨_, w64_id _ (by omega) (by omega), ?_⟩
     refine ⟨_, s_l01Add_ok B E.2.2.2.2.2 hp (by omega) (by omega) (by omega), rfl, ?_⟩
     refine ⟨_, rfl, ?_⟩
     refine ⟨_, vw_app (m := H.length + 1) (hv.ext Ext.app) VS.one (by simp only [List.length_singleton]; omega) (by have := hx.len; simp only [List.length_append, List.length_singleton]; omega), ?_⟩
     rintro a69 G69 ⟨hv69, hu69⟩
     have hbx69 := hu69.get (app_old hbx) (by omega)
     have hx69 := Upto.ext (hx.trans Ext.app) hu69 (by omega)
     refine ⟨((i0 + 1 : Nat) : Int), w64_id _ (by omega) (by omega), ?_⟩
     refine ⟨by omega, ⟨_, _⟩, ?_, ⟨rfl, rfl, rfl, rfl, rfl, rfl, rfl, trivial⟩⟩
     refine ⟨hbx69, hx69, ?_, ?_⟩
     ·rw [putT_succ (by omega), putS, if_neg (by omega)]; exact hv69
     ·rw [putT_succ (by omega), putS, if_neg (by omega)]; exact hpl
   ·skip
    iterate 8 refine brB_f ?_
    obtain ⟨k56, o56, n56, c56, q56, ea56, hl56, hq56, r56, N56, f56, hk56, hN56, hf56⟩ := (hL.ext hx).at i0 (by omega)
    refine ⟨k56, o56, n56, c56, i0, q56, ea56, rfl, hl56, hq56, ?_⟩
    refine ⟨_, _, _, _, _, hk56, ⟨by simp, hN56⟩, hf56, ?_⟩
    refine ⟨_, _, _, _, putV p (byL p v L), hbx, ⟨by simp, by omega⟩, fun x hx => by simp [spl, hx] <;> rfl, ?_⟩
    obtain ⟨k62, o62, n62, c62, q62, ea62, hl62, hq62, r62, N62, f62, hk62, hN62, hf62⟩ := (hL.ext hx).at i0 (by omega)
    refine ⟨k62, o62, n62, c62, i0, q62, ea62, rfl, hl62, hq62, ?_⟩
    refine ⟨fst8 (byL p v L), q62 + fst8 (byL p v L), rfl, hA, by omega, ?_⟩
    refine ⟨_, _, hk62, cat_vs hN62 hf62 hA, ?_⟩
    have hrx := toNat_le ((L.getD i0 z0) (fst8 (byL p v L)))
    refine ⟨_, w64_id _ (by omega) (by omega), ?_⟩
    refine ⟨_, s_l01Add_ok B E.2.2.2.2.2 hp (by omega) (by omega) (by omega), rfl, ?_⟩
    refine ⟨_, rfl, ?_⟩
    refine ⟨_, vw_app (m := H.length + 1) (hv.ext Ext.app) VS.one (by simp only [List.length_singleton]; omega) (by have := hx.len; simp only [List.length_append, List.length_singleton]; omega), ?_⟩
    rintro a69 G69 ⟨hv69, hu69⟩
    have hbx69 := hu69.get (app_old hbx) (by omega)
    have hx69 := Upto.ext (hx.trans Ext.app) hu69 (by omega)
    refine ⟨((i0 + 1 : Nat) : Int), w64_id _ (by omega) (by omega), ?_⟩
    refine ⟨by omega, ⟨_, _⟩, ?_, ⟨rfl, rfl, rfl, rfl, rfl, rfl, rfl, trivial⟩⟩
    have hpl' : (putT p (putV p (byL p v L)) (fst8 (byL p v L)) L i0).2 = true := by rw [← hpl]; simpa using h39
    refine ⟨hbx69, hx69, ?_, ?_⟩
    ·rw [putT_succ (by omega), putS, if_neg (by simp [hpl'])]; exact hv69
    ·rw [putT_succ (by omega), putS, if_neg (by simp [hpl'])]; exact hpl
  ·replace h34 := of_decide_eq_false h34
   have e0 : L.length = i0 := by omega
   subst e0
   refine ⟨fun h71 => ?_, fun h71 => ?_⟩
   ·skip
    refine ⟨_, _, _, _, putV p (byL p v L), hbx, ⟨by simp, by omega⟩, fun x hx => by simp [spl, hx] <;> rfl, ?_⟩
    refine ⟨_, rfl, ?_⟩
    refine ⟨_, vw_app (m := H.length + 1) (hv.ext Ext.app) VS.one (by simp only [List.length_singleton]; omega) (by have := hx.len; simp only [List.length_append, List.length_singleton]; omega), ?_⟩
    rintro a75 G75 ⟨hv75, hu75⟩
    have hx75 := Upto.ext (hx.trans Ext.app) hu75 (by omega)
    refine ⟨rfl, _, rfl, hx75, ?_⟩
    rw [putL_eq h16, if_neg (by rw [← hpl]; simpa using h71)]
    exact hv75.vs
   ·skip
    refine ⟨rfl, _, rfl, hx, ?_⟩
    rw [putL_eq h16, if_pos (by rw [← hpl]; simpa using h71)]
    exact hv.vs


end Hf
namespace Hf
open Go Classical
/-- a vector of W numbers below p, with zeros behind -/
def Vp (W : Nat) (p : Int) (v : By) : Prop := (∀ x, bz v x < p) ∧ ∀ x, W ≤ x → v x = 0
def addW (W : Nat) (p : Int) (v w : By) (k : Int) : By := vec W p fun y => bz v y + k * bz w y
def fstW (W : Nat) (v : By) : Nat := fstN (fun i => v i != 0) W 0
theorem addV_W {p : Int} {v w : By} {k : Int} : addV p v w k = addW 8 p v w k := rfl
theorem fst8_W {v : By} : fst8 v = fstW 8 v := rfl

section
variable {W : Nat} {p : Int}
theorem bz_z0 {x : Nat} : bz z0 x = 0 := rfl
theorem Vp.z (hp : 1 ≤ p) : Vp W p z0 := ⟨fun x => by rw [bz_z0]; omega, fun _ _ => rfl⟩
theorem Vp.add (hp : 1 ≤ p) (hp2 : p ≤ 256) {v w : By} {k : Int} : Vp W p (addW W p v w k) := ⟨fun x => bz_vec_lt hp hp2, fun x hx => vec_out hx⟩
theorem bz_inj {a b : UInt8} (h : (a.toNat : Int) = b.toNat) : a = b := UInt8.toNat_inj.1 (by omega)
theorem Vp.ext {v w : By} (hv : Vp W p v) (hw : Vp W p w) (h : ∀ x, x < W → cg p (bz v x) (bz w x)) : v = w := by
 funext x
 by_cases hx : x < W
 ·have h1 := h x hx
  unfold cg at h1
  rw [Int.emod_eq_of_lt (bz_nn v x) (hv.1 x), Int.emod_eq_of_lt (bz_nn w x) (hw.1 x)] at h1
  exact bz_inj h1
 ·rw [hv.2 x (by omega), hw.2 x (by omega)]
theorem cg_add' (hp : 1 ≤ p) (hp2 : p ≤ 256) {v w : By} {k : Int} {x : Nat} (hx : x < W) : cg p (bz (addW W p v w k) x) (bz v x + k * bz w x) := cg_vec hp hp2 hx
theorem bz_add (hp : 1 ≤ p) (hp2 : p ≤ 256) {v w : By} {k : Int} {x : Nat} (hx : x < W) : bz (addW W p v w k) x = (bz v x + k * bz w x) % p := bz_vec hp hp2 hx
theorem add_0 (hp : 1 ≤ p) (hp2 : p ≤ 256) {v w : By} (hv : Vp W p v) : addW W p v w 0 = v :=
 (Vp.add hp hp2).ext hv fun x hx => (cg_add' hp hp2 hx).trans (cg_of_eq (by simp))
theorem add_z (hp : 1 ≤ p) (hp2 : p ≤ 256) {v : By} {k : Int} (hv : Vp W p v) : addW W p v z0 k = v :=
 (Vp.add hp hp2).ext hv fun x hx => (cg_add' hp hp2 hx).trans (cg_of_eq (by simp [bz_z0]))
theorem z_add1 (hp : 1 ≤ p) (hp2 : p ≤ 256) {v : By} (hv : Vp W p v) : addW W p z0 v 1 = v :=
 (Vp.add hp hp2).ext hv fun x hx => (cg_add' hp hp2 hx).trans (cg_of_eq (by simp [bz_z0]))
/-- (u + k (v + c r)) = (u + k v) + k c r -/
theorem add_assoc' (hp : 1 ≤ p) (hp2 : p ≤ 256) {u v r : By} {k c : Int} : addW W p u (addW W p v r c) k = addW W p (addW W p u v k) r (k * c) := by
 refine (Vp.add hp hp2).ext (Vp.add hp hp2) fun x hx => ?_
 refine (cg_add' hp hp2 hx).trans ?_
 refine (cg_add cg.rfl' (cg_mul cg.rfl' (cg_add' hp hp2 hx))).trans ?_
 refine cg.trans ?_ (cg_add' hp hp2 hx).symm
 refine cg.trans ?_ (cg_add (cg_add' hp hp2 hx) cg.rfl').symm
 exact cg_of_eq (by grind)
/-- (u + a v) + b w = (u + b w) + a v -/
theorem add_comm' (hp : 1 ≤ p) (hp2 : p ≤ 256) {u v w : By} {a b : Int} : addW W p (addW W p u v a) w b = addW W p (addW W p u w b) v a := by
 refine (Vp.add hp hp2).ext (Vp.add hp hp2) fun x hx => ?_
 refine (cg_add' hp hp2 hx).trans ?_
 refine (cg_add (cg_add' hp hp2 hx) cg.rfl').trans ?_
 refine cg.trans ?_ (cg_add' hp hp2 hx).symm
 refine cg.trans ?_ (cg_add (cg_add' hp hp2 hx) cg.rfl').symm
 exact cg_of_eq (by grind)

/-! ### spaces -/
inductive Sp' (W : Nat) (p : Int) (L : List By) : By → Prop
 | z : Sp' W p L z0
 | a {u w : By} {k : Int} : Sp' W p L u → w ∈ L → Sp' W p L (addW W p u w k)

theorem Sp'.vp (hp : 1 ≤ p) (hp2 : p ≤ 256) {L : List By} {v : By} : Sp' W p L v → Vp W p v
  | .z => Vp.z hp
  | .a _ _ => Vp.add hp hp2
theorem Sp'.mem (hp : 1 ≤ p) (hp2 : p ≤ 256) {L : List By} {v : By} (h : v ∈ L) (hv : Vp W p v) : Sp' W p L v := by
 rw [← z_add1 hp hp2 hv]; exact .a .z h
theorem Sp'.add (hp : 1 ≤ p) (hp2 : p ≤ 256) {L : List By} {u v : By} {k : Int} (hu : Sp' W p L u) (hv : Sp' W p L v) : Sp' W p L (addW W p u v k) := by
  induction hv generalizing u k with
  | z => rw [add_z hp hp2 (hu.vp hp hp2)]; exact hu
  | a h1 h2 ih =>
    rw [add_assoc' hp hp2]
    exact .a (ih hu) h2
theorem Sp'.sub (hp : 1 ≤ p) (hp2 : p ≤ 256) {L M : List By} (h : ∀ r ∈ L, Sp' W p M r) {v : By} (hv : Sp' W p L v) : Sp' W p M v := by
  induction hv with
  | z => exact .z
  | a _ h2 ih => exact ih.add hp hp2 (h _ h2)
/-- the same space -/
def SpE (W : Nat) (p : Int) (L M : List By) : Prop := ∀ v, Sp' W p L v ↔ Sp' W p M v
theorem SpE.of (hp : 1 ≤ p) (hp2 : p ≤ 256) {L M : List By} (h : ∀ r ∈ L, Sp' W p M r) (h' : ∀ r ∈ M, Sp' W p L r) : SpE W p L M := fun v => ⟨fun q => q.sub hp hp2 h, fun q => q.sub hp hp2 h'⟩
theorem SpE.rfl' {L : List By} : SpE W p L L := fun _ => Iff.rfl
theorem SpE.symm {L M : List By} (h : SpE W p L M) : SpE W p M L := fun v => (h v).symm
theorem SpE.trans {L M N : List By} (h : SpE W p L M) (h' : SpE W p M N) : SpE W p L N := fun v => (h v).trans (h' v)

/-! ### first places -/
theorem fstW_le {v : By} : fstW W v ≤ W := by have := @fstN_ge (fun i => v i != 0) W 0; unfold fstW; omega
theorem fstW_lt {v : By} {y : Nat} (h : y < fstW W v) : v y = 0 := by
 have := @fstN_none (fun i => v i != 0) W 0 y (Nat.zero_le _) h
 simpa using this
theorem fstW_ne {v : By} (h : fstW W v < W) : v (fstW W v) ≠ 0 := by
 have := @fstN_some (fun i => v i != 0) W 0 (by unfold fstW at h; omega)
 simpa [fstW] using this
theorem fstW_eq {v : By} {k : Nat} (hk : k < W) (h : v k ≠ 0) (h0 : ∀ y, y < k → v y = 0) : fstW W v = k :=
 fstN_eq (Nat.zero_le _) (by omega) (by simpa using h) fun j _ hj => by simp [h0 j hj]
theorem fstW_z {v : By} (hv : ∀ x, W ≤ x → v x = 0) (h : fstW W v = W) : v = z0 := by
 funext y
 by_cases hy : y < W
 ·exact fstW_lt (W := W) (by omega)
 ·exact hv y (by omega)
theorem fst_nz {v : By} (hv : ∀ x, W ≤ x → v x = 0) (h : v ≠ z0) : fstW W v < W := by
 have := @fstW_le W v
 rcases Nat.lt_or_ge (fstW W v) W with h1 | h1
 ·exact h1
 ·exact (h (fstW_z hv (by omega))).elim

/-! ### what a list takes away -/
def byW1 (W : Nat) (p : Int) (v r : By) : By := if v (fstW W r) = 0 then v else addW W p v r (-(bz v (fstW W r)))
def byW (W : Nat) (p : Int) (v : By) (L : List By) : By := L.foldl (byW1 W p) v
theorem byL_W {v : By} {L : List By} : byL p v L = byW 8 p v L := rfl

/-- the first places grow, each first entry is 1, and the others have 0 there -/
structure RR (W : Nat) (p : Int) (L : List By) : Prop where
 vp : ∀ r ∈ L, Vp W p r
 ld : ∀ r ∈ L, fstW W r < W ∧ r (fstW W r) = 1
 st : L.Pairwise fun a b => fstW W a < fstW W b ∧ a (fstW W b) = 0

theorem byW1_add (hp : 1 ≤ p) (hp2 : p ≤ 256) {v r : By} (hv : Vp W p v) : byW1 W p v r = addW W p v r (-(bz v (fstW W r))) := by
 unfold byW1
 split
 ·rename_i h
  rw [show bz v (fstW W r) = 0 from bz_eq0.2 h, Int.neg_zero, add_0 hp hp2 hv]
 ·rfl
theorem byW1_vp (hp : 1 ≤ p) (hp2 : p ≤ 256) {v r : By} (hv : Vp W p v) : Vp W p (byW1 W p v r) := by
 rw [byW1_add hp hp2 hv]; exact Vp.add hp hp2
theorem byW_vp (hp : 1 ≤ p) (hp2 : p ≤ 256) : ∀ {L : List By} {v : By}, Vp W p v → Vp W p (byW W p v L)
  | [], _, hv => hv
  | r :: L, v, hv => byW_vp hp hp2 (L := L) (byW1_vp hp hp2 hv)
/-- it is linear -/
theorem byW1_lin (hp : 1 ≤ p) (hp2 : p ≤ 256) {u w r : By} {k : Int} (hu : Vp W p u) (hw : Vp W p w) (hr : fstW W r < W) :
  byW1 W p (addW W p u w k) r = addW W p (byW1 W p u r) (byW1 W p w r) k := by
 rw [byW1_add hp hp2 (Vp.add hp hp2), byW1_add hp hp2 hu, byW1_add hp hp2 hw]
 refine (Vp.add hp hp2).ext (Vp.add hp hp2) fun x hx => ?_
 refine (cg_add' hp hp2 hx).trans ?_
 refine (cg_add (cg_add' hp hp2 hx) (cg_mul (a := -(bz (addW W p u w k) (fstW W r))) (b := -(bz u (fstW W r) + k * bz w (fstW W r))) (c := bz r x) (d := bz r x) ?_ cg.rfl')).trans ?_
 ·have := cg_mul (a := -1) (b := -1) (c := bz (addW W p u w k) (fstW W r)) cg.rfl' (cg_add' (v := u) (w := w) (k := k) hp hp2 hr)
  rw [Int.neg_one_mul, Int.neg_one_mul] at this
  exact this
 refine cg.trans ?_ (cg_add' hp hp2 hx).symm
 refine cg.trans ?_ (cg_add (cg_add' hp hp2 hx) (cg_mul cg.rfl' (cg_add' hp hp2 hx))).symm
 exact cg_of_eq (by grind)
theorem byW_lin (hp : 1 ≤ p) (hp2 : p ≤ 256) {k : Int} : ∀ {L : List By} {u w : By}, (∀ r ∈ L, fstW W r < W) → Vp W p u → Vp W p w → byW W p (addW W p u w k) L = addW W p (byW W p u L) (byW W p w L) k
  | [], _, _, _, _, _ => rfl
  | r :: L, u, w, h, hu, hw => by
    show byW W p (byW1 W p (addW W p u w k) r) L = addW W p (byW W p (byW1 W p u r) L) (byW W p (byW1 W p w r) L) k
    rw [byW1_lin hp hp2 hu hw (h r (by simp))]
    exact byW_lin hp hp2 (fun q hq => h q (by simp [hq])) (byW1_vp hp hp2 hu) (byW1_vp hp hp2 hw)
theorem byW_fix : ∀ {L : List By} {v : By}, (∀ r ∈ L, v (fstW W r) = 0) → byW W p v L = v
  | [], _, _ => rfl
  | r :: L, v, h => by
    show byW W p (byW1 W p v r) L = v
    rw [show byW1 W p v r = v from if_pos (h r (by simp))]
    exact byW_fix fun q hq => h q (by simp [hq])
theorem byW_app {L M : List By} {v : By} : byW W p v (L ++ M) = byW W p (byW W p v L) M := List.foldl_append

theorem RR.fs {L : List By} (h : RR W p L) : ∀ r ∈ L, fstW W r < W := fun r hr => (h.ld r hr).1
/-- places of two of a reduced list -/
theorem RR.two {A B : List By} {a b : By} (h : RR W p (A ++ a :: B)) (hb : b ∈ A ++ B) : b (fstW W a) = 0 ∧ a (fstW W b) = 0 ∧ fstW W a ≠ fstW W b := by
 have hp := h.st
 rw [List.pairwise_append] at hp
 obtain ⟨-, h2, h3⟩ := hp
 rw [List.pairwise_cons] at h2
 rcases List.mem_append.1 hb with hb | hb
 ·obtain ⟨q1, q2⟩ := h3 b hb a (by simp)
  exact ⟨q2, fstW_lt q1, by omega⟩
 ·obtain ⟨q1, q2⟩ := h2.1 b hb
  exact ⟨fstW_lt q1, q2, by omega⟩
theorem one_bz {f : By} {x : Nat} (h : f x = 1) : bz f x = 1 := by unfold bz; rw [h]; rfl
/-- a vector of the list is taken away whole -/
theorem RR.kill (hp : 1 ≤ p) (hp2 : p ≤ 256) {L : List By} (h : RR W p L) {w : By} (hw : w ∈ L) : byW W p w L = z0 := by
 obtain ⟨A, B, rfl⟩ := List.append_of_mem hw
 rw [byW_app, byW_fix fun r hr => (h.two (List.mem_append_left _ hr)).2.1]
 show byW W p (byW1 W p w w) B = z0
 have hv := h.vp w hw
 have e : byW1 W p w w = z0 := by
  rw [byW1_add hp hp2 hv, one_bz (h.ld w hw).2]
  refine (Vp.add hp hp2).ext (Vp.z hp) fun x hx => (cg_add' hp hp2 hx).trans (cg_of_eq (by rw [bz_z0]; omega))
 rw [e]
 exact byW_fix fun r _ => rfl
theorem RR.zero (hp : 1 ≤ p) (hp2 : p ≤ 256) {L : List By} (h : RR W p L) {v : By} (hv : Sp' W p L v) : byW W p v L = z0 := by
  induction hv with
  | z => exact byW_fix fun r _ => rfl
  | a h1 h2 ih =>
    rw [byW_lin hp hp2 h.fs (h1.vp hp hp2) (h.vp _ h2), ih, h.kill hp hp2 h2]
    exact add_z hp hp2 (Vp.z hp)
/-- v and what is left of it differ by what is in the space -/
theorem byW_sp (hp : 1 ≤ p) (hp2 : p ≤ 256) : ∀ {L M : List By} {v : By}, (∀ r ∈ L, r ∈ M) → Vp W p v → ∃ s, Sp' W p M s ∧ v = addW W p (byW W p v L) s 1 ∧ byW W p v L = addW W p v s (-1)
  | [], M, v, _, hv => ⟨z0, .z, (add_z hp hp2 hv).symm, (add_z hp hp2 hv).symm⟩
  | r :: L, M, v, h, hv => by
    obtain ⟨s, h1, h2, h3⟩ := byW_sp hp hp2 (L := L) (M := M) (v := byW1 W p v r) (fun q hq => h q (by simp [hq])) (byW1_vp hp hp2 hv)
    have e : byW W p v (r :: L) = byW W p (byW1 W p v r) L := rfl
    rw [byW1_add hp hp2 hv] at e h2 h3
    rw [e]
    refine ⟨addW W p s r (bz v (fstW W r)), .a h1 (h r (by simp)), ?_, ?_⟩
    · have h4 : addW W p (addW W p v r (-(bz v (fstW W r)))) r (bz v (fstW W r)) = v := by
        refine (Vp.add hp hp2).ext hv fun x hx => ?_
        refine (cg_add' hp hp2 hx).trans ((cg_add (cg_add' hp hp2 hx) cg.rfl').trans (cg_of_eq (by grind)))
      rw [add_assoc' hp hp2, ← h2, Int.one_mul, h4]
    · rw [h3, add_assoc' hp hp2 (u := v), add_comm' hp hp2, Int.neg_one_mul]
theorem RR.in_iff (hp : 1 ≤ p) (hp2 : p ≤ 256) {L : List By} (h : RR W p L) {v : By} (hv : Vp W p v) : Sp' W p L v ↔ byW W p v L = z0 := by
 refine ⟨h.zero hp hp2, fun e => ?_⟩
 obtain ⟨s, h1, h2, -⟩ := byW_sp hp hp2 (L := L) (M := L) (fun _ h => h) hv
 rw [e] at h2
 rw [h2]
 exact Sp'.z.add hp hp2 h1
end
end Hf
namespace Hf
theorem inv_exB : ∀ p, p < 32 → (∀ k, k < p → 2 ≤ k → p % k ≠ 0) → ∀ x, x < p → 0 < x → ((List.range p).any fun k => decide (1 ≤ k ∧ k * x % p = 1 % p)) = true := by decide +kernel
theorem inv_ex (p : Nat) (h1 : p < 32) (h2 : ∀ k, k < p → 2 ≤ k → p % k ≠ 0) (x : Nat) (h3 : x < p) (h4 : 0 < x) : ∃ k, k < p ∧ 1 ≤ k ∧ k * x % p = 1 % p := by
 have h := inv_exB p h1 h2 x h3 h4
 rw [List.any_eq_true] at h
 obtain ⟨k, hk, h⟩ := h
 exact ⟨k, List.mem_range.1 hk, (of_decide_eq_true h).1, (of_decide_eq_true h).2⟩
open Go Classical
section
variable {W : Nat} {p : Int}
theorem RR.ne {B : List By} (h : RR W p B) {b c : By} (hb : b ∈ B) (hc : c ∈ B) (hn : c ≠ b) : c (fstW W b) = 0 ∧ fstW W b ≠ fstW W c := by
 obtain ⟨X, Y, rfl⟩ := List.append_of_mem hb
 have : c ∈ X ++ Y := by
  simp only [List.mem_append, List.mem_cons] at hc ⊢
  rcases hc with h | h | h
  ·exact .inl h
  ·exact (hn h).elim
  ·exact .inr h
 have := h.two this
 exact ⟨this.1, this.2.2⟩
theorem RR.nz {B : List By} (h : RR W p B) {b : By} (hb : b ∈ B) : b ≠ z0 := by
  intro e
  have h1 := (h.ld b hb).2
  have h2 : b (fstW W b) = 0 := by conv => lhs; rw [e]
                                   rfl
  rw [h1] at h2; cases h2
theorem byW_keep (hp : 1 ≤ p) (hp2 : p ≤ 256) {l : Nat} (hl : l < W) : ∀ {B : List By} {v : By}, Vp W p v → (∀ y, y < l → v y = 0) → (∀ b ∈ B, fstW W b ≠ l) → ∀ y, y ≤ l → byW W p v B y = v y
  | [], _, _, _, _, _, _ => rfl
  | r :: B, v, hv, h0, hne, y, hy => by
    show byW W p (byW1 W p v r) B y = v y
    have h1 : ∀ y, y ≤ l → byW1 W p v r y = v y := by
      intro y hy
      rcases Nat.lt_or_ge (fstW W r) l with h | h
      · unfold byW1; rw [if_pos (h0 _ h)]
      · have hne := hne r (by simp)
        rw [byW1_add hp hp2 hv]
        have hr : r y = 0 := fstW_lt (W := W) (by omega)
        apply bz_inj
        show bz (addW W p v r (-(bz v (fstW W r)))) y = bz v y
        rw [bz_add (W := W) hp hp2 (by omega), bz_eq0.2 hr, Int.mul_zero, Int.add_zero]
        exact Int.emod_eq_of_lt (bz_nn v y) (hv.1 y)
    rw [byW_keep hp hp2 hl (byW1_vp hp hp2 hv) (fun y hy => by rw [h1 y (by omega)]; exact h0 y hy) (fun b hb => hne b (by simp [hb])) y hy]
    exact h1 y hy
/-- a vector of the space begins where one of the list does -/
theorem RR.lead (hp : 1 ≤ p) (hp2 : p ≤ 256) {B : List By} (h : RR W p B) {v : By} (hv : Sp' W p B v) (hn : v ≠ z0) : ∃ b ∈ B, fstW W b = fstW W v := by
 apply Classical.byContradiction
 intro hne
 have hvp := hv.vp hp hp2
 have hl := fst_nz hvp.2 hn
 have := byW_keep hp hp2 hl (B := B) hvp (fun y hy => fstW_lt hy) (fun b hb e => hne ⟨b, hb, e⟩) _ (Nat.le_refl _)
 rw [h.zero hp hp2 hv] at this
 exact fstW_ne hl this.symm
theorem sorted_eq : ∀ {A B : List By}, A.Pairwise (fun a b => fstW W a < fstW W b) → B.Pairwise (fun a b => fstW W a < fstW W b) → (∀ x, x ∈ A ↔ x ∈ B) → A = B
  | [], [], _, _, _ => rfl
  | [], b :: B, _, _, h => by have := (h b).2 (by simp); cases this
  | a :: A, [], _, _, h => by have := (h a).1 (by simp); cases this
  | a :: A, b :: B, hA, hB, h => by
    rw [List.pairwise_cons] at hA hB
    have e : a = b := by
      rcases List.mem_cons.1 ((h a).1 (by simp)) with e | h1
      · exact e
      · rcases List.mem_cons.1 ((h b).2 (by simp)) with e | h2
        · exact e.symm
        · have := hA.1 b h2; have := hB.1 a h1; omega
    subst e
    congr 1
    refine sorted_eq hA.2 hB.2 fun x => ⟨fun hx => ?_, fun hx => ?_⟩
    · rcases List.mem_cons.1 ((h x).1 (by simp [hx])) with e | h1
      · subst e; have := hA.1 x hx; omega
      · exact h1
    · rcases List.mem_cons.1 ((h x).2 (by simp [hx])) with e | h1
      · subst e; have := hB.1 x hx; omega
      · exact h1
theorem RR.sorted {A : List By} (h : RR W p A) : A.Pairwise (fun a b => fstW W a < fstW W b) := h.st.imp fun h => h.1
theorem sub_z (hp : 1 ≤ p) (hp2 : p ≤ 256) {a b : By} (ha : Vp W p a) (hb : Vp W p b) (h : addW W p a b (-1) = z0) : a = b := by
 refine ha.ext hb fun x hx => ?_
 have h1 : cg p (bz a x + -1 * bz b x) 0 := (cg_add' hp hp2 hx).symm.trans (by rw [h]; exact cg.rfl')
 have h2 := cg_add h1 (cg.rfl' (p := p) (a := bz b x))
 rw [Int.zero_add] at h2
 refine cg.trans (cg_of_eq ?_) h2
 omega
theorem RR.half (hp : 1 ≤ p) (hp2 : p ≤ 256) {A B : List By} (hA : RR W p A) (hB : RR W p B) (h : SpE W p A B) {a : By} (ha : a ∈ A) : a ∈ B := by
 have hav := hA.vp a ha
 have haB : Sp' W p B a := (h a).1 (.mem hp hp2 ha hav)
 obtain ⟨b, hb, e⟩ := hB.lead hp hp2 haB (hA.nz ha)
 have hbv := hB.vp b hb
 have hd : Sp' W p B (addW W p a b (-1)) := .a haB hb
 have h0 : ∀ r ∈ B, (addW W p a b (-1)) (fstW W r) = 0 := by
  intro r hr
  have hrl := (hB.ld r hr).1
  apply bz_eq0.1
  rw [bz_add hp hp2 hrl]
  by_cases hrb : r = b
  ·subst hrb
   rw [one_bz (hB.ld r hr).2, e, one_bz (hA.ld a ha).2]
   rfl
  ·have h1 := (hB.ne hr hb (Ne.symm hrb)).1
   have h2 := (hB.ne hr hb (Ne.symm hrb)).2
   obtain ⟨a', ha', e'⟩ := hA.lead hp hp2 ((h r).2 (.mem hp hp2 hr (hB.vp r hr))) (hB.nz hr)
   have hne : a ≠ a' := by
    intro q; subst q; omega
   have h3 := (hA.ne ha' ha hne).1
   rw [e'] at h3
   rw [bz_eq0.2 h1, bz_eq0.2 h3]
   rfl
 have := byW_fix (p := p) h0
 rw [hB.zero hp hp2 hd] at this
 have := sub_z hp hp2 hav hbv this.symm
 rw [this]; exact hb
/-- a space has one reduced list -/
theorem RR.unique (hp : 1 ≤ p) (hp2 : p ≤ 256) {A B : List By} (hA : RR W p A) (hB : RR W p B) (h : SpE W p A B) : A = B :=
 sorted_eq hA.sorted hB.sorted fun x => ⟨hA.half hp hp2 hB h, hB.half hp hp2 hA h.symm⟩

/-! ### inverses -/
theorem inv_ok (hp : Pr p) {x : UInt8} (hx : x ≠ 0) (hx2 : (x.toNat : Int) < p) : ((invN p x : Nat) : Int) < p ∧ ((invN p x : Nat) : Int) * (x.toNat : Int) % p = 1 := by
 obtain ⟨h1, h2, h3⟩ := hp
 obtain ⟨m, rfl⟩ : ∃ m : Nat, p = (m : Int) := ⟨p.toNat, by omega⟩
 have hx0 : 0 < x.toNat := by
  rcases Nat.eq_zero_or_pos x.toNat with e | e
  ·exact (hx (u_eq0.2 (by omega))).elim
  ·exact e
 obtain ⟨k, k1, k2, k3⟩ := inv_ex m (by omega) (fun k hk hk2 e => h3 (k : Int) (by omega) (by omega) (by omega)) x.toNat (by omega) hx0
 rw [Nat.mod_eq_of_lt (show 1 < m by omega)] at k3
 have hq : ((((k : Nat) : Int) * (x.toNat : Int) % (m : Int)) == 1) = true := by
  rw [beq_iff_eq, ← Int.natCast_mul, ← Int.natCast_emod, k3]; rfl
 have hlt : invN m x < 1 + ((m : Int) - 1).toNat := by
  have h4 := @fstN_ge (fun k => ((k : Nat) : Int) * (x.toNat : Int) % (m : Int) == 1) ((m : Int) - 1).toNat 1
  rcases Nat.lt_or_ge (invN m x) (1 + ((m : Int) - 1).toNat) with h | h
  ·exact h
  ·have := @fstN_none (fun k => ((k : Nat) : Int) * (x.toNat : Int) % (m : Int) == 1) ((m : Int) - 1).toNat 1 k k2 (by unfold invN at h; omega)
   rw [hq] at this; cases this
 have h5 := @fstN_some (fun k => ((k : Nat) : Int) * (x.toNat : Int) % (m : Int) == 1) ((m : Int) - 1).toNat 1 hlt
 exact ⟨by omega, eq_of_beq h5⟩

/-! ### a vector laid into a reduced list -/
theorem ins_fst (hp : 2 ≤ p) (hp2 : p ≤ 256) {r w : By} {k : Int} {l : Nat} (hl : l < W) (hr : fstW W r = l ∧ r l = 1) (hw : ∀ y, y ≤ l → w y = 0) : fstW W (addW W p r w k) = l ∧ (addW W p r w k) l = 1 := by
 have h : ∀ y, y ≤ l → bz (addW W p r w k) y = bz r y % p := by
  intro y hy
  rw [bz_add (by omega) hp2 (by omega), bz_eq0.2 (hw y hy), Int.mul_zero, Int.add_zero]
 have h1 : (addW W p r w k) l = 1 := by
  apply bz_inj
  have := h l (Nat.le_refl _)
  unfold bz at this
  rw [this, hr.2]
  show (1 : Int) % p = 1
  exact Int.emod_eq_of_lt (by omega) (by omega)
 refine ⟨fstW_eq hl (by rw [h1]; decide) fun y hy => ?_, h1⟩
 apply bz_eq0.1
 rw [h y (by omega), bz_eq0.2 (fstW_lt (W := W) (v := r) (by omega))]
 rfl

theorem RR.ins (hp : 2 ≤ p) (hp2 : p ≤ 256) {L1 L2 : List By} (h : RR W p (L1 ++ L2)) {w : By} (hw : Vp W p w) (hwl : fstW W w < W) (hw1 : w (fstW W w) = 1) (h0 : ∀ r ∈ L1 ++ L2, w (fstW W r) = 0)
  (h1 : ∀ r ∈ L1, fstW W r < fstW W w) (h2 : ∀ r ∈ L2, fstW W w < fstW W r) :
  RR W p (L1.map (fun r => addW W p r w (-(bz r (fstW W w)))) ++ w :: L2.map (fun r => addW W p r w (-(bz r (fstW W w))))) ∧
   SpE W p (L1.map (fun r => addW W p r w (-(bz r (fstW W w)))) ++ w :: L2.map (fun r => addW W p r w (-(bz r (fstW W w))))) (w :: (L1 ++ L2)) := by
 have hp1 : 1 ≤ p := by omega
 have e2 : L2.map (fun r => addW W p r w (-(bz r (fstW W w)))) = L2 := by
  have : ∀ r ∈ L2, addW W p r w (-(bz r (fstW W w))) = r := by
   intro r hr
   rw [bz_eq0.2 (fstW_lt (W := W) (h2 r hr)), Int.neg_zero]
   exact add_0 hp1 hp2 (h.vp r (List.mem_append_right _ hr))
  exact (List.map_congr_left this).trans (List.map_id' _)
 rw [e2]
 have hf : ∀ r ∈ L1, fstW W (addW W p r w (-(bz r (fstW W w)))) = fstW W r ∧ (addW W p r w (-(bz r (fstW W w)))) (fstW W r) = 1 := by
  intro r hr
  have hl := h.ld r (List.mem_append_left _ hr)
  exact ins_fst hp hp2 hl.1 ⟨rfl, hl.2⟩ fun y hy => fstW_lt (W := W) (by have := h1 r hr; omega)
 have hat : ∀ r, (addW W p r w (-(bz r (fstW W w)))) (fstW W w) = 0 := by
  intro r
  apply bz_eq0.1
  rw [bz_add hp1 hp2 hwl, one_bz hw1, Int.mul_one, Int.add_right_neg]
  exact Int.zero_emod p
 have hot : ∀ r s, s ∈ L1 ++ L2 → r (fstW W s) = 0 → (addW W p r w (-(bz r (fstW W w)))) (fstW W s) = 0 := by
  intro r s hs hr
  apply bz_eq0.1
  rw [bz_add hp1 hp2 (h.ld s hs).1, bz_eq0.2 hr, bz_eq0.2 (h0 s hs)]
  simp
 have hst := h.st
 rw [List.pairwise_append] at hst
 obtain ⟨s1, s2, s3⟩ := hst
 refine ⟨⟨?_, ?_, ?_⟩, SpE.of hp1 hp2 ?_ ?_⟩
 ·intro r hr
  simp only [List.mem_append, List.mem_map, List.mem_cons] at hr
  rcases hr with ⟨q, -, rfl⟩ | rfl | hr
  ·exact Vp.add hp1 hp2
  ·exact hw
  ·exact h.vp r (List.mem_append_right _ hr)
 ·intro r hr
  simp only [List.mem_append, List.mem_map, List.mem_cons] at hr
  rcases hr with ⟨q, hq, rfl⟩ | rfl | hr
  ·obtain ⟨q1, q2⟩ := hf q hq
   rw [q1]
   exact ⟨(h.ld q (List.mem_append_left _ hq)).1, q2⟩
  ·exact ⟨hwl, hw1⟩
  ·exact h.ld r (List.mem_append_right _ hr)
 ·rw [List.pairwise_append, List.pairwise_cons, List.pairwise_map]
  refine ⟨s1.imp_of_mem fun {a b} ha hb q => ?_, ⟨fun r hr => ⟨h2 r hr, h0 r (List.mem_append_right _ hr)⟩, s2⟩, ?_⟩
  ·rw [(hf a ha).1, (hf b hb).1]
   exact ⟨q.1, hot a b (List.mem_append_left _ hb) q.2⟩
  ·intro a ha b hb
   obtain ⟨q, hq, rfl⟩ := List.mem_map.1 ha
   rw [(hf q hq).1]
   rcases List.mem_cons.1 hb with rfl | hb
   ·exact ⟨h1 q hq, hat q⟩
   ·have := s3 q hq b hb
    exact ⟨this.1, hot q b (List.mem_append_right _ hb) this.2⟩
 ·intro r hr
  have hwm : Sp' W p (w :: (L1 ++ L2)) w := .mem hp1 hp2 (by simp) hw
  simp only [List.mem_append, List.mem_map, List.mem_cons] at hr
  rcases hr with ⟨q, hq, rfl⟩ | rfl | hr
  ·exact (Sp'.mem hp1 hp2 (by simp [hq]) (h.vp q (List.mem_append_left _ hq))).add hp1 hp2 hwm
  ·exact hwm
  ·exact .mem hp1 hp2 (by simp [hr]) (h.vp r (List.mem_append_right _ hr))
 ·intro r hr
  have hwm : Sp' W p (L1.map (fun r => addW W p r w (-(bz r (fstW W w)))) ++ w :: L2) w := .mem hp1 hp2 (by simp) hw
  simp only [List.mem_append, List.mem_cons] at hr
  rcases hr with rfl | hr | hr
  ·exact hwm
  ·have hv := h.vp r (List.mem_append_left _ hr)
   have e : r = addW W p (addW W p r w (-(bz r (fstW W w)))) w (bz r (fstW W w)) := by
    refine hv.ext (Vp.add hp1 hp2) fun x hx => ?_
    exact (((cg_add' hp1 hp2 hx).trans ((cg_add (cg_add' hp1 hp2 hx) cg.rfl').trans (cg_of_eq (by grind))))).symm
   have hm : Sp' W p (L1.map (fun r => addW W p r w (-(bz r (fstW W w)))) ++ w :: L2) (addW W p r w (-(bz r (fstW W w)))) :=
    .mem hp1 hp2 (List.mem_append_left _ (List.mem_map.2 ⟨r, hr, rfl⟩)) (Vp.add hp1 hp2)
   rw [e]
   exact hm.add hp1 hp2 hwm
  ·exact .mem hp1 hp2 (by simp [hr]) (h.vp r (List.mem_append_right _ hr))

/-- what is left of v begins at none of the list's first places -/
theorem RR.left0 (hp : 1 ≤ p) (hp2 : p ≤ 256) : ∀ {A L : List By}, RR W p (A ++ L) → ∀ {v : By}, Vp W p v → (∀ r ∈ A, v (fstW W r) = 0) → ∀ r ∈ A ++ L, byW W p v L (fstW W r) = 0
  | A, [], h, v, hv, h0, r, hr => by simp at hr; exact h0 r hr
  | A, s :: L, h, v, hv, h0, r, hr => by
    have h' : RR W p ((A ++ [s]) ++ L) := by simpa using h
    refine RR.left0 hp hp2 (A := A ++ [s]) (L := L) h' (v := byW1 W p v s) (byW1_vp hp hp2 hv) ?_ r (by simpa using hr)
    intro q hq
    apply bz_eq0.1
    rcases List.mem_append.1 hq with hq | hq
    · rw [byW1_add hp hp2 hv, bz_add hp hp2 (h.ld q (List.mem_append_left _ hq)).1, bz_eq0.2 (h0 q hq)]
      have := (h.two (a := s) (A := A) (B := L) (List.mem_append_left _ hq)).2.1
      rw [bz_eq0.2 this]
      simp
    · obtain rfl := List.mem_singleton.1 hq
      have hl := h.ld q (by simp)
      rw [byW1_add hp hp2 hv, bz_add hp hp2 hl.1, one_bz hl.2, Int.mul_one, Int.add_right_neg]
      exact Int.zero_emod p
theorem RR.left (hp : 1 ≤ p) (hp2 : p ≤ 256) {L : List By} (h : RR W p L) {v : By} (hv : Vp W p v) : ∀ r ∈ L, byW W p v L (fstW W r) = 0 :=
 RR.left0 hp hp2 (A := []) h hv (by simp)
end
end Hf
namespace Hf
open Go Classical
section
variable {p : Int}
theorem putS_t {v : By} {a : Nat} : ∀ {L acc : List By}, L.foldl (putS p v a) (acc, true) = (acc ++ L.map (fun r => addV p r v (-(bz r a))), true)
  | [], acc => by simp
  | r :: L, acc => by
    rw [List.foldl_cons, show putS p v a (acc, true) r = (acc ++ [addV p r v (-(bz r a))], true) from by simp [putS], putS_t]
    simp
theorem putS_split {v : By} {a : Nat} : ∀ {L acc : List By}, ∃ L1 L2, L = L1 ++ L2 ∧ (∀ r ∈ L1, fst8 r ≤ a) ∧ (∀ r, L2.head? = some r → a < fst8 r) ∧
    L.foldl (putS p v a) (acc, false) = if L2 = [] then (acc ++ L1.map (fun r => addV p r v (-(bz r a))), false) else (acc ++ L1.map (fun r => addV p r v (-(bz r a))) ++ v :: L2.map (fun r => addV p r v (-(bz r a))), true)
  | [], acc => ⟨[], [], rfl, by simp, by simp, by simp⟩
  | r :: L, acc => by
    by_cases h : a < fst8 r
    · refine ⟨[], r :: L, rfl, by simp, by simp [h], ?_⟩
      rw [List.foldl_cons, show putS p v a (acc, false) r = (acc ++ [v] ++ [addV p r v (-(bz r a))], true) from by simp [putS, h], putS_t, if_neg (by simp)]
      simp
    · obtain ⟨L1, L2, rfl, h2, h3, h4⟩ := @putS_split v a L (acc ++ [addV p r v (-(bz r a))])
      refine ⟨r :: L1, L2, rfl, ?_, h3, ?_⟩
      · intro q hq
        rcases List.mem_cons.1 hq with rfl | hq
        · omega
        · exact h2 q hq
      · rw [List.foldl_cons, show putS p v a (acc, false) r = (acc ++ [addV p r v (-(bz r a))], false) from by simp [putS, h], h4]
        simp

theorem invB_ok (hp : Pr p) {x : UInt8} (hx : x ≠ 0) (hx2 : (x.toNat : Int) < p) : ((invB p x).toNat : Int) * (x.toNat : Int) % p = 1 := by
 obtain ⟨h1, h2⟩ := inv_ok hp hx hx2
 have := hp.2.1
 unfold invB
 rw [if_pos h1, bz_byt _ (by omega) (by omega)]
 exact h2

theorem putV_ok (hp : Pr p) {w : By} (hw : Vp 8 p w) (hl : fst8 w < 8) : Vp 8 p (putV p w) ∧ fst8 (putV p w) = fst8 w ∧ putV p w (fst8 w) = 1 ∧ (∀ y, y < 8 → w y = 0 → putV p w y = 0) ∧ w = addW 8 p z0 (putV p w) (bz w (fst8 w)) := by
 have h2 := hp.1
 have h3 := hp.2.1
 have hp1 : 1 ≤ p := by omega
 have hp2 : p ≤ 256 := by omega
 have hb : ∀ y, y < 8 → bz (putV p w) y = (((invB p (w (fst8 w))).toNat : Nat) : Int) * bz w y % p := by
  intro y hy
  show bz (addW 8 p z0 w _) y = _
  rw [bz_add hp1 hp2 hy, bz_z0, Int.zero_add]
 have hz : ∀ y, y < 8 → w y = 0 → putV p w y = 0 := by
  intro y hy h
  apply bz_eq0.1
  rw [hb y hy, bz_eq0.2 h, Int.mul_zero]; exact Int.zero_emod p
 have h1 : putV p w (fst8 w) = 1 := by
  apply bz_inj
  exact (hb _ hl).trans (invB_ok hp (fstW_ne (W := 8) hl) (hw.1 _))
 refine ⟨Vp.add hp1 hp2, ?_, h1, hz, ?_⟩
 ·exact fstW_eq (W := 8) hl (by rw [h1]; decide) fun y hy => hz y (by omega) (fstW_lt (W := 8) hy)
 ·refine hw.ext (Vp.add hp1 hp2) fun x hx => cg.symm ((cg_add' hp1 hp2 hx).trans ?_)
  rw [bz_z0, Int.zero_add, hb x hx]
  refine (cg_mul cg.rfl' cg_mod).trans ?_
  have h5 : cg p ((((invB p (w (fst8 w))).toNat : Nat) : Int) * bz w (fst8 w)) 1 := by
   have := invB_ok hp (fstW_ne (W := 8) hl) (hw.1 _)
   unfold cg
   rw [show (((invB p (w (fst8 w))).toNat : Nat) : Int) * bz w (fst8 w) % p = 1 from this, Int.emod_eq_of_lt (by omega) (by omega)]
  refine cg.trans (cg_of_eq ?_) ((cg_mul h5 cg.rfl').trans (cg_of_eq (Int.one_mul (bz w x))))
  grind

theorem putL_rr (hp : Pr p) {L : List By} {v : By} (h : RR 8 p L) (hv : Vp 8 p v) : RR 8 p (putL p L v) ∧ SpE 8 p (putL p L v) (v :: L) := by
  have h2 := hp.1
  have h3 := hp.2.1
  have hp1 : 1 ≤ p := by omega
  have hp2 : p ≤ 256 := by omega
  have hwv : Vp 8 p (byL p v L) := byW_vp hp1 hp2 hv
  cases hz : eqB 8 (byL p v L) z0 with
  | true =>
    rw [putL_z hz]
    refine ⟨h, SpE.of hp1 hp2 (fun r hr => .mem hp1 hp2 (by simp [hr]) (h.vp r hr)) fun r hr => ?_⟩
    rcases List.mem_cons.1 hr with rfl | hr
    · refine (h.in_iff hp1 hp2 hv).2 (hwv.ext (Vp.z hp1) fun x hx => cg_of_eq ?_)
      show bz (byL p r L) x = bz z0 x
      unfold bz
      rw [eqB_iff.1 hz x hx]
    · exact .mem hp1 hp2 hr (h.vp r hr)
  | false =>
    have hl := eqB_ex hz
    obtain ⟨q1, q2, q3, q4, q5⟩ := putV_ok hp hwv hl
    generalize hV : putV p (byL p v L) = V at *
    generalize hA : fst8 (byL p v L) = A at *
    have hleft : ∀ r ∈ L, byL p v L (fst8 r) = 0 := h.left hp1 hp2 hv
    have h0 : ∀ r ∈ L, V (fst8 r) = 0 := fun r hr => q4 _ (h.ld r hr).1 (hleft r hr)
    have hne : ∀ r ∈ L, fst8 r ≠ A := by
      intro r hr e
      have := h0 r hr
      rw [e, q3] at this; cases this
    obtain ⟨L1, L2, rfl, s1, s2, s3⟩ := @putS_split p V A L []
    have t1 : ∀ r ∈ L1, fst8 r < fst8 V := by
      intro r hr
      have := s1 r hr; have := hne r (List.mem_append_left _ hr); omega
    have t2 : ∀ r ∈ L2, fst8 V < fst8 r := by
      intro r hr
      cases L2 with
      | nil => cases hr
      | cons q M =>
        have hq := s2 q rfl
        rcases List.mem_cons.1 hr with rfl | hr
        · omega
        · have hs := h.st
          rw [List.pairwise_append, List.pairwise_cons] at hs
          have : fst8 q < fst8 r := (hs.2.1.1 r hr).1
          omega
    have hput : putL p (L1 ++ L2) v = L1.map (fun r => addW 8 p r V (-(bz r (fst8 V)))) ++ V :: L2.map (fun r => addW 8 p r V (-(bz r (fst8 V)))) := by
      rw [putL_eq hz, hV, hA]
      unfold putT
      rw [List.take_length, s3, q2]
      by_cases e : L2 = []
      · subst e; simp [addV_W]
      · rw [if_neg e]; simp [addV_W]
    rw [hput]
    obtain ⟨r1, r2⟩ := h.ins (w := V) h2 hp2 q1 (by rw [← fst8_W, q2]; exact hl) (by rw [← fst8_W, q2]; exact q3) h0 t1 t2
    refine ⟨r1, r2.trans (SpE.of hp1 hp2 ?_ ?_)⟩
    · intro r hr
      rcases List.mem_cons.1 hr with rfl | hr
      · -- V out of v and the list
        obtain ⟨s, m1, m2, m3⟩ := byW_sp hp1 hp2 (L := L1 ++ L2) (M := v :: (L1 ++ L2)) (v := v) (fun _ h => List.mem_cons_of_mem _ h) hv
        have hw : Sp' 8 p (v :: (L1 ++ L2)) (byL p v (L1 ++ L2)) := by
          rw [byL_W, m3]
          exact (Sp'.mem hp1 hp2 (by simp) hv).add hp1 hp2 m1
        rw [← hV]
        exact Sp'.z.add hp1 hp2 hw
      · exact .mem hp1 hp2 (List.mem_cons_of_mem _ hr) (h.vp r hr)
    · intro r hr
      rcases List.mem_cons.1 hr with rfl | hr
      · obtain ⟨s, m1, m2, -⟩ := byW_sp hp1 hp2 (L := L1 ++ L2) (M := V :: (L1 ++ L2)) (v := r) (fun _ h => List.mem_cons_of_mem _ h) hv
        rw [m2]
        refine Sp'.add hp1 hp2 ?_ m1
        rw [← byL_W, q5]
        exact Sp'.z.add hp1 hp2 (.mem hp1 hp2 (by simp) q1)
      · exact .mem hp1 hp2 (List.mem_cons_of_mem _ hr) (h.vp r hr)

/-- the reference's reduced list -/
def redL (p : Int) (L : List By) : List By := L.foldl (putL p) []
theorem redF_rr (hp : Pr p) : ∀ {L A : List By}, RR 8 p A → (∀ v ∈ L, Vp 8 p v) → RR 8 p (L.foldl (putL p) A) ∧ SpE 8 p (L.foldl (putL p) A) (A ++ L)
  | [], A, h, _ => by simpa using ⟨h, SpE.rfl'⟩
  | v :: L, A, h, hv => by
    have hp1 : 1 ≤ p := by have := hp.1; omega
    have hp2 : p ≤ 256 := by have := hp.2.1; omega
    obtain ⟨h1, h2⟩ := putL_rr hp h (hv v (by simp))
    obtain ⟨h3, h4⟩ := redF_rr (L := L) hp h1 fun w hw => hv w (List.mem_cons_of_mem _ hw)
    refine ⟨h3, h4.trans (SpE.of hp1 hp2 ?_ ?_)⟩
    · intro r hr
      rcases List.mem_append.1 hr with hr | hr
      · refine ((h2 r).1 (.mem hp1 hp2 hr (h1.vp r hr))).sub hp1 hp2 fun q hq => ?_
        rcases List.mem_cons.1 hq with rfl | hq
        · exact .mem hp1 hp2 (by simp) (hv _ (by simp))
        · exact .mem hp1 hp2 (by simp [hq]) (h.vp q hq)
      · exact .mem hp1 hp2 (by simp [hr]) (hv r (by simp [hr]))
    · have hin : ∀ q, q ∈ v :: A → Sp' 8 p (putL p A v ++ L) q := by
        intro q hq
        have hqv : Vp 8 p q := by
          rcases List.mem_cons.1 hq with rfl | hq
          · exact hv _ (by simp)
          · exact h.vp q hq
        refine ((h2 q).2 (.mem hp1 hp2 hq hqv)).sub hp1 hp2 fun s hs => .mem hp1 hp2 (by simp [hs]) (h1.vp s hs)
      intro r hr
      rcases List.mem_append.1 hr with hr | hr
      · exact hin r (by simp [hr])
      · rcases List.mem_cons.1 hr with rfl | hr
        · exact hin _ (by simp)
        · exact .mem hp1 hp2 (by simp [hr]) (hv r (by simp [hr]))
theorem RR.nil {W : Nat} : RR W p [] := ⟨by simp, by simp, List.Pairwise.nil⟩
theorem redL_rr (hp : Pr p) {L : List By} (h : ∀ v ∈ L, Vp 8 p v) : RR 8 p (redL p L) ∧ SpE 8 p (redL p L) L := by
 have := redF_rr hp (L := L) (A := []) RR.nil h
 simpa [redL] using this
theorem RR.len {W : Nat} {L : List By} (h : RR W p L) : L.length ≤ W := by
  have key : ∀ (L : List By) (k : Nat), L.Pairwise (fun a b => fstW W a < fstW W b) → (∀ r ∈ L, k ≤ fstW W r ∧ fstW W r < W) → L.length + k ≤ W ∨ L = [] := by
    intro L
    induction L with
    | nil => intro k _ _; exact .inr rfl
    | cons a L ih =>
      intro k hs hb
      rw [List.pairwise_cons] at hs
      have ha := hb a (by simp)
      rcases ih (fstW W a + 1) hs.2 fun r hr => ⟨hs.1 r hr, (hb r (by simp [hr])).2⟩ with h | h
      · simp only [List.length_cons]; omega
      · subst h; simp only [List.length_cons, List.length_nil]; omega
  rcases key L 0 h.sorted (fun r hr => ⟨Nat.zero_le _, h.fs r hr⟩) with h | h
  · omega
  · subst h; simp
end
end Hf
namespace Hf
open Go Classical
variable {P : Program} {ρ : Nat → FuncId}
theorem rdR_lenA {H : List Blk} {a : At} {L : List At} (h : rdR H a L) : lenA a = some L.length := by
 cases a <;> simp only [rdR] at h
 ·obtain ⟨r, l, -, h1, rfl⟩ := h; simp [lenA]; omega
 ·subst h; rfl
theorem rdR_at {H : List Blk} {a : At} {L : List At} (h : rdR H a L) (i : Nat) (hi : i < L.length) :
  ∃ k off len cap q, a = .sl k off len cap ∧ i < len ∧ off + i * 1 = q ∧ ∃ r l, H[k]? = some ⟨r, .rw l⟩ ∧ l[q]? = some (L.getD i .sn) := by
 cases a <;> simp only [rdR] at h
 ·rename_i k off len cap
  obtain ⟨r, l, hk, h1, rfl⟩ := h
  have hl : ((l.drop off).take len).length = len := by simp; omega
  rw [hl] at hi
  refine ⟨k, off, len, cap, off + i * 1, rfl, hi, rfl, r, l, hk, ?_⟩
  rw [List.getD_eq_getElem?_getD, List.getElem?_take_of_lt hi, List.getElem?_drop, Nat.mul_one]
  have : off + i < l.length := by omega
  simp [this]
 ·subst h; simp at hi
theorem rdR_ext {H H' : List Blk} {a : At} {L : List At} (h : rdR H a L) (e : Ext H H') : rdR H' a L := by
 cases a <;> simp only [rdR] at h ⊢
 ·obtain ⟨r, l, hk, h1, h2⟩ := h; exact ⟨r, l, e _ _ hk, h1, h2⟩
 ·exact h
/-- numbers in a slice -/
def VI (H : List Blk) (a : At) (L : List Int) : Prop := rdR H a (L.map (At.i .i64))
theorem VI.ext {H H' : List Blk} {a : At} {L : List Int} (h : VI H a L) (e : Ext H H') : VI H' a L := rdR_ext h e
theorem VI.len {H : List Blk} {a : At} {L : List Int} (h : VI H a L) : lenA a = some L.length := by
 have := rdR_lenA h; rwa [List.length_map] at this
theorem VI.at {H : List Blk} {a : At} {L : List Int} (h : VI H a L) (i : Nat) (hi : i < L.length) :
  ∃ k off len cap q, a = .sl k off len cap ∧ i < len ∧ off + i * 1 = q ∧ ∃ r l, H[k]? = some ⟨r, .rw l⟩ ∧ l[q]? = some (.i .i64 (L.getD i 0)) := by
 obtain ⟨k, off, len, cap, q, h1, h2, h3, r, l, h4, h5⟩ := rdR_at h i (by rw [List.length_map]; exact hi)
 refine ⟨k, off, len, cap, q, h1, h2, h3, r, l, h4, ?_⟩
 rw [h5, List.getD_eq_getElem?_getD, List.getElem?_map, List.getD_eq_getElem?_getD, List.getElem?_eq_getElem hi]
 rfl

theorem cput_rw {l : List At} {x : Nat} {a : At} (h : x < l.length) (hc : a.cell1 = true) : cput (.rw l) x a = some (.rw (l.set x a)) := if_pos ⟨h, hc⟩
theorem cput_vr {b a : At} (hc : a.cell1 = true) : cput (.vr b) 0 a = some (.vr a) := if_pos ⟨rfl, hc⟩
/-! ### rows -/
def blkOf : At → Nat
  | .sl k _ _ _ => k
  | _ => 0
/-- a row of w bytes, v -/
def RowB (H : List Blk) (w : Nat) (a : At) (v : By) : Prop := ∃ k cap N f, a = .sl k 0 w cap ∧ H[k]? = some ⟨false, .by [] N f⟩ ∧ (w ≤ N ∧ w ≤ cap) ∧ ∀ x, x < w → f x = v x
theorem RowB.lt {H : List Blk} {w : Nat} {a : At} {v : By} (h : RowB H w a v) : a.lt H.length = true := by
 obtain ⟨k, cap, N, f, rfl, h2, h3, h4⟩ := h
 have := lt_of h2
 simp [At.lt, this]
/-- all blocks but some are there still -/
def Fr (l : List Nat) (H H' : List Blk) : Prop := ∀ (k : Nat) (B : Blk), k ∉ l → H[k]? = some B → H'[k]? = some B
theorem Fr.refl {l : List Nat} {H : List Blk} : Fr l H H := fun _ _ _ h => h
theorem Fr.trans {l : List Nat} {H H1 H2 : List Blk} (h : Fr l H H1) (h' : Fr l H1 H2) : Fr l H H2 := fun k B hk e => h' k B hk (h k B hk e)
theorem Fr.mono {l l' : List Nat} {H H' : List Blk} (h : Fr l H H') (hs : ∀ k ∈ l, k ∈ l') : Fr l' H H' := fun k B hk e => h k B (fun q => hk (hs k q)) e
theorem Ext.fr {l : List Nat} {H H' : List Blk} (h : Ext H H') : Fr l H H' := fun k B _ e => h k B e
theorem Fr.upto {m : Nat} {l : List Nat} {H H' : List Blk} (h : Fr l H H') (hl : ∀ k ∈ l, m ≤ k) : Upto m H H' := fun k B hk e => h k B (fun q => by have := hl k q; omega) e
theorem RowB.fr {l : List Nat} {H H' : List Blk} {w : Nat} {a : At} {v : By} (h : RowB H w a v) (e : Fr l H H') (hn : blkOf a ∉ l) : RowB H' w a v := by
 obtain ⟨k, cap, N, f, rfl, h2, h3, h4⟩ := h
 exact ⟨k, cap, N, f, rfl, e _ _ hn h2, h3, h4⟩
/-- the slice of the rows -/
def Spn (H : List Blk) (ra : At) (As : List At) : Prop := (ra = .sn ∧ As = []) ∨ ∃ k cap l, ra = .sl k 0 As.length cap ∧ H[k]? = some ⟨false, .rw l⟩ ∧ (cap ≤ l.length ∧ As.length ≤ cap) ∧ l.take As.length = As
def spB : At → List Nat
  | .sl k _ _ _ => [k]
  | _ => []
theorem Spn.rd {H : List Blk} {ra : At} {As : List At} (h : Spn H ra As) : rdR H ra As := by
 rcases h with ⟨rfl, rfl⟩ | ⟨k, cap, l, rfl, hk, ⟨h1, h2⟩, h3⟩
 ·exact rfl
 ·exact ⟨false, l, hk, by omega, h3⟩
theorem Spn.fr {l : List Nat} {H H' : List Blk} {ra : At} {As : List At} (h : Spn H ra As) (e : Fr l H H') (hn : ∀ k ∈ spB ra, k ∉ l) : Spn H' ra As := by
 rcases h with ⟨rfl, rfl⟩ | ⟨k, cap, l', rfl, hk, h1, h3⟩
 ·exact .inl ⟨rfl, rfl⟩
 ·exact .inr ⟨k, cap, l', rfl, e _ _ (hn k (by simp [spB])) hk, h1, h3⟩
theorem Spn.lt {H : List Blk} {ra : At} {As : List At} (h : Spn H ra As) : ra.lt H.length = true ∧ ∀ k ∈ spB ra, k < H.length := by
 rcases h with ⟨rfl, rfl⟩ | ⟨k, cap, l', rfl, hk, h1, h3⟩
 ·exact ⟨rfl, by simp [spB]⟩
 ·have := lt_of hk
  exact ⟨by simp [At.lt, this], by simp [spB, this]⟩
theorem Spn.len {H : List Blk} {ra : At} {As : List At} (h : Spn H ra As) : lenA ra = some As.length := rdR_lenA h.rd
/-- one more row -/
theorem spn_app {z : C1} {bytes : Nat} {H : List Blk} {ra b x : At} {As : List At} (h : Spn H ra As) (hb : rdR H b [x]) (hlen : As.length ≤ 1000000) (hby : bytes ≤ 100) :
  apR z bytes H ra b fun a' H' => Spn H' a' (As ++ [x]) ∧ Fr (spB ra) H H' ∧ (spB a' = spB ra ∧ ra ≠ .sn ∨ spB a' = [H.length]) ∧ H.length ≤ H'.length := by
 rcases h with ⟨rfl, rfl⟩ | ⟨k, cap, l, rfl, hk, ⟨h1, h2⟩, h3⟩
 ·refine ⟨[x], hb, ⟨by simp, by simp; omega, by simp⟩, fun cap' hc => ⟨.inr ⟨H.length, cap', _, rfl, get_new, ⟨?_, hc⟩, ?_⟩, Ext.app.fr, .inr rfl, by simp⟩⟩
  ·simp at hc ⊢; omega
  ·simp
 ·refine ⟨[x], l, hb, hk, ⟨by omega, h2, Nat.le_trans (Nat.mul_le_mul (show As.length + [x].length ≤ 1000001 by simp; omega) hby) (by omega), by simp; omega⟩, fun hc => ⟨.inr ⟨k, cap, _, by simp, set_same hk, ⟨?_, ?_⟩, ?_⟩, ?_, .inl ⟨rfl, by simp⟩, by simp⟩, fun hc cap' hc' => ⟨.inr ⟨H.length, cap', _, by simp, get_new, ⟨?_, ?_⟩, ?_⟩, Ext.app.fr, .inr rfl, by simp⟩⟩
  ·simp only [List.length_append, List.length_take, List.length_drop, List.length_cons, List.length_nil] at hc ⊢; omega
  ·simpa using hc
  ·have hl : As.length ≤ l.length := by omega
   have e1 : (As ++ [x]).length = As.length + 1 := by simp
   rw [e1, Nat.zero_add, h3]
   have e2 : As ++ [x] ++ l.drop (As.length + [x].length) = (As ++ [x]) ++ l.drop (As.length + 1) := rfl
   rw [e2, ← e1]; exact List.take_left'  rfl
  ·intro j B hj e
   exact set_other e (by intro q; subst q; exact hj (by simp [spB]))
  ·simp only [List.length_append, List.length_take, List.length_drop, List.length_cons, List.length_nil, List.length_replicate] at hc' ⊢; omega
  ·simpa using hc'
  ·have e1 : (As ++ [x]).length = As.length + 1 := by simp
   simp only [List.drop_zero, h3]
   rw [e1, ← e1]; exact List.take_left' rfl
/-- rows one by one -/
def Rows (H : List Blk) (w : Nat) (As : List At) (R : List By) : Prop := As.length = R.length ∧ ∀ i, i < As.length → RowB H w (As.getD i .sn) (R.getD i z0)
theorem RowB.at {H : List Blk} {w : Nat} {a : At} {v : By} (h : RowB H w a v) (x : Nat) (hx : x < w) :
  ∃ k off len cap q, a = .sl k off len cap ∧ x < len ∧ off + x * 1 = q ∧ ∃ r B, H[k]? = some ⟨r, B⟩ ∧ cat B q = some (.u (v x)) := by
 obtain ⟨k, cap, N, f, rfl, h2, h3, h4⟩ := h
 refine ⟨k, 0, w, cap, x, rfl, hx, by omega, false, _, h2, ?_⟩
 rw [cat_u (by omega), h4 x hx]
theorem RowB.len {H : List Blk} {w : Nat} {a : At} {v : By} (h : RowB H w a v) : lenA a = some w := by
 obtain ⟨k, cap, N, f, rfl, -⟩ := h; rfl
theorem RowB.congr {H : List Blk} {w : Nat} {a : At} {v v' : By} (h : RowB H w a v) (e : ∀ x, x < w → v x = v' x) : RowB H w a v' := by
 obtain ⟨k, cap, N, f, h1, h2, h3, h4⟩ := h
 exact ⟨k, cap, N, f, h1, h2, h3, fun x hx => (h4 x hx).trans (e x hx)⟩
def bput : Bk → Nat → UInt8 → Bk
  | .by hd N f, x, b => .by hd N (upd f x b)
  | c, _, _ => c
/-- an entry of a row is written -/
theorem RowB.st {H : List Blk} {w : Nat} {a : At} {v : By} (h : RowB H w a v) (x : Nat) (hx : x < w) :
  ∃ k off len cap q c, a = .sl k off len cap ∧ x < len ∧ off + x * 1 = q ∧ H[k]? = some ⟨false, c⟩ ∧ ∀ b, cput c q (.u b) = some (bput c q b) ∧ RowB (H.set k ⟨false, bput c q b⟩) w a (upd v x b) ∧ Fr [blkOf a] H (H.set k ⟨false, bput c q b⟩) := by
 obtain ⟨k, cap, N, f, rfl, h2, h3, h4⟩ := h
 refine ⟨k, 0, w, cap, x, _, rfl, hx, by omega, h2, fun b => ⟨cput_u (by simp) (by omega), ⟨k, cap, N, upd f x b, rfl, set_same h2, h3, ?_⟩, ?_⟩⟩
 ·intro y hy
  unfold upd
  split
  ·rfl
  ·exact h4 y hy
 ·intro j B hj e
  exact set_other e (by intro q; subst q; exact hj (by simp [blkOf]))
theorem Rows.at {H : List Blk} {w : Nat} {As : List At} {R : List By} (h : Rows H w As R) (i : Nat) (hi : i < R.length) : RowB H w (As.getD i .sn) (R.getD i z0) := h.2 i (by rw [h.1]; exact hi)
theorem map_getD {As : List At} {i : Nat} (hi : i < As.length) : blkOf (As.getD i .sn) ∈ As.map blkOf := by
 rw [List.getD_eq_getElem?_getD, List.getElem?_eq_getElem hi]
 exact List.mem_map_of_mem (by simp)
theorem nodup_ne {As : List At} (h : (As.map blkOf).Nodup) {i j : Nat} (hi : i < As.length) (hj : j < As.length) (hn : i ≠ j) : blkOf (As.getD i .sn) ≠ blkOf (As.getD j .sn) := by
 intro e
 have h1 := List.pairwise_iff_getElem.1 h
 have ei : As.getD i .sn = As[i] := by simp [List.getD_eq_getElem?_getD, List.getElem?_eq_getElem hi]
 have ej : As.getD j .sn = As[j] := by simp [List.getD_eq_getElem?_getD, List.getElem?_eq_getElem hj]
 rw [ei, ej] at e
 rcases Nat.lt_or_gt_of_ne hn with q | q
 ·exact h1 i j (by simpa using hi) (by simpa using hj) q (by simpa using e)
 ·exact h1 j i (by simpa using hj) (by simpa using hi) q (by simpa using e.symm)
/-- a system of m unknowns: rows R of m + 1 bytes each, places T -/
def OwnT (s : Nat) (ra : At) (As : List At) (pa : At) : List Nat := s :: (spB pa ++ (spB ra ++ As.map blkOf))
def sysB (p n0 : Int) (m : Nat) (ra pa : At) : Blk := ⟨false, .rw [.i .i64 p, .i .i64 n0, .i .i64 (m : Int), ra, pa]⟩
def SY (m0 : Nat) (H : List Blk) (s : Nat) (p n0 : Int) (m : Nat) (R : List By) (T : List Int) : Prop := ∃ ra As pa, H[s]? = some (sysB p n0 m ra pa) ∧ Spn H ra As ∧ Rows H (m + 1) As R ∧ Spn H pa (T.map (At.i .i64)) ∧ (OwnT s ra As pa).Nodup ∧ ∀ k ∈ OwnT s ra As pa, m0 ≤ k
/-- row d made 1 at c, the others 0 there -/
def invI (p : Int) (x : UInt8) : Int := if ((invN p x : Nat) : Int) < p then ((invN p x : Nat) : Int) else 1 % p
def clq (w : Nat) (p : Int) (v : By) (c : Nat) : By := vec w p fun y => invI p (v c) * bz v y
def clj (w : Nat) (p : Int) (q v : By) (c : Nat) : By := if v c = 0 then v else addW w p v q (-(bz v c))
def clR (w : Nat) (p : Int) (R : List By) (d c j : Nat) : By := if j = d then clq w p (R.getD d z0) c else clj w p (clq w p (R.getD d z0) c) (R.getD j z0) c
def clr (w : Nat) (p : Int) (R : List By) (d c : Nat) : List By := (List.range R.length).map (clR w p R d c)
theorem clr_len {w : Nat} {p : Int} {R : List By} {d c : Nat} : (clr w p R d c).length = R.length := by simp [clr]
theorem clr_at {w : Nat} {p : Int} {R : List By} {d c j : Nat} (h : j < R.length) : (clr w p R d c).getD j z0 = clR w p R d c j := by
 simp [clr, List.getD_eq_getElem?_getD, h]
theorem invI_bd {p : Int} {x : UInt8} (hp : 1 ≤ p) : 0 ≤ invI p x ∧ invI p x ≤ p := by
 unfold invI
 split
 ·omega
 ·have := Int.emod_nonneg 1 (show p ≠ 0 by omega); have := Int.emod_lt_of_pos 1 (show 0 < p by omega); omega
end Hf
namespace Hf
open Go Classical
variable {P : Program} {ρ : Nat → FuncId}
theorem x_IndexFunc_R_ok (B : Bs P ρ) (E : F_x_IndexFunc_R P ρ) {g : Nat} {caps : List (Nat × Nat)} {H : List Blk} {a : At} {As : List At} {q : Nat → Bool} {z : Int} (hz : firstQ q As.length 0 = z) (hA : rdR H a As) (hlt : a.lt H.length = true) (hcaps : (At.fn g [] caps).lt H.length = true) (hlen : As.length ≤ 1000000) (hq : ∀ i, i < As.length → CallR P ρ g ([As.getD i .sn] ++ caps.map (fun p => .pt p.1 p.2)) H fun u G => u = .one (.b (q i)) ∧ G = H) :
  CallR P ρ 277 [a, .fn g [] caps] H (fun u G => u = .one (.i .i64 z) ∧ G = H) := by
 refine call_of_q B.fn B.mo E rfl (fun hAr hHp => ?_) (by simp only [List.all_cons, List.all_nil, hlt, hcaps]; rfl)
 refine ⟨As.length, rdR_lenA hA, ?_⟩
 refine ⟨Unit, (fun a0 a1 a7 (i0 : Nat) (x0 : Unit) => [(0, a0), (1, a1), (7, a7), (8, .one (.i .i64 ((i0 : Nat) : Int)))]) _ _ _ , fun (i0 : Nat) (x0 : Unit) (G0 : List Blk) => (G0 = H ∧ ∀ j, j < i0 → q j = false), As.length, ⟨(), ⟨rfl, fun j h => by omega⟩, ⟨rfl, rfl, rfl, rfl, trivial⟩⟩, ?_⟩
 rintro i0 _ G0 hi0 ⟨rfl, hF0⟩
 refine ⟨fun h9 => ?_, fun h9 => ?_⟩
 ·replace h9 := of_decide_eq_true h9
  obtain ⟨k14, o14, n14, c14, q14, ea14, hl14, hq14, r14, l14, hk14, hi14⟩ := rdR_at (hA) i0 (by omega)
  refine ⟨k14, o14, n14, c14, i0, q14, ea14, rfl, hl14, hq14, ?_⟩
  refine ⟨_, _, hk14, hi14, ?_⟩
  refine ⟨_, hq i0 (by omega), ?_⟩
  rintro _ _ ⟨rfl, rfl⟩
  refine ⟨fun h16 => ?_, fun h16 => ?_⟩
  ·skip
   have e : z = (i0 : Int) := hz.symm.trans <| firstQ_some (by omega) (by omega) h16 fun j _ h => hF0 j h
   exact ⟨rfl, by rw [e]; rfl, rfl⟩
  ·skip
   refine ⟨((i0 + 1 : Nat) : Int), w64_id _ (by omega) (by omega), ?_⟩
   refine ⟨by omega, (), ?_, ⟨rfl, rfl, rfl, rfl, trivial⟩⟩
   refine ⟨rfl, fun j hj => ?_⟩
   by_cases e : j = i0
   ·subst e; exact h16
   ·exact hF0 j (by omega)
 ·replace h9 := of_decide_eq_false h9
  have e0 : As.length = i0 := by omega
  subst e0
  have e : z = -1 := hz.symm.trans <| firstQ_none fun j _ h => hF0 j (by omega)
  exact ⟨rfl, by rw [e]; rfl, rfl⟩

theorem x_ContainsFunc_R_ok (B : Bs P ρ) (E : F_x_ContainsFunc_R P ρ) {g : Nat} {caps : List (Nat × Nat)} {H : List Blk} {a : At} {As : List At} {q : Nat → Bool} {z : Int} (hz : firstQ q As.length 0 = z) (hA : rdR H a As) (hlt : a.lt H.length = true) (hcaps : (At.fn g [] caps).lt H.length = true) (hlen : As.length ≤ 1000000) (hq : ∀ i, i < As.length → CallR P ρ g ([As.getD i .sn] ++ caps.map (fun p => .pt p.1 p.2)) H fun u G => u = .one (.b (q i)) ∧ G = H) :
  CallR P ρ 281 [a, .fn g [] caps] H (fun u G => u = .one (.b (decide (z ≥ 0))) ∧ G = H) := by
 refine call_of_q B.fn B.mo E.1 rfl (fun hAr hHp => ?_) (by simp only [List.all_cons, List.all_nil, hlt, hcaps]; rfl)
 refine ⟨_, x_IndexFunc_R_ok B E.2 hz hA hlt hcaps hlen hq, ?_⟩
 rintro _ _ ⟨rfl, rfl⟩
 exact ⟨rfl, rfl, rfl⟩

theorem x_Index_I_ok (B : Bs P ρ) (E : F_x_Index_I P ρ) {H : List Blk} {a : At} {L : List Int} {z : Int} (hA : VI H a L) (hlt : a.lt H.length = true) (hlen : L.length ≤ 1000000) :
  CallR P ρ 283 [a, .i .i64 z] H (fun u G => u = .one (.i .i64 (firstQ (fun i => z == L.getD i 0) L.length 0)) ∧ G = H) := by
 refine call_of_q B.fn B.mo E rfl (fun hAr hHp => ?_) (by simp only [List.all_cons, List.all_nil, hlt]; rfl)
 refine ⟨L.length, hA.len, ?_⟩
 refine ⟨Unit, (fun a0 a1 a7 (i0 : Nat) (x0 : Unit) => [(0, a0), (1, a1), (7, a7), (8, .one (.i .i64 ((i0 : Nat) : Int)))]) _ _ _ , fun (i0 : Nat) (x0 : Unit) (G0 : List Blk) => (G0 = H ∧ ∀ j, j < i0 → (z == L.getD j 0) = false), L.length, ⟨(), ⟨rfl, fun j h => by omega⟩, ⟨rfl, rfl, rfl, rfl, trivial⟩⟩, ?_⟩
 rintro i0 _ G0 hi0 ⟨rfl, hF0⟩
 refine ⟨fun h9 => ?_, fun h9 => ?_⟩
 ·replace h9 := of_decide_eq_true h9
  obtain ⟨k14, o14, n14, c14, q14, ea14, hl14, hq14, r14, l14, hk14, hi14⟩ := VI.at (hA) i0 (by omega)
  refine ⟨k14, o14, n14, c14, i0, q14, ea14, rfl, hl14, hq14, ?_⟩
  refine ⟨_, _, hk14, hi14, ?_⟩
  refine ⟨fun h16 => ?_, fun h16 => ?_⟩
  ·replace h16 := eq_of_beq h16
   have e : firstQ (fun i => z == L.getD i 0) L.length 0 = (i0 : Int) := firstQ_some (by omega) (by omega) (by simpa using h16) fun j _ h => hF0 j h
   exact ⟨rfl, by rw [e]; rfl, rfl⟩
  ·replace h16 := ne_of_beq_false h16
   refine ⟨((i0 + 1 : Nat) : Int), w64_id _ (by omega) (by omega), ?_⟩
   refine ⟨by omega, (), ?_, ⟨rfl, rfl, rfl, rfl, trivial⟩⟩
   refine ⟨rfl, fun j hj => ?_⟩
   by_cases e : j = i0
   ·subst e; simpa using h16
   ·exact hF0 j (by omega)
 ·replace h9 := of_decide_eq_false h9
  have e0 : L.length = i0 := by omega
  subst e0
  have e : firstQ (fun i => z == L.getD i 0) L.length 0 = -1 := firstQ_none fun j _ h => hF0 j (by omega)
  exact ⟨rfl, by rw [e]; rfl, rfl⟩

theorem x_Contains_I_ok (B : Bs P ρ) (E : F_x_Contains_I P ρ) {H : List Blk} {a : At} {L : List Int} {z : Int} (hA : VI H a L) (hlt : a.lt H.length = true) (hlen : L.length ≤ 1000000) :
  CallR P ρ 278 [a, .i .i64 z] H (fun u G => u = .one (.b (decide (firstQ (fun i => z == L.getD i 0) L.length 0 ≥ 0))) ∧ G = H) := by
 refine call_of_q B.fn B.mo E.1 rfl (fun hAr hHp => ?_) (by simp only [List.all_cons, List.all_nil, hlt]; rfl)
 refine ⟨_, x_Index_I_ok B E.2 hA hlt hlen, ?_⟩
 rintro _ _ ⟨rfl, rfl⟩
 exact ⟨rfl, rfl, rfl⟩

theorem i_newSystem_ok (B : Bs P ρ) (E : F_i_newSystem P ρ) {H : List Blk} {p m : Int} :
  CallR P ρ 271 [.i .i64 p, .i .i64 m] H (fun u G => u = .one (.pt H.length 0) ∧ G = H ++ [⟨false, .rw [.i .i64 p, .i .i64 0, .i .i64 m, .sn, .sn]⟩]) := by
 refine call_of_q B.fn B.mo E rfl (fun hAr hHp => ?_) rfl
 refine ⟨H.length, rfl, ?_⟩
 exact ⟨rfl, rfl, rfl⟩


end Hf
namespace Hf
open Go Classical
variable {P : Program} {ρ : Nat → FuncId}
theorem i_system_solve_1_ok (B : Bs P ρ) (E : F_i_system_solve_1 P ρ) {H : List Blk} {w : Nat} {a : At} {v : By} {kc c : Nat} {q : Bool} (hr : RowB H w a v) (hc : H[kc]? = some ⟨q, .vr (.i .i64 (c : Int))⟩) (hcw : c < w) :
  CallR P ρ 276 [a, .pt kc 0] H (fun u G => u = .one (.b (v c != 0)) ∧ G = H) := by
 refine call_of_q B.fn B.mo E rfl (fun hAr hHp => ?_) (by simp only [List.all_cons, List.all_nil, hr.lt]; simp [At.lt, lt_of hc])
 refine ⟨_, _, hc, rfl, ?_⟩
 obtain ⟨k6, o6, n6, c6, q6, ea6, hl6, hq6, r6, l6, hk6, hi6⟩ := RowB.at (hr) c (hcw)
 refine ⟨k6, o6, n6, c6, c, q6, ea6, rfl, hl6, hq6, ?_⟩
 refine ⟨_, _, hk6, hi6, ?_⟩
 exact ⟨rfl, rfl, rfl⟩

theorem i_system_solve_2_ok (B : Bs P ρ) (E : F_i_system_solve_2 P ρ) {H : List Blk} {m s kb : Nat} {a ra pa : At} {v : By} {p n0 : Int} {q : Bool} (hr : RowB H (m + 1) a v) (hc : H[kb]? = some ⟨q, .vr (.pt s 0)⟩) (hs : H[s]? = some (sysB p n0 m ra pa)) :
  CallR P ρ 282 [a, .pt kb 0] H (fun u G => u = .one (.b (v m != 0)) ∧ G = H) := by
 refine call_of_q B.fn B.mo E rfl (fun hAr hHp => ?_) (by simp only [List.all_cons, List.all_nil, hr.lt]; simp [At.lt, lt_of hc])
 refine ⟨_, _, hc, rfl, ?_⟩
 refine ⟨_, _, hs, rfl, ?_⟩
 obtain ⟨k9, o9, n9, c9, q9, ea9, hl9, hq9, r9, l9, hk9, hi9⟩ := RowB.at (hr) m (by omega)
 refine ⟨k9, o9, n9, c9, m, q9, ea9, rfl, hl9, hq9, ?_⟩
 refine ⟨_, _, hk9, hi9, ?_⟩
 exact ⟨rfl, rfl, rfl⟩

theorem i_system_clear_ok (B : Bs P ρ) (E : F_i_system_clear P ρ) {H : List Blk} {s m d c : Nat} {p n0 : Int} {ra pa : At} {As : List At} {R : List By} (hp : 1 ≤ p) (hp2 : p ≤ 256) (hm : m ≤ 100000) (hs : H[s]? = some (sysB p n0 m ra pa)) (hA : Spn H ra As) (hR : Rows H (m + 1) As R) (hnd : (As.map blkOf).Nodup) (hsn : s ∉ As.map blkOf) (hra : ∀ k ∈ spB ra, k ∉ As.map blkOf) (hlen : As.length ≤ 1000000) (hd : d < R.length) (hc : c ≤ m) :
  CallR P ρ 280 [.pt s 0, .i .i64 (d : Int), .i .i64 (c : Int)] H (fun u G => Rows G (m + 1) As (clr (m + 1) p R d c) ∧ Fr (As.map blkOf) H G) := by
 refine call_of_q B.fn B.mo E.1 rfl (fun hAr hHp => ?_) (by simp [At.lt, lt_of hs])
 have hAl := hR.1
 have hI := invI_bd (p := p) (x := R.getD d z0 c) hp
 have hmd : blkOf (As.getD d .sn) ∈ As.map blkOf := map_getD (by omega)
 have hqv : ∀ y, y < m + 1 → clq (m + 1) p (R.getD d z0) c y = byt (invI p (R.getD d z0 c) * bz (R.getD d z0) y % p) := fun y hy => by simp only [clq, vec]; rw [if_pos hy]
 refine ⟨_, _, hs, rfl, ?_⟩
 obtain ⟨k20, o20, n20, c20, q20, ea20, hl20, hq20, r20, l20, hk20, hi20⟩ := rdR_at (hA.rd) d (by omega)
 refine ⟨k20, o20, n20, c20, d, q20, ea20, rfl, hl20, hq20, ?_⟩
 refine ⟨_, _, hk20, hi20, ?_⟩
 refine .inr ⟨_, _, [_, _], hs, ⟨rfl, rfl⟩, ?_⟩
 obtain ⟨k28, o28, n28, c28, q28, ea28, hl28, hq28, r28, l28, hk28, hi28⟩ := RowB.at (hR.at d hd) c (by omega)
 refine ⟨k28, o28, n28, c28, c, q28, ea28, rfl, hl28, hq28, ?_⟩
 refine ⟨_, _, hk28, hi28, ?_⟩
 refine ⟨.one (.i .i64 (invI p (R.getD d z0 c))), i_field_inverse_ok B E.2.1 hp hp2, rfl, ?_⟩
 refine ⟨_, (hR.at d hd).len, ?_⟩
 refine ⟨Unit, (fun a0 a1 a2 a6 a7 a31 a32 (i0 : Nat) (x0 : Unit) => [(0, a0), (1, a1), (2, a2), (6, a6), (7, a7), (31, a31), (32, a32), (33, .one (.i .i64 ((i0 : Nat) : Int)))]) _ _ _ _ _ _ _ , fun (i0 : Nat) (x0 : Unit) (G0 : List Blk) => (Fr [blkOf (As.getD d .sn)] H G0 ∧ RowB G0 (m + 1) (As.getD d .sn) (fun y => if y < i0 then clq (m + 1) p (R.getD d z0) c y else R.getD d z0 y)), m + 1, ⟨(), ⟨Fr.refl, (hR.at d hd).congr fun x hx => by simp⟩, ⟨rfl, rfl, rfl, rfl, rfl, rfl, rfl, rfl, trivial⟩⟩, ?_⟩
 rintro i0 _ G0 hi0 ⟨hF0, hG0⟩
 have hs0 : G0[s]? = some (sysB p n0 m ra pa) := hF0 _ _ (by simp; intro q; exact hsn (q ▸ hmd)) hs
 refine ⟨fun h34 => ?_, fun h34 => ?_⟩
 ·replace h34 := of_decide_eq_true h34
  obtain ⟨k36, o36, n36, c36, q36, ea36, hl36, hq36, r36, l36, hk36, hi36⟩ := RowB.at (hG0) i0 (by omega)
  refine ⟨k36, o36, n36, c36, i0, q36, ea36, rfl, hl36, hq36, ?_⟩
  refine ⟨_, _, hk36, hi36, ?_⟩
  refine .inr ⟨_, _, [_, _], hs0, ⟨rfl, rfl⟩, ?_⟩
  have hx9 := toNat_le (if i0 < i0 then clq (m + 1) p (R.getD d z0) c i0 else R.getD d z0 i0)
  have hb : 0 ≤ invI p (R.getD d z0 c) * ((if i0 < i0 then clq (m + 1) p (R.getD d z0) c i0 else R.getD d z0 i0).toNat : Int) ∧ invI p (R.getD d z0 c) * ((if i0 < i0 then clq (m + 1) p (R.getD d z0) c i0 else R.getD d z0 i0).toNat : Int) ≤ 256 * 255 := mul_bd2 hI.1 (by omega) (by omega) (by omega)
  refine ⟨_, w64_id _ (by omega) (by omega), ?_⟩
  refine ⟨_, i_field_mod_ok B E.2.2 hp (by omega), rfl, ?_⟩
  obtain ⟨k49, o49, n49, c49, q49, C49, ea49, hl49, hq49, hk49, hs49⟩ := RowB.st (hG0) i0 (by omega)
  refine ⟨k49, o49, n49, c49, i0, q49, ea49, rfl, hl49, hq49, ?_⟩
  refine ⟨_, _, _, hk49, (hs49 _).1, eqBk_rfl, ?_⟩
  refine ⟨((i0 + 1 : Nat) : Int), w64_id _ (by omega) (by omega), ?_⟩
  refine ⟨by omega, (), ?_, ⟨rfl, rfl, rfl, rfl, rfl, rfl, rfl, rfl, trivial⟩⟩
  refine ⟨hF0.trans ((hs49 _).2.2.mono (by simp)), (hs49 _).2.1.congr fun x hx => ?_⟩
  by_cases e : x = i0
  ·subst e
   rw [upd_same, if_neg (Nat.lt_irrefl _), if_pos (Nat.lt_succ_self _), hqv _ hx]
   simp [bz]
  ·rw [upd_ne _ _ _ _ e]
   by_cases h : x < i0
   ·rw [if_pos h, if_pos (by omega)]
   ·rw [if_neg h, if_neg (by omega)]
 ·replace h34 := of_decide_eq_false h34
  have e0 : i0 = m + 1 := by omega
  subst e0
  have hpre : ∀ j, j < As.length → RowB G0 (m + 1) (As.getD j .sn) (if j < 0 ∨ j = d then clR (m + 1) p R d c j else R.getD j z0) := by
   intro j hj
   by_cases e : j = d
   ·subst e
    rw [if_pos (.inr rfl)]
    refine hG0.congr fun x hx => ?_
    simp only [clR, if_true]; rw [if_pos hx]
   ·rw [if_neg (by omega)]
    exact (hR.at j (by omega)).fr hF0 (by simp; exact nodup_ne hnd hj (by omega) e)
  have hF1 : Fr (As.map blkOf) H G0 := hF0.mono (by simpa using hmd)
  have hA0 := hA.fr hF1 hra
  refine ⟨_, _, hs0, rfl, ?_⟩
  refine ⟨_, (hA0).len, ?_⟩
  refine ⟨Unit, (fun a0 a1 a2 a6 a54 a55 (i1 : Nat) (x1 : Unit) => [(0, a0), (1, a1), (2, a2), (6, a6), (54, a54), (55, a55), (56, .one (.i .i64 ((i1 : Nat) : Int)))]) _ _ _ _ _ _ , fun (i1 : Nat) (x1 : Unit) (G1 : List Blk) => (Fr (As.map blkOf) H G1 ∧ ∀ j, j < As.length → RowB G1 (m + 1) (As.getD j .sn) (if j < i1 ∨ j = d then clR (m + 1) p R d c j else R.getD j z0)), As.length, ⟨(), ⟨hF1, hpre⟩, ⟨rfl, rfl, rfl, rfl, rfl, rfl, rfl, trivial⟩⟩, ?_⟩
  rintro i1 _ G1 hi1 ⟨hFa, hGa⟩
  have hs1 : G1[s]? = some (sysB p n0 m ra pa) := hFa _ _ hsn hs
  have hA1 := hA.fr hFa hra
  refine ⟨fun h57 => ?_, fun h57 => ?_⟩
  ·replace h57 := of_decide_eq_true h57
   obtain ⟨k59, o59, n59, c59, q59, ea59, hl59, hq59, r59, l59, hk59, hi59⟩ := rdR_at (hA1.rd) i1 (by omega)
   refine ⟨k59, o59, n59, c59, i1, q59, ea59, rfl, hl59, hq59, ?_⟩
   refine ⟨_, _, hk59, hi59, ?_⟩
   refine ⟨fun h64 => ?_, fun h64 => ?_⟩
   ·replace h64 := eq_of_beq h64
    iterate 6 refine brB_t ?_
    refine ⟨((i1 + 1 : Nat) : Int), w64_id _ (by omega) (by omega), ?_⟩
    refine ⟨by omega, (), ?_, ⟨rfl, rfl, rfl, rfl, rfl, rfl, rfl, trivial⟩⟩
    refine ⟨hFa, fun j hj => (hGa j hj).congr fun x _ => ?_⟩
    by_cases e : j = d
    ·rw [if_pos (.inr e), if_pos (.inr e)]
    ·by_cases h : j < i1
     ·rw [if_pos (.inl h), if_pos (.inl (by omega))]
     ·rw [if_neg (by omega), if_neg (by omega)]
   ·replace h64 := ne_of_beq_false h64
    have hj := hGa i1 (by omega)
    rw [if_neg (by omega)] at hj
    iterate 2 refine brB_f ?_
    obtain ⟨k67, o67, n67, c67, q67, ea67, hl67, hq67, r67, l67, hk67, hi67⟩ := RowB.at (hj) c (by omega)
    refine ⟨k67, o67, n67, c67, c, q67, ea67, rfl, hl67, hq67, ?_⟩
    refine brB_f ?_
    refine ⟨_, _, hk67, hi67, ?_⟩
    iterate 2 refine brB_f ?_
    refine ⟨fun h70 => ?_, fun h70 => ?_⟩
    ·replace h70 := eq_of_beq h70
     refine ⟨((i1 + 1 : Nat) : Int), w64_id _ (by omega) (by omega), ?_⟩
     refine ⟨by omega, (), ?_, ⟨rfl, rfl, rfl, rfl, rfl, rfl, rfl, trivial⟩⟩
     refine ⟨hFa, fun j hj' => (hGa j hj').congr fun x _ => ?_⟩
     by_cases e : j = d
     ·rw [if_pos (.inr e), if_pos (.inr e)]
     ·by_cases h : j < i1
      ·rw [if_pos (.inl h), if_pos (.inl (by omega))]
      ·rw [if_neg (by omega)]
       by_cases h' : j = i1
       ·subst h'
        rw [if_pos (.inl (by omega))]
        simp only [clR, if_neg e, clj]; rw [if_pos h70]
       ·rw [if_neg (by omega)]
    ·replace h70 := ne_of_beq_false h70
     obtain ⟨k73, o73, n73, c73, q73, ea73, hl73, hq73, r73, l73, hk73, hi73⟩ := RowB.at (hj) c (by omega)
     refine ⟨k73, o73, n73, c73, c, q73, ea73, rfl, hl73, hq73, ?_⟩
     refine ⟨_, _, hk73, hi73, ?_⟩
     have hkc := toNat_le (R.getD i1 z0 c)
     have hne : i1 ≠ d := by omega
     have hq1 : RowB G1 (m + 1) (As.getD d .sn) (clq (m + 1) p (R.getD d z0) c) := by
      have := hGa d (by omega)
      rw [if_pos (.inr rfl)] at this
      exact this.congr fun x _ => by simp [clR]
     have hmj : blkOf (As.getD i1 .sn) ∈ As.map blkOf := map_getD (by omega)
     refine ⟨_, (hq1).len, ?_⟩
     refine ⟨Unit, (fun a0 a1 a2 a6 a11 a12 a54 a55 a56 a76 a77 (i2 : Nat) (x2 : Unit) => [(0, a0), (1, a1), (2, a2), (6, a6), (11, a11), (12, a12), (54, a54), (55, a55), (56, a56), (76, a76), (77, a77), (78, .one (.i .i64 ((i2 : Nat) : Int)))]) _ _ _ _ _ _ _ _ _ _ _ , fun (i2 : Nat) (x2 : Unit) (G2 : List Blk) => (Fr [blkOf (As.getD i1 .sn)] G1 G2 ∧ RowB G2 (m + 1) (As.getD i1 .sn) (fun y => if y < i2 then addW (m + 1) p (R.getD i1 z0) (clq (m + 1) p (R.getD d z0) c) (-(bz (R.getD i1 z0) c)) y else R.getD i1 z0 y)), m + 1, ⟨(), ⟨Fr.refl, hj.congr fun x hx => by simp⟩, ⟨rfl, rfl, rfl, rfl, rfl, rfl, rfl, rfl, rfl, rfl, rfl, rfl, trivial⟩⟩, ?_⟩
     rintro i2 _ G2 hi2 ⟨hFb, hGb⟩
     have hs2 : G2[s]? = some (sysB p n0 m ra pa) := hFb _ _ (by simp; intro q; exact hsn (q ▸ hmj)) hs1
     have hq2 := hq1.fr hFb (by simp; exact nodup_ne hnd (by omega) (by omega) (Ne.symm hne))
     refine ⟨fun h79 => ?_, fun h79 => ?_⟩
     ·replace h79 := of_decide_eq_true h79
      obtain ⟨k81, o81, n81, c81, q81, ea81, hl81, hq81, r81, l81, hk81, hi81⟩ := RowB.at (hq2) i2 (by omega)
      refine ⟨k81, o81, n81, c81, i2, q81, ea81, rfl, hl81, hq81, ?_⟩
      refine ⟨_, _, hk81, hi81, ?_⟩
      refine .inr ⟨_, _, [_, _], hs2, ⟨rfl, rfl⟩, ?_⟩
      obtain ⟨k91, o91, n91, c91, q91, ea91, hl91, hq91, r91, l91, hk91, hi91⟩ := RowB.at (hGb) i2 (by omega)
      refine ⟨k91, o91, n91, c91, i2, q91, ea91, rfl, hl91, hq91, ?_⟩
      refine ⟨_, _, hk91, hi91, ?_⟩
      have hxq := toNat_le (clq (m + 1) p (R.getD d z0) c i2)
      have hxr := toNat_le (if i2 < i2 then addW (m + 1) p (R.getD i1 z0) (clq (m + 1) p (R.getD d z0) c) (-(bz (R.getD i1 z0) c)) i2 else R.getD i1 z0 i2)
      have hb2 : 0 ≤ ((R.getD i1 z0 c).toNat : Int) * ((clq (m + 1) p (R.getD d z0) c i2).toNat : Int) ∧ ((R.getD i1 z0 c).toNat : Int) * ((clq (m + 1) p (R.getD d z0) c i2).toNat : Int) ≤ 256 * 255 := mul_bd2 (by omega) (by omega) (by omega) (by omega)
      refine ⟨_, w64_id _ (by omega) (by omega), ?_⟩
      refine ⟨_, w64_id _ (by omega) (by omega), ?_⟩
      refine ⟨_, i_field_mod_ok B E.2.2 hp (by omega), rfl, ?_⟩
      obtain ⟨k100, o100, n100, c100, q100, C100, ea100, hl100, hq100, hk100, hs100⟩ := RowB.st (hGb) i2 (by omega)
      refine ⟨k100, o100, n100, c100, i2, q100, ea100, rfl, hl100, hq100, ?_⟩
      refine ⟨_, _, _, hk100, (hs100 _).1, eqBk_rfl, ?_⟩
      refine ⟨((i2 + 1 : Nat) : Int), w64_id _ (by omega) (by omega), ?_⟩
      refine ⟨by omega, (), ?_, ⟨rfl, rfl, rfl, rfl, rfl, rfl, rfl, rfl, rfl, rfl, rfl, rfl, trivial⟩⟩
      refine ⟨hFb.trans ((hs100 _).2.2.mono (by simp)), (hs100 _).2.1.congr fun x hx => ?_⟩
      by_cases e : x = i2
      ·subst e
       rw [upd_same, if_neg (Nat.lt_irrefl _), if_pos (Nat.lt_succ_self _)]
       simp only [addW, vec]; rw [if_pos hx]
       simp only [bz]
       rw [Int.neg_mul, Int.sub_eq_add_neg]
      ·rw [upd_ne _ _ _ _ e]
       by_cases h : x < i2
       ·rw [if_pos h, if_pos (by omega)]
       ·rw [if_neg h, if_neg (by omega)]
     ·replace h79 := of_decide_eq_false h79
      have e2 : i2 = m + 1 := by omega
      subst e2
      refine ⟨((i1 + 1 : Nat) : Int), w64_id _ (by omega) (by omega), ?_⟩
      refine ⟨by omega, (), ?_, ⟨rfl, rfl, rfl, rfl, rfl, rfl, rfl, trivial⟩⟩
      refine ⟨hFa.trans (hFb.mono (by simpa using hmj)), fun j hj' => ?_⟩
      by_cases h' : j = i1
      ·subst h'
       rw [if_pos (.inl (by omega))]
       refine hGb.congr fun x hx => ?_
       simp only [clR, if_neg hne, clj]; rw [if_neg h70, if_pos hx]
      ·refine ((hGa j hj').fr hFb (by simp; exact nodup_ne hnd hj' (by omega) h')).congr fun x _ => ?_
       by_cases e : j = d
       ·rw [if_pos (.inr e), if_pos (.inr e)]
       ·by_cases h : j < i1
        ·rw [if_pos (.inl h), if_pos (.inl (by omega))]
        ·rw [if_neg (by omega), if_neg (by omega)]
  ·replace h57 := of_decide_eq_false h57
   have e1 : i1 = As.length := by omega
   subst e1
   refine ⟨rfl, ⟨by rw [clr_len]; exact hAl, fun j hj => ?_⟩, hFa⟩
   rw [clr_at (by omega)]
   have := hGa j hj
   rwa [if_pos (.inl hj)] at this

end Hf
namespace Hf
open Go Classical
def swL {α : Type} (z : α) (L : List α) (i j : Nat) : List α := (L.set i (L.getD j z)).set j (L.getD i z)
section
variable {α : Type} {z : α} {L : List α} {i j : Nat}
theorem swL_len : (swL z L i j).length = L.length := by simp [swL]
theorem swL_perm (hi : i < L.length) (hj : j < L.length) : (swL z L i j).Perm L := by
 have := List.set_set_perm (as := L) hi hj
 simpa [swL, List.getD_eq_getElem?_getD, List.getElem?_eq_getElem hi, List.getElem?_eq_getElem hj] using this
theorem swL_at (hi : i < L.length) (hj : j < L.length) (x : Nat) : (swL z L i j).getD x z = if x = j then L.getD i z else if x = i then L.getD j z else L.getD x z := by
 unfold swL
 by_cases h1 : x = j
 ·subst h1
  rw [if_pos rfl, List.getD_eq_getElem?_getD, List.getElem?_set_self (by simpa using hj)]; rfl
 ·rw [if_neg h1, List.getD_eq_getElem?_getD, List.getElem?_set_ne (Ne.symm h1)]
  by_cases h2 : x = i
  ·subst h2
   rw [if_pos rfl, List.getElem?_set_self hi]; rfl
  ·rw [if_neg h2, List.getElem?_set_ne (Ne.symm h2), List.getD_eq_getElem?_getD]
end
theorem Rows.sw {H : List Blk} {w : Nat} {As : List At} {R : List By} (h : Rows H w As R) {i j : Nat} (hi : i < R.length) (hj : j < R.length) : Rows H w (swL .sn As i j) (swL z0 R i j) := by
 refine ⟨by rw [swL_len, swL_len]; exact h.1, fun x hx => ?_⟩
 have hA := h.1
 rw [swL_len] at hx
 rw [swL_at (by omega) (by omega), swL_at hi hj]
 split
 ·exact h.at i hi
 ·split
  ·exact h.at j hj
  ·exact h.2 x hx
theorem Rows.fr {l : List Nat} {H H' : List Blk} {w : Nat} {As : List At} {R : List By} (h : Rows H w As R) (e : Fr l H H') (hn : ∀ k ∈ As.map blkOf, k ∉ l) : Rows H' w As R :=
 ⟨h.1, fun i hi => (h.2 i hi).fr e (hn _ (map_getD hi))⟩
theorem RowB.cell {H : List Blk} {w : Nat} {a : At} {v : By} (h : RowB H w a v) : a.cell1 = true := by
 obtain ⟨k, cap, N, f, rfl, -⟩ := h; rfl
def rput : Bk → Nat → At → Bk
  | .rw l, x, a => .rw (l.set x a)
  | c, _, _ => c
/-- a place of the slice of rows is written -/
theorem Spn.st {H : List Blk} {ra : At} {As : List At} (h : Spn H ra As) (i : Nat) (hi : i < As.length) :
  ∃ k off len cap q c, ra = .sl k off len cap ∧ i < len ∧ off + i * 1 = q ∧ H[k]? = some ⟨false, c⟩ ∧ ∀ a, a.cell1 = true → cput c q a = some (rput c q a) ∧ Spn (H.set k ⟨false, rput c q a⟩) ra (As.set i a) ∧ Fr (spB ra) H (H.set k ⟨false, rput c q a⟩) := by
 rcases h with ⟨rfl, rfl⟩ | ⟨k, cap, l, rfl, hk, ⟨h1, h2⟩, h3⟩
 ·simp at hi
 ·refine ⟨k, 0, _, cap, i, _, rfl, hi, by omega, hk, fun a ha => ⟨if_pos ⟨by omega, ha⟩, .inr ⟨k, cap, l.set i a, by simp, set_same hk, ⟨by simpa using h1, by simpa using h2⟩, ?_⟩, ?_⟩⟩
  ·rw [List.length_set, List.take_set, h3]
  ·intro j B hj e
   exact set_other e (by intro q; subst q; exact hj (by simp [spB]))
theorem firstQ_or {q : Nat → Bool} {n : Nat} : (firstQ q n 0 = -1 ∧ ∀ j, j < n → q j = false) ∨ ∃ k, k < n ∧ firstQ q n 0 = (k : Int) ∧ q k = true ∧ ∀ j, j < k → q j = false := by
 by_cases h : fstN q n 0 < n
 ·have e1 : q (fstN q n 0) = true := fstN_some (by omega)
  have e2 : ∀ j, j < fstN q n 0 → q j = false := fun j hj => fstN_none (n := n) (i := 0) j (by omega) hj
  exact .inr ⟨fstN q n 0, h, firstQ_some (by omega) (by omega) e1 fun j _ hj => e2 j hj, e1, e2⟩
 ·have e2 : ∀ j, j < n → q j = false := fun j hj => fstN_none (n := n) (i := 0) j (by omega) (by omega)
  exact .inl ⟨firstQ_none fun j _ hj => e2 j (by omega), e2⟩

/-- one column -/
noncomputable def solS (w : Nat) (p : Int) (s : List By × List Int) (c : Nat) : List By × List Int :=
 if firstQ (fun i => s.1.getD (s.2.length + i) z0 c != 0) (s.1.length - s.2.length) 0 < 0 then s
 else (clr w p (swL z0 s.1 s.2.length (s.2.length + (firstQ (fun i => s.1.getD (s.2.length + i) z0 c != 0) (s.1.length - s.2.length) 0).toNat)) s.2.length c, s.2 ++ [(c : Int)])
noncomputable def solT (w : Nat) (p : Int) (R : List By) (i : Nat) : List By × List Int := (List.range i).foldl (solS w p) (R, [])
theorem solT_succ {w : Nat} {p : Int} {R : List By} {i : Nat} : solT w p R (i + 1) = solS w p (solT w p R i) i := by
 unfold solT; rw [List.range_succ, List.foldl_append]; rfl
theorem solS_len {w : Nat} {p : Int} {s : List By × List Int} {c : Nat} (h : s.2.length ≤ s.1.length) : (solS w p s c).1.length = s.1.length ∧ (solS w p s c).2.length ≤ s.1.length ∧ s.2.length ≤ (solS w p s c).2.length ∧ (solS w p s c).2.length ≤ s.2.length + 1 := by
 unfold solS
 rcases @firstQ_or (fun i => s.1.getD (s.2.length + i) z0 c != 0) (s.1.length - s.2.length) with ⟨e, -⟩ | ⟨k, hk, e, -⟩
 ·rw [e, if_pos (by omega)]; exact ⟨rfl, h, Nat.le_refl _, by omega⟩
 ·rw [e, if_neg (by omega)]
  refine ⟨by rw [clr_len, swL_len], ?_, ?_, ?_⟩ <;> simp <;> omega
theorem solT_len {w : Nat} {p : Int} {R : List By} : ∀ {i : Nat}, (solT w p R i).1.length = R.length ∧ (solT w p R i).2.length ≤ R.length ∧ (solT w p R i).2.length ≤ i
  | 0 => by simp [solT]
  | i + 1 => by
    obtain ⟨h1, h2, h3⟩ := @solT_len w p R i
    rw [solT_succ]
    have := @solS_len w p (solT w p R i) i (by omega)
    omega
/-- once every row is done, nothing changes -/
theorem solT_full {w : Nat} {p : Int} {R : List By} {i : Nat} : ∀ {j : Nat}, (solT w p R i).2.length = R.length → solT w p R (i + j) = solT w p R i
  | 0, _ => rfl
  | j + 1, h => by
    have ih := @solT_full w p R i j h
    rw [show i + (j + 1) = (i + j) + 1 from rfl, solT_succ, ih]
    have h1 := (@solT_len w p R i).1
    unfold solS
    rw [if_pos]
    rw [h1, h, Nat.sub_self, firstQ_none fun j _ hj => by omega]
    decide
theorem spB_nd (a : At) : (spB a).Nodup := by cases a <;> simp [spB]
/-- in the midst of solving: kb has the pointer to the system -/
structure SolI (m0 kb s : Nat) (p n0 : Int) (m : Nat) (R : List By) (T : List Int) (G : List Blk) (ra : At) (As : List At) (pa : At) : Prop where
 fkb : G[kb]? = some ⟨false, .vr (.pt s 0)⟩
 fs : G[s]? = some (sysB p n0 m ra pa)
 fra : Spn G ra As
 frows : Rows G (m + 1) As R
 fpa : Spn G pa (T.map (At.i .i64))
 nd : (kb :: OwnT s ra As pa).Nodup
 ge : ∀ k ∈ kb :: OwnT s ra As pa, m0 ≤ k
theorem Rows.blt {H : List Blk} {w : Nat} {As : List At} {R : List By} (h : Rows H w As R) : ∀ k ∈ As.map blkOf, k < H.length := by
 intro k hk
 obtain ⟨a, ha, rfl⟩ := List.mem_map.1 hk
 obtain ⟨i, hi, rfl⟩ := List.mem_iff_getElem.1 ha
 have := h.2 i hi
 rw [List.getD_eq_getElem?_getD, List.getElem?_eq_getElem hi] at this
 obtain ⟨k, cap, N, f, e, h2, -⟩ := this
 simp only [Option.getD_some] at e
 rw [e]; exact lt_of h2
section
variable {m0 kb s : Nat} {p n0 : Int} {m : Nat} {R : List By} {T : List Int} {G G' : List Blk} {ra : At} {As : List At} {pa : At}
theorem SolI.lt (h : SolI m0 kb s p n0 m R T G ra As pa) : ∀ k ∈ kb :: OwnT s ra As pa, k < G.length := by
 intro k hk
 simp only [OwnT, List.mem_cons, List.mem_append] at hk
 rcases hk with rfl | rfl | hk | hk | hk
 ·exact lt_of h.fkb
 ·exact lt_of h.fs
 ·exact h.fpa.lt.2 k hk
 ·exact h.fra.lt.2 k hk
 ·exact h.frows.blt k hk
theorem SolI.fr (h : SolI m0 kb s p n0 m R T G ra As pa) {l : List Nat} (e : Fr l G G') (hn : ∀ k ∈ kb :: OwnT s ra As pa, k ∉ l) : SolI m0 kb s p n0 m R T G' ra As pa :=
 ⟨e _ _ (hn _ (by simp)) h.fkb, e _ _ (hn _ (by simp [OwnT])) h.fs, h.fra.fr e fun k hk => hn k (by simp [OwnT, hk]), h.frows.fr e fun k hk => hn k (by simp only [OwnT, List.mem_cons, List.mem_append]; simp [hk]), h.fpa.fr e fun k hk => hn k (by simp [OwnT, hk]), h.nd, h.ge⟩
theorem SolI.ext (h : SolI m0 kb s p n0 m R T G ra As pa) (e : Ext G G') : SolI m0 kb s p n0 m R T G' ra As pa := h.fr (l := []) (e.fr) (by simp)
/-- the rows in another order -/
theorem SolI.sw (h : SolI m0 kb s p n0 m R T G ra As pa) {i j : Nat} (hi : i < R.length) (hj : j < R.length) (e : Fr (spB ra) G G') (hr : Spn G' ra (swL .sn As i j)) : SolI m0 kb s p n0 m (swL z0 R i j) T G' ra (swL .sn As i j) pa := by
 have hA := h.frows.1
 have hperm : ((swL .sn As i j).map blkOf).Perm (As.map blkOf) := (swL_perm (by omega) (by omega)).map _
 have hown : (kb :: OwnT s ra (swL .sn As i j) pa).Perm (kb :: OwnT s ra As pa) := by
  unfold OwnT
  exact ((hperm.append_left _).append_left _ |>.cons _).cons _
 have nd := h.nd
 have hnr : ∀ k, k = kb ∨ k = s ∨ k ∈ spB pa ∨ k ∈ As.map blkOf → k ∉ spB ra := by
  intro k hk hq
  simp only [OwnT, List.nodup_cons, List.nodup_append, List.mem_cons, List.mem_append, not_or] at nd
  grind
 refine ⟨e _ _ (hnr _ (.inl rfl)) h.fkb, e _ _ (hnr _ (.inr (.inl rfl))) h.fs, hr, (h.frows.fr e fun k hk => hnr k (by simp [hk])).sw hi hj, h.fpa.fr e fun k hk => hnr k (by simp [hk]), hown.nodup_iff.2 nd, fun k hk => h.ge k (hown.mem_iff.1 hk)⟩
/-- the contents of the rows changed -/
theorem SolI.cl (h : SolI m0 kb s p n0 m R T G ra As pa) {R' : List By} (e : Fr (As.map blkOf) G G') (hr : Rows G' (m + 1) As R') : SolI m0 kb s p n0 m R' T G' ra As pa := by
 have nd := h.nd
 have hnr : ∀ k, k = kb ∨ k = s ∨ k ∈ spB pa ∨ k ∈ spB ra → k ∉ As.map blkOf := by
  intro k hk hq
  simp only [OwnT, List.nodup_cons, List.nodup_append, List.mem_cons, List.mem_append, not_or] at nd
  grind
 exact ⟨e _ _ (hnr _ (.inl rfl)) h.fkb, e _ _ (hnr _ (.inr (.inl rfl))) h.fs, h.fra.fr e fun k hk => hnr k (by simp [hk]), hr, h.fpa.fr e fun k hk => hnr k (by simp [hk]), nd, h.ge⟩
/-- other places -/
theorem SolI.pl (h : SolI m0 kb s p n0 m R T G ra As pa) {T' : List Int} {pa' : At} {G1 : List Blk} (e0 : Ext G G1) (e : Fr (spB pa) G1 G') (hp : Spn G' pa' (T'.map (At.i .i64))) (hb : ∀ k ∈ spB pa', k ∈ spB pa ∨ k = G1.length) (hm : m0 ≤ G.length) : SolI m0 kb s p n0 m R T' (G'.set s (sysB p n0 m ra pa')) ra As pa' := by
 have nd := h.nd
 have hlt := h.lt
 have ge := h.ge
 have hl := e0.len
 have hnr : ∀ k, k = kb ∨ k = s ∨ k ∈ spB ra ∨ k ∈ As.map blkOf → k ∉ spB pa := by
  intro k hk hq
  simp only [OwnT, List.nodup_cons, List.nodup_append, List.mem_cons, List.mem_append, not_or] at nd
  grind
 have hs' := e _ _ (hnr s (by simp)) (e0 _ _ h.fs)
 have nd' : (kb :: OwnT s ra As pa').Nodup ∧ ∀ k ∈ kb :: OwnT s ra As pa', m0 ≤ k := by
  have hn' := spB_nd pa'
  unfold OwnT at nd ge hlt ⊢
  simp only [List.nodup_cons, List.nodup_append, List.mem_cons, List.mem_append, not_or] at nd ge hlt ⊢
  constructor <;> grind
 have f1 : Fr [s] G' (G'.set s (sysB p n0 m ra pa')) := fun k B hk e => set_other e (by intro q; exact hk (by simp [q]))
 have hx := nd'.1
 have hns : ∀ k, k = kb ∨ k ∈ spB pa' ∨ k ∈ spB ra ∨ k ∈ As.map blkOf → k ∉ [s] := by
  intro k hk hq
  simp only [OwnT, List.nodup_cons, List.nodup_append, List.mem_cons, List.mem_append, not_or] at hx
  grind
 refine ⟨f1 _ _ (hns _ (.inl rfl)) (e _ _ (hnr _ (.inl rfl)) (e0 _ _ h.fkb)), set_same hs', ((h.fra.fr e0.fr (l := []) (by simp)).fr e fun k hk => hnr k (by simp [hk])).fr f1 fun k hk => hns k (by simp [hk]),
  ((h.frows.fr (l := []) e0.fr (by simp)).fr e fun k hk => hnr k (by simp [hk])).fr f1 fun k hk => hns k (by simp [hk]), hp.fr f1 fun k hk => hns k (by simp [hk]), nd'.1, nd'.2⟩
end
theorem app_hb {pa a' : At} {n : Nat} (h : spB a' = spB pa ∧ pa ≠ .sn ∨ spB a' = [n]) : ∀ k ∈ spB a', k ∈ spB pa ∨ k = n := by
 intro k hk
 rcases h with ⟨h, -⟩ | h
 ·rw [h] at hk; exact .inl hk
 ·rw [h] at hk; exact .inr (by simpa using hk)
theorem Spn.sl {H : List Blk} {ra : At} {As : List At} (h : Spn H ra As) (hn : 0 < As.length) : ∃ k cap l, ra = .sl k 0 As.length cap ∧ H[k]? = some ⟨false, .rw l⟩ ∧ (cap ≤ l.length ∧ As.length ≤ cap) ∧ l.take As.length = As := by
 rcases h with ⟨rfl, rfl⟩ | h
 ·simp at hn
 ·exact h
theorem Spn.cell {H : List Blk} {ra : At} {As : List At} (h : Spn H ra As) : ra.cell1 = true := by
 rcases h with ⟨rfl, rfl⟩ | ⟨k, cap, l, rfl, -⟩ <;> rfl
theorem rdR_drop {H : List Blk} {k cap d : Nat} {l As : List At} (hk : H[k]? = some ⟨false, .rw l⟩) (h1 : cap ≤ l.length ∧ As.length ≤ cap) (h3 : l.take As.length = As) (hd : d ≤ As.length) (c : Nat) :
  rdR H (.sl k (if cap = d then 0 else 0 + d * 1) (As.length - d) c) (As.drop d) := by
 refine ⟨false, l, hk, by split <;> omega, ?_⟩
 split
 ·have : As.length = d := by omega
  simp [this]
 ·rw [show As.drop d = (l.take As.length).drop d by rw [h3], List.drop_take]
  simp
theorem kept1 {k : Nat} {B : Blk} {H H' : List Blk} (h : H[k]? = some B) (h' : H'[k]? = some B) : H'[k]? = H[k]? := by rw [h, h']
theorem drop_getD {As : List At} {d i : Nat} : (As.drop d).getD i .sn = As.getD (d + i) .sn := by
 simp [List.getD_eq_getElem?_getD]
theorem solve_start {m0 s m : Nat} {p n0 : Int} {R : List By} {H : List Blk} {T0 : List Int} {ra pa : At} {As : List At} {B : Blk} (hs : H[s]? = some (sysB p n0 m ra pa)) (hra : Spn H ra As) (hR : Rows H (m + 1) As R) (hpa : Spn H pa (T0.map (At.i .i64)))
  (hnd : (OwnT s ra As pa).Nodup) (hge : ∀ k ∈ OwnT s ra As pa, m0 ≤ k) (hm : m0 ≤ H.length) :
  SolI m0 H.length s p n0 m R [] (((H ++ [(⟨false, .vr (.pt s 0)⟩ : Blk)]).set s (sysB p n0 m ra .sn)) ++ [B]) ra As .sn ∧ (∀ k ∈ H.length :: OwnT s ra As .sn, k < H.length + 1) ∧ Upto m0 H (((H ++ [(⟨false, .vr (.pt s 0)⟩ : Blk)]).set s (sysB p n0 m ra .sn)) ++ [B]) := by
 have e0 : Ext H (H ++ [⟨false, .vr (.pt s 0)⟩]) := Ext.app
 have hlt : ∀ k ∈ OwnT s ra As pa, k < H.length := by
  intro k hk
  simp only [OwnT, List.mem_cons, List.mem_append] at hk
  rcases hk with rfl | hk | hk | hk
  ·exact lt_of hs
  ·exact hpa.lt.2 k hk
  ·exact hra.lt.2 k hk
  ·exact hR.blt k hk
 have h1 : SolI m0 H.length s p n0 m R T0 (H ++ [⟨false, .vr (.pt s 0)⟩]) ra As pa :=
  ⟨get_new, e0 _ _ hs, hra.fr (l := []) e0.fr (by simp), hR.fr (l := []) e0.fr (by simp), hpa.fr (l := []) e0.fr (by simp), List.nodup_cons.2 ⟨fun h => absurd (hlt _ h) (by omega), hnd⟩, by
   intro k hk
   rcases List.mem_cons.1 hk with rfl | hk
   ·exact hm
   ·exact hge k hk⟩
 have h2 := h1.pl (T' := []) (pa' := .sn) Ext.refl Fr.refl (.inl ⟨rfl, rfl⟩) (by simp [spB]) (by simp; omega)
 refine ⟨h2.ext Ext.app, fun k hk => by simpa using h2.lt k hk, fun k B hk e => app_old ?_⟩
 rw [List.getElem?_set_ne (by have := hge s (by simp [OwnT]); omega)]
 exact app_old e
/-- the rows before and behind a place -/
theorem SolI.done {m0 kb s : Nat} {p n0 : Int} {m : Nat} {R : List By} {T : List Int} {G : List Blk} {ra : At} {As : List At} {pa : At} (h : SolI m0 kb s p n0 m R T G ra As pa) {d : Nat} (hd : d ≤ R.length) {ra' : At} (hr : spB ra' = spB ra)
  (hsp : Spn (G.set s (sysB p n0 m ra' pa)) ra' (As.take d)) : SY m0 (G.set s (sysB p n0 m ra' pa)) s p n0 m (R.take d) T ∧ Fr [s] G (G.set s (sysB p n0 m ra' pa)) := by
 have nd := h.nd
 have f1 : Fr [s] G (G.set s (sysB p n0 m ra' pa)) := fun k B hk e => set_other e (by intro q; exact hk (by simp [q]))
 have hns : ∀ k, k ∈ spB pa ∨ k ∈ spB ra ∨ k ∈ As.map blkOf → k ∉ [s] := by
  intro k hk hq
  simp only [OwnT, List.nodup_cons, List.nodup_append, List.mem_cons, List.mem_append, not_or] at nd
  grind
 have hsub : (OwnT s ra' (As.take d) pa).Sublist (kb :: OwnT s ra As pa) := by
  unfold OwnT
  rw [hr]
  exact ((((List.Sublist.map _ (List.take_sublist d As)).append_left _).append_left _).cons_cons _).cons _
 refine ⟨⟨ra', As.take d, pa, set_same h.fs, hsp, ⟨by simp; rw [h.frows.1], fun i hi => ?_⟩, h.fpa.fr f1 fun k hk => hns k (.inl hk), hsub.nodup nd, fun k hk => h.ge k (hsub.subset hk)⟩, f1⟩
 have hi' : i < d ∧ i < As.length := by rwa [List.length_take, Nat.lt_min] at hi
 have e1 : (As.take d).getD i .sn = As.getD i .sn := by simp [List.getD_eq_getElem?_getD, List.getElem?_take_of_lt hi'.1]
 have e2 : (R.take d).getD i z0 = R.getD i z0 := by simp [List.getD_eq_getElem?_getD, List.getElem?_take_of_lt hi'.1]
 rw [e1, e2]
 exact (h.frows.2 i hi'.2).fr f1 (hns _ (.inr (.inr (map_getD hi'.2))))
noncomputable def solOK (w : Nat) (p : Int) (R : List By) (m : Nat) : Bool := !decide (firstQ (fun i => (solT w p R m).1.getD ((solT w p R m).2.length + i) z0 m != 0) (R.length - (solT w p R m).2.length) 0 ≥ 0)
theorem spn_take {H : List Blk} {k cap d : Nat} {l As : List At} (hk : H[k]? = some ⟨false, .rw l⟩) (h1 : cap ≤ l.length ∧ As.length ≤ cap) (h3 : l.take As.length = As) (hd : d ≤ As.length) :
  Spn H (.sl k (if cap = 0 then 0 else 0 + 0 * 1) (d - 0) (cap - 0)) (As.take d) := by
 have e : (if cap = 0 then 0 else 0 + 0 * 1) = 0 := by split <;> rfl
 have e2 : (As.take d).length = d := by simp; omega
 rw [e]
 refine .inr ⟨k, cap, l, by rw [e2]; rfl, hk, by rw [e2]; exact ⟨h1.1, by omega⟩, ?_⟩
 rw [e2, ← h3, List.take_take, Nat.min_eq_left hd]
end Hf
