/- Contracts of the functions that the law reaches. -/
import Derived.Test.YtkkjaohppodccadP2
set_option linter.unusedVariables false
set_option linter.unusedSimpArgs false
namespace Hf
open Go
/-- a byte as a number -/
def bz (f : By) (k : Nat) : Int := ((f k).toNat : Int)
theorem bz_nn (f : By) (k : Nat) : 0 ≤ bz f k := by unfold bz; omega
theorem bz_le (f : By) (k : Nat) : bz f k ≤ 255 := by unfold bz; have := toNat_le (f k); omega
theorem bz_byt (n : Int) (h0 : 0 ≤ n) (h1 : n ≤ 255) : ((byt n).toNat : Int) = n := by rw [byt_toNat]; omega
theorem byt_bz (f : By) (k : Nat) : byt (bz f k) = f k := by
  have h := byt_toNat (bz f k)
  have h1 := bz_nn f k
  have h2 := bz_le f k
  apply UInt8.toNat_inj.1
  unfold bz at *
  omega
theorem u_eq0 {x : UInt8} : x = 0 ↔ (x.toNat : Int) = 0 := by
  constructor
  · rintro rfl; rfl
  · intro h; apply UInt8.toNat_inj.1; show x.toNat = 0; omega

/-- a sum of n numbers -/
def sm : Nat → (Nat → Int) → Int
  | 0, _ => 0
  | n + 1, x => sm n x + x n
theorem sm_congr {x y : Nat → Int} : ∀ {n : Nat}, (∀ i, i < n → x i = y i) → sm n x = sm n y
  | 0, _ => rfl
  | n + 1, h => by simp only [sm]; rw [sm_congr fun i hi => h i (by omega), h n (by omega)]
theorem sm_zero : ∀ {n : Nat} {x : Nat → Int}, (∀ i, i < n → x i = 0) → sm n x = 0
  | 0, _, _ => rfl
  | n + 1, x, h => by simp only [sm]; rw [sm_zero fun i hi => h i (by omega), h n (by omega)]; rfl
theorem sm_ext {x : Nat → Int} {n m : Nat} (h : n ≤ m) (h0 : ∀ i, n ≤ i → i < m → x i = 0) : sm m x = sm n x := by
  induction m with
  | zero => have : n = 0 := by omega
            subst this; rfl
  | succ m ih =>
    by_cases e : n = m + 1
    · rw [e]
    · simp only [sm]
      rw [ih (by omega) fun i h1 h2 => h0 i h1 (by omega), h0 m (by omega) (by omega)]; omega
theorem sm_mul (c : Int) {x : Nat → Int} : ∀ {n : Nat}, sm n (fun i => c * x i) = c * sm n x
  | 0 => by simp [sm]
  | n + 1 => by simp only [sm]; rw [sm_mul c, Int.mul_add]
theorem sm_add {x y : Nat → Int} : ∀ {n : Nat}, sm n (fun i => x i + y i) = sm n x + sm n y
  | 0 => rfl
  | n + 1 => by simp only [sm]; rw [sm_add]; omega
/-- the same modulo p -/
def cg (p a b : Int) : Prop := a % p = b % p
theorem cg.rfl' {p a : Int} : cg p a a := rfl
theorem cg.symm {p a b : Int} (h : cg p a b) : cg p b a := Eq.symm h
theorem cg.trans {p a b c : Int} (h : cg p a b) (h' : cg p b c) : cg p a c := Eq.trans h h'
theorem cg_of_eq {p a b : Int} (h : a = b) : cg p a b := by rw [h]; rfl
theorem cg_add {p a b c d : Int} (h : cg p a b) (h' : cg p c d) : cg p (a + c) (b + d) := by
  unfold cg at *; rw [Int.add_emod, h, h', ← Int.add_emod]
theorem cg_mul {p a b c d : Int} (h : cg p a b) (h' : cg p c d) : cg p (a * c) (b * d) := by
  unfold cg at *; rw [Int.mul_emod, h, h', ← Int.mul_emod]
theorem cg_mod {p a : Int} : cg p (a % p) a := Int.emod_emod_of_dvd a (Int.dvd_refl p)
theorem cg_sm {p : Int} {x y : Nat → Int} : ∀ {n : Nat}, (∀ i, i < n → cg p (x i) (y i)) → cg p (sm n x) (sm n y)
  | 0, _ => rfl
  | n + 1, h => cg_add (cg_sm fun i hi => h i (by omega)) (h n (by omega))

/-- N bytes, each a number modulo p -/
def vec (N : Nat) (p : Int) (x : Nat → Int) : By := fun k => if k < N then byt (x k % p) else 0
theorem vec_congr {N : Nat} {p : Int} {x y : Nat → Int} (h : ∀ k, k < N → cg p (x k) (y k)) : vec N p x = vec N p y := by
  funext k
  simp only [vec]
  split
  · rename_i hk; have := h k hk; unfold cg at this; rw [this]
  · rfl
theorem bz_vec {N : Nat} {p : Int} {x : Nat → Int} {k : Nat} (hp : 1 ≤ p) (hp2 : p ≤ 256) (hk : k < N) : bz (vec N p x) k = x k % p := by
  unfold bz vec
  rw [if_pos hk, byt_toNat]
  have h1 := Int.emod_nonneg (x k) (show p ≠ 0 by omega)
  have h2 := Int.emod_lt_of_pos (x k) (show 0 < p by omega)
  omega
theorem cg_vec {N : Nat} {p : Int} {x : Nat → Int} {k : Nat} (hp : 1 ≤ p) (hp2 : p ≤ 256) (hk : k < N) : cg p (bz (vec N p x) k) (x k) := by
  rw [bz_vec hp hp2 hk]; exact cg_mod
theorem vec_zero {N : Nat} {p : Int} {x : Nat → Int} (h : ∀ k, k < N → x k = 0) : vec N p x = fun _ => 0 := by
  funext k
  simp only [vec]
  split
  · rename_i hk; rw [h k hk]; simp; rfl
  · rfl
end Hf
namespace Hf
open Go Classical
variable {P : Program} {ρ : Nat → FuncId}
structure Bs (P : Program) (ρ : Nat → FuncId) : Prop where
  fn : ∀ f, fnOk P (ρ f) = true
  mo : P.follows .mixedOrders = true
theorem bne_t {α : Type} [BEq α] [LawfulBEq α] {a b : α} (h : (a != b) = true) : a ≠ b := by simpa using h
theorem bne_f {α : Type} [BEq α] [LawfulBEq α] {a b : α} (h : (a != b) = false) : a = b := by simpa using h

theorem tmod_emod (x p : Int) (hp : 0 < p) : (if x.tmod p < 0 then x.tmod p + p else x.tmod p) = x % p := by
  rcases Int.le_total 0 x with h | h
  · rw [Int.tmod_eq_emod_of_nonneg h, if_neg]
    have := Int.emod_nonneg x (show p ≠ 0 by omega)
    omega
  · have h1 := Int.tmod_eq_emod (a := x) (b := p)
    have h2 := Int.emod_nonneg x (show p ≠ 0 by omega)
    have h3 := Int.emod_lt_of_pos x hp
    rw [h1]
    have e : (p.natAbs : Int) = p := by omega
    by_cases hc : 0 ≤ x ∨ p ∣ x
    · rw [if_pos hc]; simp; omega
    · rw [if_neg hc, e, if_pos (by omega)]; omega

theorem mul_bd {a b A B : Int} (h1 : -A ≤ a) (h2 : a ≤ A) (h3 : 0 ≤ b) (h4 : b ≤ B) : -(A * B) ≤ a * b ∧ a * b ≤ A * B := by
  have hA : 0 ≤ A := by omega
  constructor
  · have e1 : -(A * B) = (-A) * B := by rw [Int.neg_mul]
    rw [e1]
    have q1 : (-A) * B ≤ (-A) * b := Int.mul_le_mul_of_nonpos_left (by omega) h4
    have q2 : (-A) * b ≤ a * b := Int.mul_le_mul_of_nonneg_right h1 h3
    omega
  · have q1 : A * b ≤ A * B := Int.mul_le_mul_of_nonneg_left h4 hA
    have q2 : a * b ≤ A * b := Int.mul_le_mul_of_nonneg_right h2 h3
    omega

def plsN (p : Int) (f : By) (off : Nat) (k : Int) (w : By) (m : Nat) : By := fun x => if off ≤ x ∧ x < off + m then byt ((bz f x + k * bz w (x - off)) % p) else f x
theorem plsN_zero {p : Int} {f : By} {off : Nat} {k : Int} {w : By} : plsN p f off k w 0 = f := by
  funext x; simp only [plsN]; rw [if_neg (by omega)]
theorem plsN_succ {p : Int} {f : By} {off : Nat} {k : Int} {w : By} {m : Nat} : upd (plsN p f off k w m) (off + m) (byt ((bz f (off + m) + k * bz w m) % p)) = plsN p f off k w (m + 1) := by
  funext x
  simp only [plsN, upd]
  by_cases h : x = off + m
  · subst h; rw [if_pos rfl, if_pos (by omega), show off + m - off = m by omega]
  · rw [if_neg h]
    by_cases h2 : off ≤ x ∧ x < off + m
    · rw [if_pos h2, if_pos (by omega)]
    · rw [if_neg h2, if_neg (by omega)]
theorem plsN_at {p : Int} {f : By} {off : Nat} {k : Int} {w : By} {m : Nat} : plsN p f off k w m (off + m) = f (off + m) := by
  simp only [plsN]; rw [if_neg (by omega)]
theorem plsN_k0 {p : Int} {f : By} {off : Nat} {w : By} {m : Nat} (h : ∀ x, off ≤ x → x < off + m → bz f x < p) : plsN p f off 0 w m = f := by
  funext x; simp only [plsN]
  split
  · rename_i hx
    have := h x hx.1 hx.2
    have h0 := bz_nn f x
    rw [Int.zero_mul, Int.add_zero, Int.emod_eq_of_lt h0 this, byt_bz]
  · rfl


theorem i_field_mod_ok (B : Bs P ρ) (E : E_i_field_mod P ρ) {p n x : Int} {g : By} (hp : 1 ≤ p) (hp2 : p ≤ 1000) :
    CallOK P ρ 74 [.ag [p, n] 2 g, .i .i64 x] [] (.one (.u (byt (x % p)))) [] := by
  refine call_of_vc B.fn B.mo E rfl rfl ?_
  have hm := tmod_emod x p (by omega)
  have h2 := Int.emod_nonneg x (show p ≠ 0 by omega)
  have h3 := Int.emod_lt_of_pos x (show 0 < p by omega)
  refine ⟨0, rfl, ?_⟩
  refine ⟨by omega, _, rfl, ?_⟩
  refine ⟨fun h10 => ?_, fun h10 => ?_⟩
  · replace h10 := of_decide_eq_true h10
    rw [if_pos h10] at hm
    refine ⟨_, w64_id _ (by first | omega | (simp <;> omega)) (by first | omega | (simp <;> omega)), ?_⟩
    refine ⟨rfl, [], ?_, rfl, trivial, rfl, rfl⟩
    show Sv.one (At.u (byt (x.tmod p + p))) = _
    rw [hm]
    rfl
  · replace h10 := of_decide_eq_false h10
    rw [if_neg h10] at hm
    refine ⟨rfl, [], ?_, rfl, trivial, rfl, rfl⟩
    show Sv.one (At.u (byt (x.tmod p))) = _
    rw [hm]
    rfl

theorem i_field_plus_ok (B : Bs P ρ) (E : E_i_field_plus P ρ) {p n k : Int} {g0 w f : By} {hd : List Int} {N off : Nat} (hp : 1 ≤ p) (hp2 : p ≤ 1000) (ho : hd.length ≤ off) (hN : off + 8 ≤ N) (hk : -1000000000000 ≤ k) (hk2 : k ≤ 1000000000000) (hf : ∀ x, off ≤ x → x < off + 8 → bz f x < p) :
    CallOK P ρ 71 [.ag [p, n] 2 g0, .pt 0 off, .i .i64 k, .ag [] 8 w] [⟨false, .by hd N f⟩] (.tup []) [⟨false, .by hd N (plsN p f off k w 8)⟩] := by
  refine call_of_vc B.fn B.mo E.1 rfl rfl ?_
  refine ⟨1, rfl, ?_⟩
  refine ⟨2, rfl, ?_⟩
  refine ⟨fun h11 => ?_, fun h11 => ?_⟩
  · replace h11 := eq_of_beq h11
    subst h11
    refine ⟨rfl, [], rfl, rfl, ⟨?_, trivial⟩, rfl, rfl⟩
    rw [plsN_k0 hf]; rfl
  · replace h11 := ne_of_beq_false h11
    refine ⟨⟨by first | omega | (simp <;> omega), by first | omega | (simp <;> omega)⟩, ?_⟩
    refine .inl ⟨(fun a1 a2 a12 b1 b2 i0 => St.mk [(1, a1), (2, a2), (4, .one (.pt 1 0)), (12, a12), (13, .one (.i .i64 ((i0 : Nat) : Int)))] [Blk.mk false (.by hd N (plsN p f off k w i0)), b1, b2]) _ _ _ _ _ , fun i0 => True, 8, trivial, ⟨⟨rfl, rfl, rfl, rfl, rfl, trivial⟩, ⟨?_, rfl, rfl, trivial⟩, rfl⟩, fun i0 hi0 _ => ?_⟩
    · rw [plsN_zero]
    refine ⟨fun h14 => ?_, fun h14 => ?_⟩
    · replace h14 := of_decide_eq_true h14
      have b1 := mul_bd (A := 1000000000000) (B := 255) (a := k) (b := bz w i0) (by omega) (by omega) (bz_nn _ _) (bz_le _ _)
      have b2 := bz_nn f (off + i0)
      have b3 := bz_le f (off + i0)
      refine ⟨_, rfl, by first | omega | (simp <;> omega), by first | omega | (simp <;> omega), ?_⟩
      refine ⟨_, off + i0, rfl, by omega, by omega, ?_⟩
      refine ⟨⟨by first | omega | (simp <;> omega), by first | omega | (simp <;> omega)⟩, ?_⟩
      refine ⟨k * bz w i0, ?_, ?_⟩
      · show w64 (k * bz (sh w 0) i0) = _
        have : bz (sh w 0) i0 = bz w i0 := by simp [bz]
        rw [this]
        exact w64_id _ (by omega) (by omega)
      refine ⟨bz f (off + i0) + k * bz w i0, ?_, ?_⟩
      · show w64 (bz (plsN p f off k w i0) (off + i0) + _) = _
        have : bz (plsN p f off k w i0) (off + i0) = bz f (off + i0) := by simp only [bz, plsN_at]
        rw [this]
        exact w64_id _ (by omega) (by omega)
      refine ⟨3, [], _, _, _, _, [_, _, _], rfl, i_field_mod_ok B E.2 hp hp2, rfl, trivial, rfl, rfl, rfl, ?_⟩
      refine ⟨_, off + i0, rfl, by omega, by omega, ?_⟩
      refine ⟨⟨by first | omega | (simp <;> omega), by first | omega | (simp <;> omega)⟩, ?_⟩   -- st8 ['.t', 33] ['.t', 31]
      refine ⟨((i0 + 1 : Nat) : Int), w64_id _ (by omega) (by omega), ?_⟩
      refine ⟨by omega, trivial, ⟨rfl, rfl, rfl, rfl, rfl, trivial⟩, ⟨?_, rfl, rfl, trivial⟩, rfl⟩
      exact congrArg (fun g => (⟨false, .by hd N g⟩ : Blk)) plsN_succ.symm
    · replace h14 := of_decide_eq_false h14
      have e0 : 8 = i0 := by omega
      subst e0
      exact ⟨rfl, [], rfl, rfl, ⟨rfl, trivial⟩, rfl, rfl⟩


end Hf
namespace Hf
open Go Classical
variable {P : Program} {ρ : Nat → FuncId}
theorem sh_zero (f : By) : sh f 0 = f := by funext x; simp [sh]
/-- what the copied result holds -/
theorem out_eq {n : Nat} {G R : By} (h : ∀ k, k < n → G k = R k) (h0 : ∀ k, n ≤ k → R k = 0) : sh (spl (fun _ => 0) 0 n (sh G 0)) 0 = R := by
  rw [sh_zero, sh_zero]
  funext x
  simp only [spl]
  by_cases hx : x < n
  · rw [if_pos (by omega)]; exact h x hx
  · rw [if_neg (by omega)]; exact (h0 x (by omega)).symm
theorem vec_out {N : Nat} {p : Int} {x : Nat → Int} {k : Nat} (h : N ≤ k) : vec N p x k = 0 := by
  simp only [vec]; rw [if_neg (by omega)]
theorem out_vec {n : Nat} {p : Int} {x : Nat → Int} : sh (spl (fun _ => 0) 0 n (sh (vec n p x) 0)) 0 = vec n p x :=
  out_eq (fun _ _ => rfl) fun _ h => vec_out h
theorem one_ag {n : Nat} {f g : By} (h : f = g) : Sv.one (.ag [] n f) = Sv.one (.ag [] n g) := by rw [h]
theorem blk_by {r : Bool} {hd : List Int} {n : Nat} {f g : By} (h : f = g) : Blk.mk r (.by hd n f) = Blk.mk r (.by hd n g) := by rw [h]
theorem one_i {a b : Int} (h : a = b) : Sv.one (.i .i64 a) = Sv.one (.i .i64 b) := by rw [h]
theorem one_b {a b : Bool} (h : a = b) : Sv.one (.b a) = Sv.one (.b b) := by rw [h]
theorem z_spl (n : Nat) (g : By) (h : ∀ k, n ≤ k → g k = 0) : spl (fun _ => 0) 0 n g = g := by
  funext x
  simp only [spl]
  by_cases hx : x < n
  · rw [if_pos (by omega)]; rfl
  · rw [if_neg (by omega), h x (by omega)]
theorem sm_bd {A : Int} {x : Nat → Int} : ∀ {n : Nat}, (∀ i, i < n → 0 ≤ x i ∧ x i ≤ A) → 0 ≤ sm n x ∧ sm n x ≤ n * A
  | 0, _ => by simp [sm]
  | n + 1, h => by
    have h1 := sm_bd (A := A) (x := x) (n := n) fun i hi => h i (by omega)
    have h2 := h n (by omega)
    simp only [sm]
    have e : ((n + 1 : Nat) : Int) * A = n * A + A := by rw [Int.natCast_add, Int.add_mul]; simp
    rw [e]
    omega
theorem dotb (v w : By) (j : Nat) : bz v j * bz w j ≤ 65025 := by
  have q := mul_bd (A := 255) (B := 255) (a := bz v j) (b := bz w j) (by have := bz_nn v j; omega) (bz_le _ _) (bz_nn _ _) (bz_le _ _)
  omega
/-- the basis element i -/
def bas (i : Nat) : By := fun x => if x = i then 1 else 0

theorem i_basis_ok (B : Bs P ρ) (E : E_i_basis P ρ) {i : Nat} (hi : i < 8) :
    CallOK P ρ 61 [.i .i64 (i : Int)] [] (.one (.ag [] 8 (bas i))) [] := by
  refine call_of_vc B.fn B.mo E rfl rfl ?_
  refine ⟨0, rfl, ?_⟩
  refine ⟨1, rfl, ?_⟩
  refine ⟨⟨rfl, by first | omega | (simp <;> omega), by first | omega | (simp <;> omega)⟩, ?_⟩   -- sta ['.t', 3] ['.t', 4] 8
  refine ⟨i, i, rfl, by omega, by omega, ?_⟩
  refine ⟨⟨by first | omega | (simp <;> omega), by first | omega | (simp <;> omega)⟩, ?_⟩   -- st8 ['.t', 6] ['.c', ['.u', 1]]
  refine ⟨⟨by first | omega | (simp <;> omega), by first | omega | (simp <;> omega)⟩, ?_⟩
  refine ⟨⟨rfl, by first | omega | (simp <;> omega), by first | omega | (simp <;> omega)⟩, ?_⟩   -- sta ['.t', 2] ['.t', 7] 8
  refine ⟨rfl, ⟨by first | omega | (simp <;> omega), by first | omega | (simp <;> omega)⟩, [], ?_, rfl, trivial, rfl, rfl⟩
  refine one_ag (out_eq (fun k hk => ?_) fun k hk => ?_)
  · simp only [upd, spl, bas, Nat.zero_add, Nat.mul_one]
    by_cases e : k = i <;> simp [e]
  · simp only [bas]; rw [if_neg (by omega)]

theorem i_Algebra_field_ok (B : Bs P ρ) (E : E_i_Algebra_field P ρ) {p n : Int} {f : By} :
    CallOK P ρ 116 [.pt 0 0] [⟨true, .by [p, n] 522 f⟩] (.one (.ag [p, n] 2 (fun _ => 0))) [⟨true, .by [p, n] 522 f⟩] := by
  refine call_of_vc B.fn B.mo E rfl rfl ?_
  refine ⟨1, rfl, ?_⟩
  exact ⟨rfl, ⟨by first | omega | (simp <;> omega), by first | omega | (simp <;> omega)⟩, [], rfl, rfl, ⟨rfl, trivial⟩, rfl, rfl⟩

theorem i_Coalgebra_field_ok (B : Bs P ρ) (E : E_i_Coalgebra_field P ρ) {p n : Int} {f : By} :
    CallOK P ρ 117 [.pt 0 0] [⟨true, .by [p, n] 522 f⟩] (.one (.ag [p, n] 2 (fun _ => 0))) [⟨true, .by [p, n] 522 f⟩] := by
  refine call_of_vc B.fn B.mo E rfl rfl ?_
  refine ⟨1, rfl, ?_⟩
  exact ⟨rfl, ⟨by first | omega | (simp <;> omega), by first | omega | (simp <;> omega)⟩, [], rfl, rfl, ⟨rfl, trivial⟩, rfl, rfl⟩

theorem i_field_dot_ok (B : Bs P ρ) (E : E_i_field_dot P ρ) {p n : Int} {g v w : By} (hp : 1 ≤ p) (hp2 : p ≤ 1000) :
    CallOK P ρ 118 [.ag [p, n] 2 g, .ag [] 8 v, .ag [] 8 w] [] (.one (.i .i64 (sm 8 (fun j => bz v j * bz w j) % p))) [] := by
  refine call_of_vc B.fn B.mo E rfl rfl ?_
  refine ⟨0, rfl, ?_⟩
  refine ⟨1, rfl, ?_⟩
  refine ⟨2, rfl, ?_⟩
  refine ⟨⟨by first | omega | (simp <;> omega), by first | omega | (simp <;> omega)⟩, ?_⟩
  refine .inl ⟨(fun a10 b0 b1 b2 i0 => St.mk [(3, .one (.pt 0 0)), (5, .one (.pt 2 0)), (7, .one (.i .i64 (sm i0 fun j => bz v j * bz w j))), (10, a10), (11, .one (.i .i64 ((i0 : Nat) : Int)))] [b0, b1, b2]) _ _ _ _ , fun i0 => True, 8, trivial, ⟨⟨rfl, rfl, rfl, rfl, rfl, trivial⟩, ⟨rfl, rfl, rfl, trivial⟩, rfl⟩, fun i0 hi0 _ => ?_⟩
  have q := mul_bd (A := 255) (B := 255) (a := bz v i0) (b := bz w i0) (by have := bz_nn v i0; omega) (bz_le _ _) (bz_nn _ _) (bz_le _ _)
  have q2 : 0 ≤ bz v i0 * bz w i0 := Int.mul_nonneg (bz_nn _ _) (bz_nn _ _)
  have q3 := sm_bd (n := i0) (x := fun j => bz v j * bz w j) (A := 65025) fun j _ => ⟨Int.mul_nonneg (bz_nn _ _) (bz_nn _ _), dotb v w j⟩
  refine ⟨fun h12 => ?_, fun h12 => ?_⟩
  · replace h12 := of_decide_eq_true h12
    refine ⟨_, rfl, by first | omega | (simp <;> omega), by first | omega | (simp <;> omega), ?_⟩
    refine ⟨i0, i0, rfl, by omega, by omega, ?_⟩
    refine ⟨⟨by first | omega | (simp <;> omega), by first | omega | (simp <;> omega)⟩, ?_⟩
    refine ⟨bz v i0 * bz w i0, ?_, ?_⟩
    · show w64 (bz (sh v 0) i0 * bz w i0) = _
      rw [sh_zero]
      exact w64_id _ (by omega) (by omega)
    refine ⟨sm (i0 + 1) (fun j => bz v j * bz w j), w64_id _ (by omega) (by omega), ?_⟩
    refine ⟨((i0 + 1 : Nat) : Int), w64_id _ (by omega) (by omega), ?_⟩
    exact ⟨by omega, trivial, ⟨rfl, rfl, rfl, rfl, rfl, trivial⟩, ⟨rfl, rfl, rfl, trivial⟩, rfl⟩
  · replace h12 := of_decide_eq_false h12
    have e0 : 8 = i0 := by omega
    subst e0
    refine ⟨by first | omega | (simp <;> omega), _, rfl, ?_⟩
    refine ⟨rfl, [], ?_, rfl, trivial, rfl, rfl⟩
    have q3 := sm_bd (n := 8) (x := fun j => bz v j * bz w j) (A := 65025) fun j _ => ⟨Int.mul_nonneg (bz_nn _ _) (bz_nn _ _), dotb v w j⟩
    exact one_i (Int.tmod_eq_emod_of_nonneg q3.1)


end Hf
namespace Hf
open Go Classical
variable {P : Program} {ρ : Nat → FuncId}
theorem vec_0 {N : Nat} {p : Int} : (fun _ => 0 : By) = vec N p (fun _ => 0) := (vec_zero fun _ _ => rfl).symm
theorem bz_vec_lt {N : Nat} {p : Int} {x : Nat → Int} {k : Nat} (hp : 1 ≤ p) (hp2 : p ≤ 256) : bz (vec N p x) k < p := by
  by_cases hk : k < N
  · rw [bz_vec hp hp2 hk]; exact Int.emod_lt_of_pos _ (by omega)
  · unfold bz; rw [vec_out (by omega)]; show (0 : Int) < p; omega
/-- one more summand -/
theorem pl_vec {N : Nat} {p : Int} {x : Nat → Int} {off : Nat} {k : Int} {w : By} (hp : 1 ≤ p) (hp2 : p ≤ 256) (h : off + 8 ≤ N) :
    plsN p (vec N p x) off k w 8 = vec N p (fun y => x y + if off ≤ y ∧ y < off + 8 then k * bz w (y - off) else 0) := by
  funext y
  simp only [plsN]
  by_cases hy : off ≤ y ∧ y < off + 8
  · rw [if_pos hy, bz_vec hp hp2 (by omega)]
    simp only [vec]
    rw [if_pos (by omega), if_pos hy]
    congr 1
    exact cg_add cg_mod rfl
  · rw [if_neg hy]
    simp only [vec]
    by_cases hN : y < N
    · rw [if_pos hN, if_pos hN, if_neg hy, Int.add_zero]
    · rw [if_neg hN, if_neg hN]
theorem pl_vec0 {p : Int} {x : Nat → Int} {k : Int} {w : By} (hp : 1 ≤ p) (hp2 : p ≤ 256) :
    plsN p (vec 8 p x) 0 k w 8 = vec 8 p (fun y => x y + k * bz w y) := by
  rw [pl_vec hp hp2 (by omega)]
  apply vec_congr
  intro y hy
  rw [if_pos (by omega), Nat.sub_zero]; rfl
theorem bz_sh (f : By) (o k : Nat) : bz (sh f o) k = bz f (o + k) := rfl
/-- a product of bytes -/
theorem bz2 (v w : By) (i j : Nat) : 0 ≤ bz v i * bz w j ∧ bz v i * bz w j ≤ 65025 := by
  refine ⟨Int.mul_nonneg (bz_nn _ _) (bz_nn _ _), ?_⟩
  have q := mul_bd (A := 255) (B := 255) (a := bz v i) (b := bz w j) (by have := bz_nn v i; omega) (bz_le _ _) (bz_nn _ _) (bz_le _ _)
  omega
/-- the product of two vectors: the table stands at o -/
def prd (n : Nat) (f : By) (o : Nat) (v w : By) (k : Nat) : Int := sm n fun i => sm n fun j => bz v i * bz w j * bz f (o + i * 64 + j * 8 + k)
/-- the coproduct of a vector -/
def cop (n : Nat) (f : By) (o : Nat) (v : By) (y : Nat) : Int := if y / 8 < n then sm n fun i => bz v i * bz f (o + i * 64 + y) else 0

end Hf
namespace Hf
open Go Classical
variable {P : Program} {ρ : Nat → FuncId}
theorem z_sta {n : Nat} : spl (fun _ => 0) 0 n (fun _ => 0) = (fun _ => 0 : By) := z_spl _ _ fun _ _ => rfl
theorem bz_vec_lt' {N : Nat} {p : Int} {x : Nat → Int} (hp : 1 ≤ p) (hp2 : p ≤ 256) : ∀ k, 0 ≤ k → k < 0 + 8 → bz (vec N p x) k < p := fun _ _ _ => bz_vec_lt hp hp2

-- left out: i_field_apply (not among the functions at hand)
theorem i_Algebra_product_ok (B : Bs P ρ) (E : E_i_Algebra_product P ρ) {n : Nat} {p : Int} {f v w : By} (hp : 1 ≤ p) (hp2 : p ≤ 256) (hn : n ≤ 8) :
    CallOK P ρ 104 [.pt 0 0, .ag [] 8 v, .ag [] 8 w] [⟨true, .by [p, (n : Int)] 522 f⟩] (.one (.ag [] 8 (vec 8 p (prd n f 10 v w)))) [⟨true, .by [p, (n : Int)] 522 f⟩] := by
  refine call_of_vc B.fn B.mo E.1 rfl rfl ?_
  refine ⟨1, rfl, ?_⟩
  refine ⟨2, rfl, ?_⟩
  refine ⟨3, rfl, ?_⟩
  refine .inl ⟨4, [0], _, _, _, _, [_, _, _, _], rfl, i_Algebra_field_ok B E.2.1 , rfl, ⟨⟨_, rfl, fun h => by first | rfl | cases h⟩, trivial⟩, rfl, rfl, ?_⟩
  refine ⟨4, rfl, ?_⟩
  refine ⟨5, rfl, ?_⟩
  refine ⟨⟨rfl, by first | omega | (simp <;> omega), by first | omega | (simp <;> omega)⟩, ?_⟩   -- sta ['.t', 8] ['.t', 13] 8
  refine .inl ⟨(fun a0 a15 b0 b1 b2 b3 b4 i0 => St.mk [(0, a0), (4, .one (.pt 1 0)), (5, .one (.pt 2 0)), (6, .one (.pt 3 0)), (7, .one (.pt 4 0)), (8, .one (.pt 5 0)), (15, a15), (16, .one (.i .i64 ((i0 : Nat) : Int)))] [b0, b1, b2, b3, b4, Blk.mk false (.by [] 8 (vec 8 p fun k => sm i0 fun i => sm n fun j => bz v i * bz w j * bz f (10 + i * 64 + j * 8 + k)))]) _ _ _ _ _ _ _ , fun i0 => True, n, trivial, ⟨⟨rfl, rfl, rfl, rfl, rfl, rfl, rfl, rfl, trivial⟩, ⟨rfl, rfl, rfl, rfl, rfl, ?_, trivial⟩, rfl⟩, fun i0 hi0 _ => ?_⟩
  · refine blk_by ?_
    rw [z_sta]
    exact vec_0.symm
  refine ⟨fun h17 => ?_, fun h17 => ?_⟩
  · replace h17 := of_decide_eq_true h17
    refine ⟨i0, i0, rfl, by omega, by omega, ?_⟩
    refine ⟨⟨by first | omega | (simp <;> omega), by first | omega | (simp <;> omega)⟩, ?_⟩
    refine ⟨fun h22 => ?_, fun h22 => ?_⟩
    · replace h22 := eq_of_beq h22
      have z0 : bz v i0 = 0 := by have := u_eq0.1 h22; simpa [bz] using this
      refine ⟨((i0 + 1 : Nat) : Int), w64_id _ (by omega) (by omega), ?_⟩
      refine ⟨by omega, trivial, ⟨rfl, rfl, rfl, rfl, rfl, rfl, rfl, rfl, trivial⟩, ⟨rfl, rfl, rfl, rfl, rfl, ?_, trivial⟩, rfl⟩
      refine blk_by (vec_congr fun y _ => cg_of_eq ?_)
      show sm i0 _ + sm n _ = sm i0 _
      rw [sm_zero (n := n) fun j _ => by rw [z0, Int.zero_mul, Int.zero_mul], Int.add_zero]
    · replace h22 := ne_of_beq_false h22
      refine .inl ⟨(fun a0 a9 a15 a16 a24 b0 b1 b2 b3 b4 i1 => St.mk [(0, a0), (4, .one (.pt 1 0)), (5, .one (.pt 2 0)), (6, .one (.pt 3 0)), (7, .one (.pt 4 0)), (8, .one (.pt 5 0)), (9, a9), (15, a15), (16, a16), (24, a24), (25, .one (.i .i64 ((i1 : Nat) : Int)))] [b0, b1, b2, b3, b4, Blk.mk false (.by [] 8 (vec 8 p fun k => sm i0 (fun i => sm n fun j => bz v i * bz w j * bz f (10 + i * 64 + j * 8 + k)) + sm i1 fun j => bz v i0 * bz w j * bz f (10 + i0 * 64 + j * 8 + k)))]) _ _ _ _ _ _ _ _ _ _ , fun i1 => True, n, trivial, ⟨⟨rfl, rfl, rfl, rfl, rfl, rfl, rfl, rfl, rfl, rfl, rfl, trivial⟩, ⟨rfl, rfl, rfl, rfl, rfl, ?_, trivial⟩, rfl⟩, fun i1 hi1 _ => ?_⟩
      · refine blk_by (vec_congr fun y _ => cg_of_eq ?_)
        simp only [sm, Int.add_zero]
      refine ⟨fun h26 => ?_, fun h26 => ?_⟩
      · replace h26 := of_decide_eq_true h26
        refine ⟨i0, i0, rfl, by omega, by omega, ?_⟩
        refine ⟨⟨by first | omega | (simp <;> omega), by first | omega | (simp <;> omega)⟩, ?_⟩
        refine ⟨i1, i1, rfl, by omega, by omega, ?_⟩
        refine ⟨⟨by first | omega | (simp <;> omega), by first | omega | (simp <;> omega)⟩, ?_⟩
        have q2 := bz2 v w i0 i1
        refine ⟨bz v i0 * bz w i1, w64_id (bz v i0 * bz w i1) (by omega) (by omega), ?_⟩
        refine ⟨i0, 10 + i0 * 64, rfl, by omega, by omega, ?_⟩
        refine ⟨i1, 10 + i0 * 64 + i1 * 8, rfl, by omega, by omega, ?_⟩
        refine ⟨⟨by first | omega | (simp <;> omega), by first | omega | (simp <;> omega)⟩, ?_⟩
        refine .inl ⟨6, [5], _, _, _, _, [_, _, _, _, _, _], rfl, i_field_plus_ok B E.2.2 hp (by omega) (by simp) (by omega) (by omega) (by omega) (bz_vec_lt' hp hp2), rfl, ⟨⟨_, rfl, fun h => by first | rfl | cases h⟩, trivial⟩, rfl, rfl, ?_⟩
        refine ⟨((i1 + 1 : Nat) : Int), w64_id _ (by omega) (by omega), ?_⟩
        refine ⟨by omega, trivial, ⟨rfl, rfl, rfl, rfl, rfl, rfl, rfl, rfl, rfl, rfl, rfl, trivial⟩, ⟨rfl, rfl, rfl, rfl, rfl, ?_, trivial⟩, rfl⟩
        refine blk_by ?_
        rw [pl_vec0 hp hp2]
        refine vec_congr fun y _ => cg_of_eq ?_
        simp only [sm, bz_sh, Int.add_assoc]
      · replace h26 := of_decide_eq_false h26
        have e1 : n = i1 := by omega
        subst e1
        refine ⟨((i0 + 1 : Nat) : Int), w64_id _ (by omega) (by omega), ?_⟩
        refine ⟨by omega, trivial, ⟨rfl, rfl, rfl, rfl, rfl, rfl, rfl, rfl, trivial⟩, ⟨rfl, rfl, rfl, rfl, rfl, ?_, trivial⟩, rfl⟩
        exact blk_by (vec_congr fun y _ => cg_of_eq rfl)
  · replace h17 := of_decide_eq_false h17
    have e0 : n = i0 := by omega
    subst e0
    refine ⟨⟨by first | omega | (simp <;> omega), by first | omega | (simp <;> omega)⟩, ?_⟩
    refine ⟨⟨rfl, by first | omega | (simp <;> omega), by first | omega | (simp <;> omega)⟩, ?_⟩   -- sta ['.t', 6] ['.t', 49] 8
    refine ⟨rfl, ⟨by first | omega | (simp <;> omega), by first | omega | (simp <;> omega)⟩, [], ?_, rfl, ⟨rfl, trivial⟩, rfl, rfl⟩
    exact one_ag out_vec


end Hf
namespace Hf
open Go
def eqA : At → At → Prop
  | .ag hd n f, b => ∃ g, b = .ag hd n g ∧ ∀ x, hd.length ≤ x → x < n → f x = g x
  | a, b => a = b
def eqL : List At → List At → Prop
  | [], [] => True
  | a :: l, b :: m => eqA a b ∧ eqL l m
  | _, _ => False
def eqS : Sv → Sv → Prop
  | .one a, .one b => eqA a b
  | .tup l, .tup m => eqL l m
  | .rc l, .rc m => eqL l m
  | _, _ => False
def eqK : Bk → Bk → Prop
  | .by hd n f, b => ∃ g, b = .by hd n g ∧ ∀ x, hd.length ≤ x → x < n → f x = g x
  | a, b => a = b
def eqH : List Blk → List Blk → Prop
  | [], [] => True
  | a :: l, b :: m => (a.ro = b.ro ∧ eqK a.c b.c) ∧ eqH l m
  | _, _ => False
section
variable {P : Program} {ρ : Nat → FuncId} {σ : Nat → Nat}
theorem cells_eq {hd : List Int} {n : Nat} {f g : By} (h : ∀ x, hd.length ≤ x → x < n → f x = g x) : cellsOf hd n f = cellsOf hd n g := by
  unfold cellsOf
  congr 1
  apply List.map_congr_left
  intro x hx
  rw [List.mem_range] at hx
  by_cases hl : hd.length ≤ x
  · rw [cel_by hl, cel_by hl, h x hl hx]
  · have e : hd[x]? = some (hd[x]'(by omega)) := by simp [show x < hd.length by omega]
    rw [cel_hd e, cel_hd e]
theorem ren_eq : ∀ {a b : At}, eqA a b → ren ρ σ a = ren ρ σ b
  | .ag hd n f, b, ⟨g, e, h⟩ => by subst e; simp only [ren]; rw [cells_eq h]
  | .i _ _, _, h | .u _, _, h | .b _, _, h | .pt _ _, _, h | .np, _, h | .sl _ _ _ _, _, h | .sn, _, h | .fn _ _ _, _, h | .ac _, _, h => by cases h; rfl
theorem lt_eq {m : Nat} : ∀ {a b : At}, eqA a b → a.lt m = b.lt m
  | .ag hd n f, b, ⟨g, e, h⟩ => by subst e; rfl
  | .i _ _, _, h | .u _, _, h | .b _, _, h | .pt _ _, _, h | .np, _, h | .sl _ _ _ _, _, h | .sn, _, h | .fn _ _ _, _, h | .ac _, _, h => by cases h; rfl
theorem renL_eq : ∀ {l m : List At}, eqL l m → l.map (ren ρ σ) = m.map (ren ρ σ)
  | [], [], _ => rfl
  | a :: l, b :: m, h => by simp only [List.map_cons]; rw [ren_eq h.1, renL_eq h.2]
theorem ltL_eq {k : Nat} : ∀ {l m : List At}, eqL l m → l.all (·.lt k) = m.all (·.lt k)
  | [], [], _ => rfl
  | a :: l, b :: m, h => by simp only [List.all_cons]; rw [lt_eq h.1, ltL_eq h.2]
theorem renS_eq : ∀ {a b : Sv}, eqS a b → renS ρ σ a = renS ρ σ b
  | .one a, .one b, h => ren_eq h
  | .tup l, .tup m, h => by simp only [renS]; rw [renL_eq h]
  | .rc l, .rc m, h => by simp only [renS]; rw [renL_eq h]
theorem ltS_eq {k : Nat} : ∀ {a b : Sv}, eqS a b → a.lt k = b.lt k
  | .one a, .one b, h => lt_eq h
  | .tup l, .tup m, h => ltL_eq h
  | .rc l, .rc m, h => ltL_eq h
theorem cellsB_eq : ∀ {a b : Bk}, eqK a b → cellsB ρ σ a = cellsB ρ σ b
  | .by hd n f, b, ⟨g, e, h⟩ => by subst e; exact cells_eq h
  | .vr _, _, h | .rw _, _, h | .gs _ _, _, h | .fo _ _, _, h => by cases h; rfl
theorem frz_eq : ∀ {a b : Bk}, eqK a b → frz a = frz b
  | .by hd n f, b, ⟨g, e, h⟩ => by subst e; rfl
  | .vr _, _, h | .rw _, _, h | .gs _ _, _, h | .fo _ _, _, h => by cases h; rfl
theorem ltK_eq {m : Nat} : ∀ {a b : Bk}, eqK a b → a.lt m = b.lt m
  | .by hd n f, b, ⟨g, e, h⟩ => by subst e; rfl
  | .vr _, _, h | .rw _, _, h | .gs _ _, _, h | .fo _ _, _, h => by cases h; rfl
theorem eqH_len : ∀ {H G : List Blk}, eqH H G → H.length = G.length
  | [], [], _ => rfl
  | _ :: _, _ :: _, h => by simp [eqH_len h.2]
theorem eqH_get : ∀ {H G : List Blk} {k : Nat} {B : Blk}, eqH H G → G[k]? = some B → ∃ A, H[k]? = some A ∧ A.ro = B.ro ∧ eqK A.c B.c
  | a :: l, b :: m, 0, B, h, e => by
    simp at e; subst e
    exact ⟨a, rfl, h.1⟩
  | a :: l, b :: m, k + 1, B, h, e => by
    rw [List.getElem?_cons_succ] at e ⊢
    exact eqH_get h.2 e
  | [], [], _, _, _, e => by simp at e
theorem CallOK.conv {f : Nat} {as as2 : List At} {H H' H2 : List Blk} {v v2 : Sv} (h : CallOK P ρ f as H v H') (ha : eqL as as2) (hv : eqS v v2) (hH : eqH H' H2) : CallOK P ρ f as2 H v2 H2 := by
  intro σ w hh
  have := h σ w hh
  rw [renL_eq ha] at this
  refine this.mono ?_
  rintro e w' ⟨σ', rfl, hs, hl⟩
  refine ⟨σ', by rw [renS_eq hv], ⟨⟨?_, ?_, ?_⟩, hs.k, by rw [← eqH_len hH]; exact hs.len, hs.same, ?_, ?_⟩, by rw [← eqH_len hH, ← ltS_eq hv]; exact hl⟩
  · intro k B hB
    obtain ⟨A, h1, h2, h3⟩ := eqH_get hH hB
    obtain ⟨T, e⟩ := hs.h.at_ k A h1
    exact ⟨T, by rw [e, cellsB_eq h3, frz_eq h3]⟩
  · intro j k B hjk hk hB hro
    obtain ⟨A, h1, h2, h3⟩ := eqH_get hH hB
    exact hs.h.sep j k A hjk (by rw [eqH_len hH]; exact hk) h1 (by rw [h2]; exact hro)
  · intro k B hB
    obtain ⟨A, h1, h2, h3⟩ := eqH_get hH hB
    rw [← ltK_eq h3, ← eqH_len hH]
    exact hs.h.clo k A h1
  · intro k B B' e e'
    obtain ⟨A, h1, h2, h3⟩ := eqH_get hH e'
    rw [← h2]; exact hs.rof k B A e h1
  · intro k h1 h2
    exact hs.fresh k h1 (by rw [eqH_len hH]; exact h2)
end
end Hf
namespace Hf
open Go Classical
variable {P : Program} {ρ : Nat → FuncId}
/-- a prime up to 31 -/
def Pr (p : Int) : Prop := 2 ≤ p ∧ p ≤ 31 ∧ ∀ k : Int, 2 ≤ k → k < p → p % k ≠ 0
def Shp (p n : Int) : Prop := Pr p ∧ 1 ≤ n ∧ n ≤ 8
/-- a vector of n numbers below p, at o -/
def Vec (p n : Int) (f : By) (o : Nat) : Prop := ∀ k : Nat, k < 8 → bz f (o + k) < p ∧ (n ≤ k → bz f (o + k) = 0)
def Lin (p n size : Int) (f : By) (o : Nat) : Prop := ∀ i : Nat, i < 8 → Vec p size f (o + i * 8) ∧ (n ≤ i → ∀ k : Nat, k < 8 → bz f (o + i * 8 + k) = 0)
def Tab (p n : Int) (f : By) (o : Nat) : Prop := ∀ i : Nat, i < 8 → Lin p n n f (o + i * 64) ∧ (n ≤ i → ∀ k : Nat, k < 64 → bz f (o + i * 64 + k) = 0)
theorem dec_f {q : Prop} [Decidable q] (h : ¬ q) : false = decide q := (decide_eq_false h).symm
theorem dec_t {q : Prop} [Decidable q] (h : q) : true = decide q := (decide_eq_true h).symm
theorem bz_eq0 {f : By} {k : Nat} : bz f k = 0 ↔ f k = 0 := u_eq0.symm
theorem small_pr {p i : Int} (h1 : 2 ≤ p) (h2 : p ≤ 31) (hi : 2 ≤ i) (hi2 : i ≤ 7) (hsq : p < i * i) (h : ∀ k : Int, 2 ≤ k → k < i → p % k ≠ 0) : ∀ k : Int, 2 ≤ k → k < p → p % k ≠ 0 := by
  intro k hk hkp e
  -- p = k * q
  obtain ⟨q, hq⟩ := Int.dvd_of_emod_eq_zero e
  by_cases hki : k < i
  · exact h k hk hki e
  · have hq1 : 2 ≤ q := by
      rcases Int.lt_or_le q 2 with hq2 | hq2
      · have : q ≤ 1 := by omega
        have h3 : k * q ≤ k * 1 := Int.mul_le_mul_of_nonneg_left this (by omega)
        omega
      · exact hq2
    have hqi : q < i := by
      rcases Int.lt_or_le q i with h3 | h3
      · exact h3
      · have h4 : i * i ≤ k * q := Int.mul_le_mul (by omega) h3 (by omega) (by omega)
        omega
    have : p % q = 0 := by rw [hq]; exact Int.mul_emod_left _ _
    exact h q hq1 hqi this

theorem i_IsPrime_ok (B : Bs P ρ) (E : E_i_IsPrime P ρ) {p : Int} :
    CallOK P ρ 93 [.i .i64 p] [] (.one (.b (decide (Pr p)))) [] := by
  refine call_of_vc B.fn B.mo E rfl rfl ?_
  refine ⟨fun h6 => ?_, fun h6 => ?_⟩
  · replace h6 := of_decide_eq_true h6
    refine brB_t ?_
    refine brB_t ?_
    refine brB_t ?_
    refine ⟨rfl, [], ?_, rfl, trivial, rfl, rfl⟩
    exact one_b (dec_f fun h => by have := h.1; omega)
  · replace h6 := of_decide_eq_false h6
    refine brB_f ?_
    refine brB_f ?_
    refine ⟨fun h9 => ?_, fun h9 => ?_⟩
    · replace h9 := of_decide_eq_true h9
      refine ⟨rfl, [], ?_, rfl, trivial, rfl, rfl⟩
      exact one_b (dec_f fun h => by have := h.2.1; omega)
    · replace h9 := of_decide_eq_false h9
      refine .inl ⟨(fun a0 i0 => St.mk [(0, a0), (3, .one (.i .i64 ((2 + i0 : Nat) : Int)))] []) _ , fun i0 => ∀ k : Int, 2 ≤ k → k < ((2 + i0 : Nat) : Int) → p % k ≠ 0, 5, fun _ _ => by omega, ⟨⟨rfl, rfl, trivial⟩, trivial, rfl⟩, fun i0 hi0 hF0 => ?_⟩
      have hsq : (((2 + i0 : Nat) : Int)) * ((2 + i0 : Nat) : Int) = 4 + 4 * i0 + i0 * i0 := by
        have : ((2 + i0 : Nat) : Int) = 2 + i0 := by omega
        rw [this, Int.add_mul, Int.mul_add, Int.mul_add]; omega
      have hi5 : i0 = 0 ∨ i0 = 1 ∨ i0 = 2 ∨ i0 = 3 ∨ i0 = 4 ∨ i0 = 5 := by omega
      refine ⟨_, w64_id _ ?_ ?_, ?_⟩
      · rcases hi5 with rfl | rfl | rfl | rfl | rfl | rfl <;> decide
      · rcases hi5 with rfl | rfl | rfl | rfl | rfl | rfl <;> decide
      refine ⟨fun h14 => ?_, fun h14 => ?_⟩
      · replace h14 := of_decide_eq_true h14
        refine ⟨by omega, _, rfl, ?_⟩
        refine ⟨fun h20 => ?_, fun h20 => ?_⟩
        · replace h20 := eq_of_beq h20
          rw [Int.tmod_eq_emod_of_nonneg (by omega)] at h20
          refine ⟨rfl, [], ?_, rfl, trivial, rfl, rfl⟩
          refine one_b (dec_f fun h => h.2.2 _ (by omega) ?_ h20)
          rcases hi5 with rfl | rfl | rfl | rfl | rfl | rfl <;> simp at h14 ⊢ <;> omega
        · replace h20 := ne_of_beq_false h20
          rw [Int.tmod_eq_emod_of_nonneg (by omega)] at h20
          refine ⟨((2 + i0 + 1 : Nat) : Int), w64_id _ (by omega) (by omega), ?_⟩
          refine ⟨by rcases hi5 with rfl | rfl | rfl | rfl | rfl | rfl <;> simp at h14 ⊢ <;> omega, ?_, ⟨rfl, rfl, trivial⟩, trivial, rfl⟩
          intro k hk hk2
          by_cases e : k = ((2 + i0 : Nat) : Int)
          · rw [e]; exact h20
          · exact hF0 k hk (by omega)
      · replace h14 := of_decide_eq_false h14
        refine ⟨rfl, [], ?_, rfl, trivial, rfl, rfl⟩
        exact one_b (dec_t ⟨by omega, by omega, small_pr (i := ((2 + i0 : Nat) : Int)) (by omega) (by omega) (by omega) (by omega) (by omega) hF0⟩)

theorem i_in_ok (B : Bs P ρ) (E : E_i_in P ρ) {x a b : Int} :
    CallOK P ρ 94 [.i .i64 x, .i .i64 a, .i .i64 b] [] (.one (.b (decide (a ≤ x ∧ x ≤ b)))) [] := by
  refine call_of_vc B.fn B.mo E rfl rfl ?_
  refine ⟨fun h10 => ?_, fun h10 => ?_⟩
  · replace h10 := of_decide_eq_true h10
    refine brB_t ?_
    refine brB_t ?_
    refine brB_t ?_
    refine ⟨rfl, [], ?_, rfl, trivial, rfl, rfl⟩
    refine one_b ?_
    by_cases h : x ≤ b
    · rw [decide_eq_true h, decide_eq_true (⟨h10, h⟩ : a ≤ x ∧ x ≤ b)]
    · rw [decide_eq_false h, decide_eq_false (fun q : a ≤ x ∧ x ≤ b => h q.2)]
  · replace h10 := of_decide_eq_false h10
    refine brB_f ?_
    refine brB_f ?_
    refine brB_f ?_
    refine ⟨rfl, [], ?_, rfl, trivial, rfl, rfl⟩
    exact one_b (dec_f fun q => h10 q.1)

theorem i_IsVector_ok (B : Bs P ρ) (E : E_i_IsVector P ρ) {p n : Int} {v : By} :
    CallOK P ρ 92 [.i .i64 p, .i .i64 n, .ag [] 8 v] [] (.one (.b (decide (Shp p n ∧ Vec p n v 0)))) [] := by
  refine call_of_vc B.fn B.mo E.1 rfl rfl ?_
  refine ⟨0, rfl, ?_⟩
  refine .inl ⟨1, [], _, _, _, _, [_], rfl, i_IsPrime_ok B E.2.1 , rfl, trivial, rfl, rfl, ?_⟩
  refine ⟨fun h12 => ?_, fun h12 => ?_⟩
  · skip
    refine brB_t ?_
    refine brB_t ?_
    refine brB_t ?_
    refine brB_t ?_
    refine ⟨rfl, [], ?_, rfl, trivial, rfl, rfl⟩
    refine one_b (dec_f fun q => ?_)
    rw [decide_eq_true q.1.1] at h12; cases h12
  · skip
    have hpr : Pr p := by
      by_cases q : Pr p
      · exact q
      · rw [decide_eq_false q] at h12; cases h12
    refine brB_f ?_
    refine .inl ⟨1, [], _, _, _, _, [_], rfl, i_in_ok B E.2.2 , rfl, trivial, rfl, rfl, ?_⟩
    refine brB_f ?_
    refine brB_f ?_
    refine ⟨fun h16 => ?_, fun h16 => ?_⟩
    · skip
      refine ⟨rfl, [], ?_, rfl, trivial, rfl, rfl⟩
      refine one_b (dec_f fun q => ?_)
      rw [decide_eq_true ⟨q.1.2.1, q.1.2.2⟩] at h16; cases h16
    · skip
      have hn : 1 ≤ n ∧ n ≤ 8 := by
        by_cases q : 1 ≤ n ∧ n ≤ 8
        · exact q
        · rw [decide_eq_false q] at h16; cases h16
      refine ⟨⟨by first | omega | (simp <;> omega), by first | omega | (simp <;> omega)⟩, ?_⟩
      refine .inl ⟨(fun a0 a1 a17 b0 i0 => St.mk [(0, a0), (1, a1), (17, a17), (18, .one (.i .i64 ((i0 : Nat) : Int)))] [b0]) _ _ _ _ , fun i0 => ∀ k : Nat, k < i0 → bz v k < p ∧ (n ≤ k → bz v k = 0), 8, fun _ _ => by omega, ⟨⟨rfl, rfl, rfl, rfl, trivial⟩, ⟨rfl, trivial⟩, rfl⟩, fun i0 hi0 hF0 => ?_⟩
      refine ⟨fun h19 => ?_, fun h19 => ?_⟩
      · replace h19 := of_decide_eq_true h19
        refine ⟨_, rfl, by first | omega | (simp <;> omega), by first | omega | (simp <;> omega), ?_⟩
        refine ⟨fun h26 => ?_, fun h26 => ?_⟩
        · replace h26 := of_decide_eq_true h26
          refine brB_t ?_
          refine brB_t ?_
          refine brB_t ?_
          refine brB_t ?_
          refine brB_t ?_
          refine brB_t ?_
          refine ⟨rfl, [], ?_, rfl, trivial, rfl, rfl⟩
          exact one_b (dec_f fun q => by have := (q.2 i0 (by omega)).1; rw [Nat.zero_add] at this; simp [bz, sh] at this h26; omega)
        · replace h26 := of_decide_eq_false h26
          refine brB_f ?_
          refine brB_f ?_
          refine brB_f ?_
          refine ⟨fun h30 => ?_, fun h30 => ?_⟩
          · replace h30 := of_decide_eq_true h30
            refine brB_t ?_
            refine brB_f ?_
            refine brB_t ?_
            refine brB_f ?_
            refine ⟨fun h34 => ?_, fun h34 => ?_⟩
            · replace h34 := bne_t h34
              refine ⟨rfl, [], ?_, rfl, trivial, rfl, rfl⟩
              exact one_b (dec_f fun q => by have := (q.2 i0 (by omega)).2 (by omega); rw [Nat.zero_add, bz_eq0] at this; simp [sh] at h34; exact h34 this)
            · replace h34 := bne_f h34
              refine ⟨((i0 + 1 : Nat) : Int), w64_id _ (by omega) (by omega), ?_⟩
              refine ⟨by omega, ?_, ⟨rfl, rfl, rfl, rfl, trivial⟩, ⟨rfl, trivial⟩, rfl⟩
              intro k hk
              by_cases e : k = i0
              · subst e
                simp [bz, sh] at h26 h34 ⊢
                exact ⟨h26, fun _ => by rw [h34]; rfl⟩
              · exact hF0 k (by omega)
          · replace h30 := of_decide_eq_false h30
            refine brB_f ?_
            refine brB_f ?_
            refine brB_f ?_
            refine brB_f ?_
            refine brB_f ?_
            refine ⟨((i0 + 1 : Nat) : Int), w64_id _ (by omega) (by omega), ?_⟩
            refine ⟨by omega, ?_, ⟨rfl, rfl, rfl, rfl, trivial⟩, ⟨rfl, trivial⟩, rfl⟩
            intro k hk
            by_cases e : k = i0
            · subst e
              simp [bz, sh] at h26 ⊢
              exact ⟨h26, fun q => by omega⟩
            · exact hF0 k (by omega)
      · replace h19 := of_decide_eq_false h19
        have e0 : 8 = i0 := by omega
        subst e0
        refine ⟨rfl, [], ?_, rfl, trivial, rfl, rfl⟩
        exact one_b (dec_t ⟨⟨hpr, hn⟩, fun k hk => by rw [Nat.zero_add]; exact hF0 k hk⟩)


end Hf
namespace Hf
open Go Classical
variable {P : Program} {ρ : Nat → FuncId}
theorem dec_elim_t {q : Prop} [Decidable q] (h : decide q = true) : q := of_decide_eq_true h
theorem dec_elim_t' {q : Prop} [Decidable q] (h : decide q = false) : ¬ q := of_decide_eq_false h
theorem not_t {b : Bool} (h : (!b) = true) : b = false := by simpa using h
theorem not_f {b : Bool} (h : (!b) = false) : b = true := by simpa using h
theorem eqB_z {n o : Nat} {f : By} : eqB n (sh f o) (fun _ => 0) = true ↔ ∀ k : Nat, k < n → bz f (o + k) = 0 := by
  rw [eqB_iff]
  exact ⟨fun h k hk => bz_eq0.2 (h k hk), fun h k hk => bz_eq0.1 (h k hk)⟩
theorem Vec_sh {p n : Int} {f : By} {a o : Nat} : Vec p n (sh f a) o ↔ Vec p n f (a + o) := by
  unfold Vec
  simp only [bz_sh, Nat.add_assoc]
theorem spl_sh {f g : By} {n a : Nat} : eqB n (sh (spl g 0 n (sh f a)) 0) (fun _ => 0) = eqB n (sh f a) (fun _ => 0) := by
  rw [Bool.eq_iff_iff, eqB_iff, eqB_iff]
  refine ⟨fun h k hk => ?_, fun h k hk => ?_⟩
  · have := h k hk
    rw [sh_zero] at this
    simp only [spl] at this
    rw [if_pos (by omega)] at this
    exact this
  · rw [sh_zero]
    simp only [spl]
    rw [if_pos (by omega)]
    exact h k hk
theorem Vec_spl {p n : Int} {f g : By} {a : Nat} : Vec p n (sh (spl g 0 8 (sh f a)) 0) 0 ↔ Vec p n f a := by
  unfold Vec
  simp only [sh_zero]
  have e : ∀ k, k < 8 → bz (spl g 0 8 (sh f a)) (0 + k) = bz f (a + k) := by
    intro k hk
    simp only [bz, spl]
    rw [if_pos (by omega)]
    simp [sh]
  exact ⟨fun h k hk => by rw [← e k hk]; exact h k hk, fun h k hk => by rw [e k hk]; exact h k hk⟩

theorem i_isLinear_ok (B : Bs P ρ) (E : E_i_isLinear P ρ) {p n size : Int} {hd : List Int} {N off : Nat} {f : By} (ho : hd.length ≤ off) (hN : off + 64 ≤ N) :
    CallOK P ρ 83 [.i .i64 p, .i .i64 n, .i .i64 size, .pt 0 off] [⟨true, .by hd N f⟩] (.one (.b (decide (Shp p size ∧ Lin p n size f off)))) [⟨true, .by hd N f⟩] := by
  refine call_of_vc B.fn B.mo E.1 rfl rfl ?_
  refine .inl ⟨(fun a0 a1 a2 a11 b0 i0 => St.mk [(0, a0), (1, a1), (2, a2), (11, a11), (12, .one (.i .i64 ((i0 : Nat) : Int)))] [b0]) _ _ _ _ _ , fun i0 => ∀ i : Nat, i < i0 → (Shp p size ∧ Vec p size f (off + i * 8)) ∧ (n ≤ i → ∀ k : Nat, k < 8 → bz f (off + i * 8 + k) = 0), 8, fun _ _ => by omega, ⟨⟨rfl, rfl, rfl, rfl, rfl, trivial⟩, ⟨rfl, trivial⟩, rfl⟩, fun i0 hi0 hF0 => ?_⟩
  refine ⟨fun h13 => ?_, fun h13 => ?_⟩
  · replace h13 := of_decide_eq_true h13
    have hV : ∀ g : By, Vec p size (sh (spl g 0 8 (sh f (off + i0 * 8))) 0) 0 ↔ Vec p size f (off + i0 * 8) := fun g => Vec_spl
    refine ⟨_, off + i0 * 8, rfl, by omega, by omega, ?_⟩
    refine ⟨⟨by first | omega | (simp <;> omega), by first | omega | (simp <;> omega)⟩, ?_⟩
    refine ⟨1, rfl, ?_⟩
    refine ⟨⟨rfl, by first | omega | (simp <;> omega), by first | omega | (simp <;> omega)⟩, ?_⟩   -- sta ['.t', 10] ['.t', 17] 8
    refine ⟨⟨by first | omega | (simp <;> omega), by first | omega | (simp <;> omega)⟩, ?_⟩
    refine .inl ⟨2, [], _, _, _, _, [_, _], rfl, i_IsVector_ok B E.2 , rfl, trivial, rfl, rfl, ?_⟩
    refine ⟨fun h23 => ?_, fun h23 => ?_⟩
    · skip
      have h23' := dec_elim_t' (not_t h23)
      refine brB_t ?_
      refine brB_t ?_
      refine brB_t ?_
      refine brB_t ?_
      refine brB_t ?_
      refine brB_t ?_
      refine ⟨rfl, [], ?_, rfl, ⟨rfl, trivial⟩, rfl, rfl⟩
      exact one_b (dec_f fun q => h23' ⟨q.1, (hV _).2 (q.2 i0 (by omega)).1⟩)
    · skip
      have h23' := dec_elim_t (not_f h23)
      rw [hV] at h23'
      refine brB_f ?_
      refine brB_f ?_
      refine brB_f ?_
      refine ⟨fun h27 => ?_, fun h27 => ?_⟩
      · replace h27 := of_decide_eq_true h27
        refine ⟨⟨by first | omega | (simp <;> omega), by first | omega | (simp <;> omega)⟩, ?_⟩
        refine brB_t ?_
        refine brB_t ?_
        refine brB_f ?_
        refine brB_t ?_
        refine brB_f ?_
        refine ⟨fun h32 => ?_, fun h32 => ?_⟩
        · skip
          have h32' := not_t h32
          refine ⟨rfl, [], ?_, rfl, ⟨rfl, trivial⟩, rfl, rfl⟩
          refine one_b (dec_f fun q => ?_)
          have := eqB_z.2 ((q.2 i0 (by omega)).2 (by omega))
          erw [spl_sh] at h32
          rw [this] at h32; cases h32
        · skip
          have h32' := not_f h32
          refine ⟨((i0 + 1 : Nat) : Int), w64_id _ (by omega) (by omega), ?_⟩
          refine ⟨by omega, ?_, ⟨rfl, rfl, rfl, rfl, rfl, trivial⟩, ⟨rfl, trivial⟩, rfl⟩
          intro i hi
          by_cases e : i = i0
          · subst e
            refine ⟨h23', fun _ => ?_⟩
            erw [spl_sh] at h32
            exact eqB_z.1 (by simpa using h32)
          · exact hF0 i (by omega)
      · replace h27 := of_decide_eq_false h27
        refine brB_f ?_
        refine brB_f ?_
        refine brB_f ?_
        refine brB_f ?_
        refine brB_f ?_
        refine brB_f ?_
        refine ⟨((i0 + 1 : Nat) : Int), w64_id _ (by omega) (by omega), ?_⟩
        refine ⟨by omega, ?_, ⟨rfl, rfl, rfl, rfl, rfl, trivial⟩, ⟨rfl, trivial⟩, rfl⟩
        intro i hi
        by_cases e : i = i0
        · subst e
          exact ⟨h23', fun q => by omega⟩
        · exact hF0 i (by omega)
  · replace h13 := of_decide_eq_false h13
    have e0 : 8 = i0 := by omega
    subst e0
    refine ⟨rfl, [], ?_, rfl, ⟨rfl, trivial⟩, rfl, rfl⟩
    exact one_b (dec_t ⟨(hF0 0 (by omega)).1.1, fun i hi => ⟨(hF0 i hi).1.2, (hF0 i hi).2⟩⟩)

theorem i_isTable_ok (B : Bs P ρ) (E : E_i_isTable P ρ) {p n : Int} {hd : List Int} {N off : Nat} {f : By} (ho : hd.length ≤ off) (hN : off + 512 ≤ N) :
    CallOK P ρ 102 [.i .i64 p, .i .i64 n, .pt 0 off] [⟨true, .by hd N f⟩] (.one (.b (decide (Shp p n ∧ Tab p n f off)))) [⟨true, .by hd N f⟩] := by
  refine call_of_vc B.fn B.mo E.1 rfl rfl ?_
  refine .inl ⟨(fun a0 a1 a2 b0 i0 => St.mk [(0, a0), (1, a1), (2, a2), (8, .one (.i .i64 ((i0 : Nat) : Int)))] [b0]) _ _ _ _ , fun i0 => ∀ i : Nat, i < i0 → (Shp p n ∧ Lin p n n f (off + i * 64)) ∧ (n ≤ i → ∀ k : Nat, k < 64 → bz f (off + i * 64 + k) = 0), 8, fun _ _ => by omega, ⟨⟨rfl, rfl, rfl, rfl, trivial⟩, ⟨rfl, trivial⟩, rfl⟩, fun i0 hi0 hF0 => ?_⟩
  refine ⟨fun h9 => ?_, fun h9 => ?_⟩
  · replace h9 := of_decide_eq_true h9
    have ho' : hd.length ≤ off + i0 * 64 := by omega
    have hN' : off + i0 * 64 + 64 ≤ N := by omega
    refine ⟨_, off + i0 * 64, rfl, by omega, by omega, ?_⟩
    refine .inl ⟨1, [0], _, _, _, _, [_], rfl, i_isLinear_ok B E.2 ho' hN', rfl, ⟨⟨_, rfl, fun h => by first | rfl | cases h⟩, trivial⟩, rfl, rfl, ?_⟩
    refine ⟨fun h20 => ?_, fun h20 => ?_⟩
    · skip
      have h20' := dec_elim_t' (not_t h20)
      refine brB_t ?_
      refine brB_t ?_
      refine brB_t ?_
      refine brB_t ?_
      refine brB_t ?_
      refine brB_t ?_
      refine ⟨rfl, [], ?_, rfl, ⟨rfl, trivial⟩, rfl, rfl⟩
      exact one_b (dec_f fun q => h20' ⟨q.1, (q.2 i0 (by omega)).1⟩)
    · skip
      have h20' := dec_elim_t (not_f h20)
      refine brB_f ?_
      refine brB_f ?_
      refine brB_f ?_
      refine ⟨fun h24 => ?_, fun h24 => ?_⟩
      · replace h24 := of_decide_eq_true h24
        refine brB_t ?_
        refine brB_t ?_
        refine brB_t ?_
        refine ⟨_, off + i0 * 64, rfl, by omega, by omega, ?_⟩
        refine brB_t ?_
        refine ⟨⟨by first | omega | (simp <;> omega), by first | omega | (simp <;> omega)⟩, ?_⟩
        refine brB_t ?_
        refine brB_t ?_
        refine brB_f ?_
        refine brB_t ?_
        refine brB_f ?_
        refine ⟨fun h33 => ?_, fun h33 => ?_⟩
        · skip
          have h33' := not_t h33
          refine ⟨rfl, [], ?_, rfl, ⟨rfl, trivial⟩, rfl, rfl⟩
          refine one_b (dec_f fun q => ?_)
          have := eqB_z.2 ((q.2 i0 (by omega)).2 (by omega))
          erw [this] at h33; cases h33
        · skip
          have h33' := not_f h33
          refine ⟨((i0 + 1 : Nat) : Int), w64_id _ (by omega) (by omega), ?_⟩
          refine ⟨by omega, ?_, ⟨rfl, rfl, rfl, rfl, trivial⟩, ⟨rfl, trivial⟩, rfl⟩
          intro i hi
          by_cases e : i = i0
          · subst e
            refine ⟨h20', fun _ => ?_⟩
            exact eqB_z.1 (by simpa using h33)
          · exact hF0 i (by omega)
      · replace h24 := of_decide_eq_false h24
        refine brB_f ?_
        refine brB_f ?_
        refine brB_f ?_
        refine brB_f ?_
        refine brB_f ?_
        refine brB_f ?_
        refine brB_f ?_
        refine brB_f ?_
        refine brB_f ?_
        refine brB_f ?_
        refine ⟨((i0 + 1 : Nat) : Int), w64_id _ (by omega) (by omega), ?_⟩
        refine ⟨by omega, ?_, ⟨rfl, rfl, rfl, rfl, trivial⟩, ⟨rfl, trivial⟩, rfl⟩
        intro i hi
        by_cases e : i = i0
        · subst e
          exact ⟨h20', fun q => by omega⟩
        · exact hF0 i (by omega)
  · replace h9 := of_decide_eq_false h9
    have e0 : 8 = i0 := by omega
    subst e0
    refine ⟨rfl, [], ?_, rfl, ⟨rfl, trivial⟩, rfl, rfl⟩
    exact one_b (dec_t ⟨(hF0 0 (by omega)).1.1, fun i hi => ⟨(hF0 i hi).1.2, (hF0 i hi).2⟩⟩)

theorem i_Algebra_isShaped_ok (B : Bs P ρ) (E : E_i_Algebra_isShaped P ρ) {p n : Int} {f : By} :
    CallOK P ρ 81 [.pt 0 0] [⟨true, .by [p, n] 522 f⟩] (.one (.b (decide (Shp p n ∧ Vec p n f 2 ∧ Tab p n f 10)))) [⟨true, .by [p, n] 522 f⟩] := by
  refine call_of_vc B.fn B.mo E.1 rfl rfl ?_
  refine ⟨⟨by first | omega | (simp <;> omega), by first | omega | (simp <;> omega)⟩, ?_⟩
  refine ⟨1, [], _, _, _, _, [_], rfl, i_IsVector_ok B E.2.1 , rfl, trivial, rfl, rfl, rfl, ?_⟩
  refine ⟨fun h16 => ?_, fun h16 => ?_⟩
  · skip
    have h16' := dec_elim_t h16
    refine brB_t ?_
    refine brB_t ?_
    refine brB_t ?_
    refine brB_t ?_
    refine brB_t ?_
    refine brB_t ?_
    refine brB_t ?_
    refine brB_t ?_
    refine brB_t ?_
    refine brB_t ?_
    refine brB_t ?_
    refine .inl ⟨1, [0], _, _, _, _, [_], rfl, i_isTable_ok B E.2.2 (by simp) (by omega), rfl, ⟨⟨_, rfl, fun h => by first | rfl | cases h⟩, trivial⟩, rfl, rfl, ?_⟩
    refine brB_t ?_
    refine ⟨rfl, [], ?_, rfl, ⟨rfl, trivial⟩, rfl, rfl⟩
    refine one_b (decide_eq_decide.2 ?_)
    exact ⟨fun q => ⟨q.1, Vec_sh.1 h16'.2, q.2⟩, fun q => ⟨q.1, q.2.2⟩⟩
  · skip
    have h16' := dec_elim_t' h16
    refine brB_f ?_
    refine brB_f ?_
    refine brB_f ?_
    refine brB_f ?_
    refine brB_f ?_
    refine brB_f ?_
    refine brB_f ?_
    refine brB_f ?_
    refine brB_f ?_
    refine brB_f ?_
    refine brB_f ?_
    refine brB_f ?_
    refine ⟨rfl, [], ?_, rfl, ⟨rfl, trivial⟩, rfl, rfl⟩
    exact one_b (dec_f fun q => h16' ⟨q.1, Vec_sh.2 q.2.1⟩)

theorem i_Coalgebra_isShaped_ok (B : Bs P ρ) (E : E_i_Coalgebra_isShaped P ρ) {p n : Int} {f : By} :
    CallOK P ρ 82 [.pt 0 0] [⟨true, .by [p, n] 522 f⟩] (.one (.b (decide (Shp p n ∧ Vec p n f 2 ∧ Tab p n f 10)))) [⟨true, .by [p, n] 522 f⟩] := by
  refine call_of_vc B.fn B.mo E.1 rfl rfl ?_
  refine ⟨⟨by first | omega | (simp <;> omega), by first | omega | (simp <;> omega)⟩, ?_⟩
  refine ⟨1, [], _, _, _, _, [_], rfl, i_IsVector_ok B E.2.1 , rfl, trivial, rfl, rfl, rfl, ?_⟩
  refine ⟨fun h16 => ?_, fun h16 => ?_⟩
  · skip
    have h16' := dec_elim_t h16
    refine brB_t ?_
    refine brB_t ?_
    refine brB_t ?_
    refine brB_t ?_
    refine brB_t ?_
    refine brB_t ?_
    refine brB_t ?_
    refine brB_t ?_
    refine brB_t ?_
    refine brB_t ?_
    refine brB_t ?_
    refine .inl ⟨1, [0], _, _, _, _, [_], rfl, i_isTable_ok B E.2.2 (by simp) (by omega), rfl, ⟨⟨_, rfl, fun h => by first | rfl | cases h⟩, trivial⟩, rfl, rfl, ?_⟩
    refine brB_t ?_
    refine ⟨rfl, [], ?_, rfl, ⟨rfl, trivial⟩, rfl, rfl⟩
    refine one_b (decide_eq_decide.2 ?_)
    exact ⟨fun q => ⟨q.1, Vec_sh.1 h16'.2, q.2⟩, fun q => ⟨q.1, q.2.2⟩⟩
  · skip
    have h16' := dec_elim_t' h16
    refine brB_f ?_
    refine brB_f ?_
    refine brB_f ?_
    refine brB_f ?_
    refine brB_f ?_
    refine brB_f ?_
    refine brB_f ?_
    refine brB_f ?_
    refine brB_f ?_
    refine brB_f ?_
    refine brB_f ?_
    refine brB_f ?_
    refine ⟨rfl, [], ?_, rfl, ⟨rfl, trivial⟩, rfl, rfl⟩
    exact one_b (dec_f fun q => h16' ⟨q.1, Vec_sh.2 q.2.1⟩)


end Hf
namespace Hf
open Go Classical
variable {P : Program} {ρ : Nat → FuncId}
/-- the shape of a Hopf table -/
def HShp (p n : Int) (f : By) : Prop := Shp p n ∧ Vec p n f 2 ∧ Tab p n f 10 ∧ Vec p n f 522 ∧ Tab p n f 530 ∧ Lin p n n f 1042
theorem Lin_sh {p n m : Int} {f : By} {a o : Nat} : Lin p n m (sh f a) o ↔ Lin p n m f (a + o) := by
  unfold Lin
  simp only [bz_sh, Vec_sh, Nat.add_assoc]
theorem Tab_sh {p n : Int} {f : By} {a o : Nat} : Tab p n (sh f a) o ↔ Tab p n f (a + o) := by
  unfold Tab
  simp only [bz_sh, Lin_sh, Nat.add_assoc]

end Hf
namespace Hf
open Go Classical
variable {P : Program} {ρ : Nat → FuncId}
theorem neB_t {n : Nat} {f g : By} (h : (!eqB n f g) = true) : ¬ ∀ x, x < n → f x = g x := fun q => by
  rw [eqB_iff.2 q] at h; cases h
theorem neB_f {n : Nat} {f g : By} (h : (!eqB n f g) = false) : ∀ x, x < n → f x = g x := eqB_iff.1 (by simpa using h)
theorem vec_ext {N : Nat} {p : Int} {a : Nat → Int} {g : By} (hg : ∀ x, N ≤ x → g x = 0) (h : ∀ x, x < N → vec N p a x = g x) : vec N p a = g := by
  funext x
  by_cases hx : x < N
  · exact h x hx
  · rw [vec_out (by omega), hg x (by omega)]
theorem bas_out {i : Nat} (hi : i < 8) : ∀ x, 8 ≤ x → bas i x = 0 := fun x hx => by simp only [bas]; rw [if_neg (by omega)]
theorem bas_cp {i : Nat} (hi : i < 8) : sh (spl (fun _ => 0) 0 8 (bas i)) 0 = bas i := by
  rw [sh_zero]; exact z_spl _ _ (bas_out hi)
/-- the first three for which something is bad -/
def Fst (n : Nat) (bad : Nat → Nat → Nat → Prop) (i j k : Nat) : Prop :=
  (i < n ∧ j < n ∧ k < n ∧ bad i j k) ∧ (∀ i', i' < i → ∀ j, j < n → ∀ k, k < n → ¬ bad i' j k) ∧ (∀ j', j' < j → ∀ k, k < n → ¬ bad i j' k) ∧ ∀ k', k' < k → ¬ bad i j k'
theorem least {q : Nat → Prop} (h : ∃ i, q i) : ∃ i, q i ∧ ∀ j, j < i → ¬ q j := by
  obtain ⟨i, hi⟩ := h
  induction i using Nat.strongRecOn with
  | _ i ih =>
    by_cases h2 : ∃ j, j < i ∧ q j
    · obtain ⟨j, hj, hq⟩ := h2; exact ih j hj hq
    · exact ⟨i, hi, fun j hj hq => h2 ⟨j, hj, hq⟩⟩
theorem Fst_ex {n : Nat} {bad : Nat → Nat → Nat → Prop} (h : ¬ ∀ i j k, i < n → j < n → k < n → ¬ bad i j k) : ∃ i j k, Fst n bad i j k := by
  simp only [Classical.not_forall, Classical.not_not] at h
  obtain ⟨i, j, k, h1, h2, h3, h4⟩ := h
  obtain ⟨i, ⟨hi, j, hj, k, hk, hb⟩, mi⟩ := least (q := fun i => i < n ∧ ∃ j, j < n ∧ ∃ k, k < n ∧ bad i j k) ⟨i, h1, j, h2, k, h3, h4⟩
  obtain ⟨j, ⟨hj, k, hk, hb⟩, mj⟩ := least (q := fun j => j < n ∧ ∃ k, k < n ∧ bad i j k) ⟨j, hj, k, hk, hb⟩
  obtain ⟨k, ⟨hk, hb⟩, mk⟩ := least (q := fun k => k < n ∧ bad i j k) ⟨k, hk, hb⟩
  exact ⟨i, j, k, ⟨hi, hj, hk, hb⟩, fun i' h1 j' h2 k' h3 h4 => mi i' h1 ⟨by omega, j', h2, k', h3, h4⟩, fun j' h2 k' h3 h4 => mj j' h2 ⟨by omega, k', h3, h4⟩, fun k' h3 h4 => mk k' h3 ⟨by omega, h4⟩⟩
theorem Fst_un {n : Nat} {bad : Nat → Nat → Nat → Prop} {i j k a b c : Nat} (h : Fst n bad i j k) (g : Fst n bad a b c) : i = a ∧ j = b ∧ k = c := by
  obtain ⟨⟨h1, h2, h3, h4⟩, h5, h6, h7⟩ := h
  obtain ⟨⟨g1, g2, g3, g4⟩, g5, g6, g7⟩ := g
  have e1 : i = a := by
    rcases Nat.lt_trichotomy i a with e | e | e
    · exact (g5 i e j h2 k h3 h4).elim
    · exact e
    · exact (h5 a e b g2 c g3 g4).elim
  subst e1
  have e2 : j = b := by
    rcases Nat.lt_trichotomy j b with e | e | e
    · exact (g6 j e k h3 h4).elim
    · exact e
    · exact (h6 b e c g3 g4).elim
  subst e2
  have e3 : k = c := by
    rcases Nat.lt_trichotomy k c with e | e | e
    · exact (g7 k e h4).elim
    · exact e
    · exact (h7 c e g4).elim
  exact ⟨rfl, rfl, e3⟩
/-- associativity at i, j, k -/
def Aso (p : Int) (n : Nat) (f : By) (i j k : Nat) : Prop :=
  vec 8 p (prd n f 10 (sh f (10 + i * 64 + j * 8)) (bas k)) = vec 8 p (prd n f 10 (bas i) (sh f (10 + j * 64 + k * 8)))
def Uni (p : Int) (n : Nat) (f : By) (i : Nat) : Prop :=
  vec 8 p (prd n f 10 (sh f 2) (bas i)) = bas i ∧ vec 8 p (prd n f 10 (bas i) (sh f 2)) = bas i
def AShp (p n : Int) (f : By) : Prop := Shp p n ∧ Vec p n f 2 ∧ Tab p n f 10
def Alg (p n : Int) (f : By) : Prop := AShp p n f ∧ (∀ i : Nat, (i : Int) < n → Uni p n.toNat f i) ∧ ∀ i j k : Nat, i < n.toNat → j < n.toNat → k < n.toNat → Aso p n.toNat f i j k

theorem i_Algebra_fault_t_ok (B : Bs P ρ) (E : E_i_Algebra_fault P ρ) {n : Nat} {p : Int} {f : By} (hp : 1 ≤ p) (hp2 : p ≤ 256) (hn : n ≤ 8) (hA : ∀ i j k : Nat, i < n → j < n → k < n → Aso p n f i j k) :
    CallOK P ρ 105 [.pt 0 0] [⟨true, .by [p, (n : Int)] 522 f⟩] (.one .sn) [⟨true, .by [p, (n : Int)] 522 f⟩] := by
  refine call_of_vc B.fn B.mo E.1 rfl rfl ?_
  refine .inl ⟨(fun a0 a3 a11 b0 i0 => St.mk [(0, a0), (3, a3), (11, a11), (12, .one (.i .i64 ((i0 : Nat) : Int)))] [b0]) _ _ _ _ , fun i0 => True, n, trivial, ⟨⟨rfl, rfl, rfl, rfl, trivial⟩, ⟨rfl, trivial⟩, rfl⟩, fun i0 hi0 _ => ?_⟩
  refine ⟨fun h13 => ?_, fun h13 => ?_⟩
  · replace h13 := of_decide_eq_true h13
    refine .inl ⟨(fun a0 a3 a4 a11 a12 a15 b0 i1 => St.mk [(0, a0), (3, a3), (4, a4), (11, a11), (12, a12), (15, a15), (16, .one (.i .i64 ((i1 : Nat) : Int)))] [b0]) _ _ _ _ _ _ _ , fun i1 => True, n, trivial, ⟨⟨rfl, rfl, rfl, rfl, rfl, rfl, rfl, trivial⟩, ⟨rfl, trivial⟩, rfl⟩, fun i1 hi1 _ => ?_⟩
    refine ⟨fun h17 => ?_, fun h17 => ?_⟩
    · replace h17 := of_decide_eq_true h17
      refine .inl ⟨(fun a0 a3 a4 a5 a11 a12 a15 a16 a19 b0 i2 => St.mk [(0, a0), (3, a3), (4, a4), (5, a5), (11, a11), (12, a12), (15, a15), (16, a16), (19, a19), (20, .one (.i .i64 ((i2 : Nat) : Int)))] [b0]) _ _ _ _ _ _ _ _ _ _ , fun i2 => True, n, trivial, ⟨⟨rfl, rfl, rfl, rfl, rfl, rfl, rfl, rfl, rfl, rfl, trivial⟩, ⟨rfl, trivial⟩, rfl⟩, fun i2 hi2 _ => ?_⟩
      refine ⟨fun h21 => ?_, fun h21 => ?_⟩
      · replace h21 := of_decide_eq_true h21
        refine ⟨i0, 10 + i0 * 64, rfl, by omega, by omega, ?_⟩
        refine ⟨i1, 10 + i0 * 64 + i1 * 8, rfl, by omega, rfl, ?_⟩
        refine ⟨⟨by first | omega | (simp <;> omega), by first | omega | (simp <;> omega)⟩, ?_⟩
        refine ⟨1, [], _, _, _, _, [_], rfl, i_basis_ok B E.2.1 (i := i2) (by omega), rfl, trivial, rfl, rfl, rfl, ?_⟩
        refine ⟨1, [0], _, _, _, _, [_], rfl, i_Algebra_product_ok B E.2.2 hp hp2 hn, rfl, ⟨⟨_, rfl, fun h => by first | rfl | cases h⟩, trivial⟩, rfl, rfl, rfl, ?_⟩
        refine ⟨1, [], _, _, _, _, [_], rfl, i_basis_ok B E.2.1 (i := i0) (by omega), rfl, trivial, rfl, rfl, rfl, ?_⟩
        refine ⟨i1, 10 + i1 * 64, rfl, by omega, by omega, ?_⟩
        refine ⟨i2, 10 + i1 * 64 + i2 * 8, rfl, by omega, rfl, ?_⟩
        refine ⟨⟨by first | omega | (simp <;> omega), by first | omega | (simp <;> omega)⟩, ?_⟩
        refine .inl ⟨1, [0], _, _, _, _, [_], rfl, i_Algebra_product_ok B E.2.2 hp hp2 hn, rfl, ⟨⟨_, rfl, fun h => by first | rfl | cases h⟩, trivial⟩, rfl, rfl, ?_⟩
        refine ⟨fun h47 => ?_, fun h47 => ?_⟩
        · skip
          have q := hA i0 i1 i2 (by omega) (by omega) (by omega)
          exact (neB_t h47 fun x _ => congrFun q x).elim
          skip
        · skip
          refine ⟨((i2 + 1 : Nat) : Int), w64_id _ (by omega) (by omega), ?_⟩
          exact ⟨by omega, trivial, ⟨rfl, rfl, rfl, rfl, rfl, rfl, rfl, rfl, rfl, rfl, trivial⟩, ⟨rfl, trivial⟩, rfl⟩
      · replace h21 := of_decide_eq_false h21
        have e2 : n = i2 := by omega
        subst e2
        refine ⟨((i1 + 1 : Nat) : Int), w64_id _ (by omega) (by omega), ?_⟩
        exact ⟨by omega, trivial, ⟨rfl, rfl, rfl, rfl, rfl, rfl, rfl, trivial⟩, ⟨rfl, trivial⟩, rfl⟩
    · replace h17 := of_decide_eq_false h17
      have e1 : n = i1 := by omega
      subst e1
      refine ⟨((i0 + 1 : Nat) : Int), w64_id _ (by omega) (by omega), ?_⟩
      exact ⟨by omega, trivial, ⟨rfl, rfl, rfl, rfl, trivial⟩, ⟨rfl, trivial⟩, rfl⟩
  · replace h13 := of_decide_eq_false h13
    have e0 : n = i0 := by omega
    subst e0
    exact ⟨rfl, [], rfl, rfl, ⟨rfl, trivial⟩, rfl, rfl⟩

theorem i_Algebra_fault_f_ok (B : Bs P ρ) (E : E_i_Algebra_fault P ρ) {n : Nat} {p : Int} {f : By} {a b c : Nat} (hp : 1 ≤ p) (hp2 : p ≤ 256) (hn : n ≤ 8) (hA : Fst n (fun i j k => ¬ Aso p n f i j k) a b c) :
    CallOK P ρ 105 [.pt 0 0] [⟨true, .by [p, (n : Int)] 522 f⟩] (.one (.sl 1 0 3 3)) [⟨true, .by [p, (n : Int)] 522 f⟩, ⟨false, .rw [.i .i64 (a : Int), .i .i64 (b : Int), .i .i64 (c : Int)]⟩] := by
  refine call_of_vc B.fn B.mo E.1 rfl rfl ?_
  refine .inl ⟨(fun a0 a3 a11 b0 i0 => St.mk [(0, a0), (3, a3), (11, a11), (12, .one (.i .i64 ((i0 : Nat) : Int)))] [b0]) _ _ _ _ , fun i0 => ∀ i, i < i0 → ∀ j, j < n → ∀ k, k < n → Aso p n f i j k, n, fun _ _ => by omega, ⟨⟨rfl, rfl, rfl, rfl, trivial⟩, ⟨rfl, trivial⟩, rfl⟩, fun i0 hi0 hF0 => ?_⟩
  refine ⟨fun h13 => ?_, fun h13 => ?_⟩
  · replace h13 := of_decide_eq_true h13
    refine .inl ⟨(fun a0 a3 a4 a11 a12 a15 b0 i1 => St.mk [(0, a0), (3, a3), (4, a4), (11, a11), (12, a12), (15, a15), (16, .one (.i .i64 ((i1 : Nat) : Int)))] [b0]) _ _ _ _ _ _ _ , fun i1 => ∀ j, j < i1 → ∀ k, k < n → Aso p n f i0 j k, n, fun _ _ => by omega, ⟨⟨rfl, rfl, rfl, rfl, rfl, rfl, rfl, trivial⟩, ⟨rfl, trivial⟩, rfl⟩, fun i1 hi1 hF1 => ?_⟩
    refine ⟨fun h17 => ?_, fun h17 => ?_⟩
    · replace h17 := of_decide_eq_true h17
      refine .inl ⟨(fun a0 a3 a4 a5 a11 a12 a15 a16 a19 b0 i2 => St.mk [(0, a0), (3, a3), (4, a4), (5, a5), (11, a11), (12, a12), (15, a15), (16, a16), (19, a19), (20, .one (.i .i64 ((i2 : Nat) : Int)))] [b0]) _ _ _ _ _ _ _ _ _ _ , fun i2 => ∀ k, k < i2 → Aso p n f i0 i1 k, n, fun _ _ => by omega, ⟨⟨rfl, rfl, rfl, rfl, rfl, rfl, rfl, rfl, rfl, rfl, trivial⟩, ⟨rfl, trivial⟩, rfl⟩, fun i2 hi2 hF2 => ?_⟩
      refine ⟨fun h21 => ?_, fun h21 => ?_⟩
      · replace h21 := of_decide_eq_true h21
        refine ⟨i0, 10 + i0 * 64, rfl, by omega, by omega, ?_⟩
        refine ⟨i1, 10 + i0 * 64 + i1 * 8, rfl, by omega, rfl, ?_⟩
        refine ⟨⟨by first | omega | (simp <;> omega), by first | omega | (simp <;> omega)⟩, ?_⟩
        refine ⟨1, [], _, _, _, _, [_], rfl, i_basis_ok B E.2.1 (i := i2) (by omega), rfl, trivial, rfl, rfl, rfl, ?_⟩
        refine ⟨1, [0], _, _, _, _, [_], rfl, i_Algebra_product_ok B E.2.2 hp hp2 hn, rfl, ⟨⟨_, rfl, fun h => by first | rfl | cases h⟩, trivial⟩, rfl, rfl, rfl, ?_⟩
        refine ⟨1, [], _, _, _, _, [_], rfl, i_basis_ok B E.2.1 (i := i0) (by omega), rfl, trivial, rfl, rfl, rfl, ?_⟩
        refine ⟨i1, 10 + i1 * 64, rfl, by omega, by omega, ?_⟩
        refine ⟨i2, 10 + i1 * 64 + i2 * 8, rfl, by omega, rfl, ?_⟩
        refine ⟨⟨by first | omega | (simp <;> omega), by first | omega | (simp <;> omega)⟩, ?_⟩
        refine .inl ⟨1, [0], _, _, _, _, [_], rfl, i_Algebra_product_ok B E.2.2 hp hp2 hn, rfl, ⟨⟨_, rfl, fun h => by first | rfl | cases h⟩, trivial⟩, rfl, rfl, ?_⟩
        refine ⟨fun h47 => ?_, fun h47 => ?_⟩
        · skip
          have q : ¬ Aso p n f i0 i1 i2 := fun q => neB_t h47 fun x _ => congrFun q x
          have q2 : Fst n (fun i j k => ¬ Aso p n f i j k) i0 i1 i2 := ⟨⟨by omega, by omega, by omega, q⟩, fun i h1 j h2 k h3 => Classical.not_not.2 (hF0 i h1 j h2 k h3), fun j h2 k h3 => Classical.not_not.2 (hF1 j h2 k h3), fun k h3 => Classical.not_not.2 (hF2 k h3)⟩
          have q3 := Fst_un hA q2
          refine ⟨1, rfl, ?_⟩
          refine ⟨rfl, [1], rfl, rfl, ⟨rfl, ?_, trivial⟩, rfl, rfl⟩
          show some (Blk.mk false (.rw [.i .i64 (i0 : Int), .i .i64 (i1 : Int), .i .i64 (i2 : Int)])) = some (Blk.mk false (.rw [.i .i64 (a : Int), .i .i64 (b : Int), .i .i64 (c : Int)]))
          rw [q3.1, q3.2.1, q3.2.2]
        · skip
          have q : Aso p n f i0 i1 i2 := vec_ext (fun x hx => vec_out hx) (neB_f h47)
          refine ⟨((i2 + 1 : Nat) : Int), w64_id _ (by omega) (by omega), ?_⟩
          refine ⟨by omega, ?_, ⟨rfl, rfl, rfl, rfl, rfl, rfl, rfl, rfl, rfl, rfl, trivial⟩, ⟨rfl, trivial⟩, rfl⟩
          intro k hk
          by_cases e : k = i2
          · subst e; exact q
          · exact hF2 k (by omega)
      · replace h21 := of_decide_eq_false h21
        have e2 : n = i2 := by omega
        subst e2
        refine ⟨((i1 + 1 : Nat) : Int), w64_id _ (by omega) (by omega), ?_⟩
        refine ⟨by omega, ?_, ⟨rfl, rfl, rfl, rfl, rfl, rfl, rfl, trivial⟩, ⟨rfl, trivial⟩, rfl⟩
        intro j hj k hk
        by_cases e : j = i1
        · subst e; exact hF2 k hk
        · exact hF1 j (by omega) k hk
    · replace h17 := of_decide_eq_false h17
      have e1 : n = i1 := by omega
      subst e1
      refine ⟨((i0 + 1 : Nat) : Int), w64_id _ (by omega) (by omega), ?_⟩
      refine ⟨by omega, ?_, ⟨rfl, rfl, rfl, rfl, trivial⟩, ⟨rfl, trivial⟩, rfl⟩
      intro i hi j hj k hk
      by_cases e : i = i0
      · subst e; exact hF1 j hj k hk
      · exact hF0 i (by omega) j hj k hk
  · replace h13 := of_decide_eq_false h13
    have e0 : n = i0 := by omega
    subst e0
    exact (hA.1.2.2.2 (hF0 a hA.1.1 b hA.1.2.1 c hA.1.2.2.1)).elim


end Hf
namespace Hf
open Go Classical
variable {P : Program} {ρ : Nat → FuncId}
theorem AShp.p1 {p n : Int} {f : By} (h : AShp p n f) : 1 ≤ p ∧ p ≤ 31 ∧ 1 ≤ n ∧ n ≤ 8 := ⟨by have := h.1.1.1; omega, h.1.1.2.1, h.1.2.1, h.1.2.2⟩

theorem i_IsAlgebra_s_ok (B : Bs P ρ) (E : E_i_IsAlgebra P ρ) {n : Int} {p : Int} {f : By} (hS : ¬ AShp p n f) :
    CallOK P ρ 103 [.ag [p, n] 522 f] [] (.one (.b false)) [] := by
  refine call_of_vc B.fn B.mo E.1 rfl rfl ?_
  refine ⟨0, rfl, ?_⟩
  refine .inl ⟨1, [0], _, _, _, _, [_], rfl, i_Algebra_isShaped_ok B E.2.1 , rfl, ⟨⟨_, rfl, fun h => by first | rfl | cases h⟩, trivial⟩, rfl, rfl, ?_⟩
  refine ⟨fun h6 => ?_, fun h6 => ?_⟩
  · skip
    exact ⟨rfl, [], rfl, rfl, trivial, rfl, rfl⟩
  · skip
    have q : Shp p n ∧ Vec p n f 2 ∧ Tab p n f 10 := dec_elim_t (not_f h6)
    exact (hS q).elim

theorem i_IsAlgebra_t_ok (B : Bs P ρ) (E : E_i_IsAlgebra P ρ) {n : Nat} {p : Int} {f : By} (hS : AShp p n f) (hA : ∀ i j k : Nat, i < n → j < n → k < n → Aso p n f i j k) :
    CallOK P ρ 103 [.ag [p, (n : Int)] 522 f] [] (.one (.b (decide (∀ i, i < n → Uni p n f i)))) [] := by
  refine call_of_vc B.fn B.mo E.1 rfl rfl ?_
  refine ⟨0, rfl, ?_⟩
  refine .inl ⟨1, [0], _, _, _, _, [_], rfl, i_Algebra_isShaped_ok B E.2.1 , rfl, ⟨⟨_, rfl, fun h => by first | rfl | cases h⟩, trivial⟩, rfl, rfl, ?_⟩
  refine ⟨fun h6 => ?_, fun h6 => ?_⟩
  · skip
    have q : ¬ (Shp p n ∧ Vec p n f 2 ∧ Tab p n f 10) := dec_elim_t' (not_t h6)
    exact (q hS).elim
  · skip
    have hb := hS.p1
    refine .inl ⟨(fun a8 b0 i0 => St.mk [(1, .one (.pt 0 0)), (8, a8), (9, .one (.i .i64 ((i0 : Nat) : Int)))] [b0]) _ _ , fun i0 => ∀ i, i < i0 → Uni p n f i, n, fun _ _ => by omega, ⟨⟨rfl, rfl, rfl, trivial⟩, ⟨rfl, trivial⟩, rfl⟩, fun i0 hi0 hF0 => ?_⟩
    refine ⟨fun h10 => ?_, fun h10 => ?_⟩
    · replace h10 := of_decide_eq_true h10
      refine .inl ⟨1, [], _, _, _, _, [_], rfl, i_basis_ok B E.2.2.1 (i := i0) (by omega), rfl, trivial, rfl, rfl, ?_⟩
      refine ⟨1, rfl, ?_⟩
      refine ⟨⟨rfl, by first | omega | (simp <;> omega), by first | omega | (simp <;> omega)⟩, ?_⟩   -- sta ['.t', 4] ['.t', 13] 8
      refine ⟨⟨by first | omega | (simp <;> omega), by first | omega | (simp <;> omega)⟩, ?_⟩
      refine ⟨⟨by first | omega | (simp <;> omega), by first | omega | (simp <;> omega)⟩, ?_⟩
      refine ⟨2, [0], _, _, _, _, [_, _], rfl, i_Algebra_product_ok B E.2.2.2.1 (by omega) (by omega) (by omega), rfl, ⟨⟨_, rfl, fun h => by first | rfl | cases h⟩, trivial⟩, rfl, rfl, rfl, ?_⟩
      refine ⟨⟨by first | omega | (simp <;> omega), by first | omega | (simp <;> omega)⟩, ?_⟩
      refine ⟨fun h20 => ?_, fun h20 => ?_⟩
      · skip
        have z20 := neB_t h20
        rw [bas_cp (by omega)] at z20
        refine brB_t ?_
        refine brB_t ?_
        refine brB_t ?_
        refine brB_t ?_
        refine brB_t ?_
        refine brB_t ?_
        refine brB_t ?_
        refine ⟨rfl, [], ?_, rfl, trivial, rfl, rfl⟩
        exact one_b (dec_f fun q => z20 fun x _ => congrFun (q i0 (by omega)).1 x)
      · skip
        have z20 := neB_f h20
        rw [bas_cp (by omega)] at z20
        refine ⟨⟨by first | omega | (simp <;> omega), by first | omega | (simp <;> omega)⟩, ?_⟩
        refine brB_f ?_
        refine brB_f ?_
        refine ⟨⟨by first | omega | (simp <;> omega), by first | omega | (simp <;> omega)⟩, ?_⟩
        refine brB_f ?_
        refine ⟨2, [0], _, _, _, _, [_, _], rfl, i_Algebra_product_ok B E.2.2.2.1 (by omega) (by omega) (by omega), rfl, ⟨⟨_, rfl, fun h => by first | rfl | cases h⟩, trivial⟩, rfl, rfl, rfl, ?_⟩
        refine brB_f ?_
        refine ⟨⟨by first | omega | (simp <;> omega), by first | omega | (simp <;> omega)⟩, ?_⟩
        refine brB_f ?_
        refine brB_f ?_
        refine ⟨fun h27 => ?_, fun h27 => ?_⟩
        · skip
          have z27 := neB_t h27
          rw [bas_cp (by omega)] at z27
          refine ⟨rfl, [], ?_, rfl, trivial, rfl, rfl⟩
          exact one_b (dec_f fun q => z27 fun x _ => congrFun (q i0 (by omega)).2 x)
        · skip
          have z27 := neB_f h27
          rw [bas_cp (by omega)] at z27
          refine ⟨((i0 + 1 : Nat) : Int), w64_id _ (by omega) (by omega), ?_⟩
          refine ⟨by omega, ?_, ⟨rfl, rfl, rfl, trivial⟩, ⟨rfl, trivial⟩, rfl⟩
          intro k hk
          by_cases e : k = i0
          · subst e
            exact ⟨vec_ext (bas_out (by omega)) z20, vec_ext (bas_out (by omega)) z27⟩
          · exact hF0 k (by omega)
    · replace h10 := of_decide_eq_false h10
      have e0 : n = i0 := by omega
      subst e0
      refine .inl ⟨1, [0], _, _, _, _, [_], rfl, i_Algebra_fault_t_ok B E.2.2.2.2 (by omega) (by omega) (by omega) hA, rfl, ⟨⟨_, rfl, fun h => by first | rfl | cases h⟩, trivial⟩, rfl, rfl, ?_⟩
      refine ⟨rfl, [], ?_, rfl, trivial, rfl, rfl⟩
      exact one_b (dec_t hF0)

theorem i_IsAlgebra_f_ok (B : Bs P ρ) (E : E_i_IsAlgebra P ρ) {n : Nat} {p : Int} {f : By} {a b c : Nat} (hS : AShp p n f) (hA : Fst n (fun i j k => ¬ Aso p n f i j k) a b c) :
    CallOK P ρ 103 [.ag [p, (n : Int)] 522 f] [] (.one (.b false)) [] := by
  refine call_of_vc B.fn B.mo E.1 rfl rfl ?_
  refine ⟨0, rfl, ?_⟩
  refine .inl ⟨1, [0], _, _, _, _, [_], rfl, i_Algebra_isShaped_ok B E.2.1 , rfl, ⟨⟨_, rfl, fun h => by first | rfl | cases h⟩, trivial⟩, rfl, rfl, ?_⟩
  refine ⟨fun h6 => ?_, fun h6 => ?_⟩
  · skip
    have q : ¬ (Shp p n ∧ Vec p n f 2 ∧ Tab p n f 10) := dec_elim_t' (not_t h6)
    exact (q hS).elim
  · skip
    have hb := hS.p1
    refine .inl ⟨(fun a8 b0 i0 => St.mk [(1, .one (.pt 0 0)), (8, a8), (9, .one (.i .i64 ((i0 : Nat) : Int)))] [b0]) _ _ , fun i0 => True, n, trivial, ⟨⟨rfl, rfl, rfl, trivial⟩, ⟨rfl, trivial⟩, rfl⟩, fun i0 hi0 _ => ?_⟩
    refine ⟨fun h10 => ?_, fun h10 => ?_⟩
    · replace h10 := of_decide_eq_true h10
      refine .inl ⟨1, [], _, _, _, _, [_], rfl, i_basis_ok B E.2.2.1 (i := i0) (by omega), rfl, trivial, rfl, rfl, ?_⟩
      refine ⟨1, rfl, ?_⟩
      refine ⟨⟨rfl, by first | omega | (simp <;> omega), by first | omega | (simp <;> omega)⟩, ?_⟩   -- sta ['.t', 4] ['.t', 13] 8
      refine ⟨⟨by first | omega | (simp <;> omega), by first | omega | (simp <;> omega)⟩, ?_⟩
      refine ⟨⟨by first | omega | (simp <;> omega), by first | omega | (simp <;> omega)⟩, ?_⟩
      refine ⟨2, [0], _, _, _, _, [_, _], rfl, i_Algebra_product_ok B E.2.2.2.1 (by omega) (by omega) (by omega), rfl, ⟨⟨_, rfl, fun h => by first | rfl | cases h⟩, trivial⟩, rfl, rfl, rfl, ?_⟩
      refine ⟨⟨by first | omega | (simp <;> omega), by first | omega | (simp <;> omega)⟩, ?_⟩
      refine ⟨fun h20 => ?_, fun h20 => ?_⟩
      · skip
        refine brB_t ?_
        refine brB_t ?_
        refine brB_t ?_
        refine brB_t ?_
        refine brB_t ?_
        refine brB_t ?_
        refine brB_t ?_
        exact ⟨rfl, [], rfl, rfl, trivial, rfl, rfl⟩
      · skip
        refine ⟨⟨by first | omega | (simp <;> omega), by first | omega | (simp <;> omega)⟩, ?_⟩
        refine brB_f ?_
        refine brB_f ?_
        refine ⟨⟨by first | omega | (simp <;> omega), by first | omega | (simp <;> omega)⟩, ?_⟩
        refine brB_f ?_
        refine ⟨2, [0], _, _, _, _, [_, _], rfl, i_Algebra_product_ok B E.2.2.2.1 (by omega) (by omega) (by omega), rfl, ⟨⟨_, rfl, fun h => by first | rfl | cases h⟩, trivial⟩, rfl, rfl, rfl, ?_⟩
        refine brB_f ?_
        refine ⟨⟨by first | omega | (simp <;> omega), by first | omega | (simp <;> omega)⟩, ?_⟩
        refine brB_f ?_
        refine brB_f ?_
        refine ⟨fun h27 => ?_, fun h27 => ?_⟩
        · skip
          exact ⟨rfl, [], rfl, rfl, trivial, rfl, rfl⟩
        · skip
          refine ⟨((i0 + 1 : Nat) : Int), w64_id _ (by omega) (by omega), ?_⟩
          exact ⟨by omega, trivial, ⟨rfl, rfl, rfl, trivial⟩, ⟨rfl, trivial⟩, rfl⟩
    · replace h10 := of_decide_eq_false h10
      have e0 : n = i0 := by omega
      subst e0
      refine .inl ⟨1, [0], _, _, _, _, [_, _], rfl, i_Algebra_fault_f_ok B E.2.2.2.2 (by omega) (by omega) (by omega) hA, rfl, ⟨⟨_, rfl, fun h => by first | rfl | cases h⟩, trivial⟩, rfl, rfl, ?_⟩
      exact ⟨rfl, [], rfl, rfl, trivial, rfl, rfl⟩

theorem i_IsAlgebra_ok (B : Bs P ρ) (E : E_i_IsAlgebra P ρ) {n : Int} {p : Int} {f : By} :
    CallOK P ρ 103 [.ag [p, n] 522 f] [] (.one (.b (decide (Alg p n f)))) [] := by
  by_cases hS : AShp p n f
  · obtain ⟨m, rfl⟩ : ∃ m : Nat, n = (m : Int) := ⟨n.toNat, by have := hS.1.2.1; omega⟩
    by_cases hA : ∀ i j k : Nat, i < m → j < m → k < m → Aso p m f i j k
    · have e : decide (Alg p m f) = decide (∀ i, i < m → Uni p m f i) :=
        decide_eq_decide.2 ⟨fun q i hi => q.2.1 i (by omega), fun q => ⟨hS, fun i hi => q i (by omega), hA⟩⟩
      rw [e]; exact i_IsAlgebra_t_ok B E hS hA
    · have hA' := hA
      rw [decide_eq_false fun q : Alg p m f => hA q.2.2]
      obtain ⟨a, b, c, h⟩ := Fst_ex (n := m) (bad := fun i j k => ¬ Aso p m f i j k) (fun q => hA fun i j k h1 h2 h3 => Classical.not_not.1 (q i j k h1 h2 h3))
      exact i_IsAlgebra_f_ok B E hS h
  · rw [decide_eq_false fun q : Alg p n f => hS q.1]
    exact i_IsAlgebra_s_ok B E hS

end Hf
namespace Hf
open Go Classical
variable {P : Program} {ρ : Nat → FuncId}
theorem qd {a b : Nat} (h : a ≤ 4611686018427387904) : w64 ((a : Int).tdiv (b : Int)) = ((a / b : Nat) : Int) := by
  have : (a : Int).tdiv (b : Int) = ((a / b : Nat) : Int) := rfl
  rw [this]
  have := Nat.div_le_self a b
  generalize a / b = q at *
  exact w64_id _ (by omega) (by omega)
theorem rm {a b : Nat} : (a : Int).tmod (b : Int) = ((a % b : Nat) : Int) := rfl
theorem ml {a b : Nat} (h : a * b ≤ 4611686018427387904) : w64 ((a : Int) * (b : Int)) = ((a * b : Nat) : Int) := by
  rw [← Int.natCast_mul]; exact w64_id _ (by omega) (by omega)
theorem pw {n : Nat} (h : n ≤ 8) : n * n ≤ 64 ∧ n * n * n ≤ 512 ∧ n * n * n * n ≤ 4096 := by
  have h1 : n * n ≤ 8 * 8 := Nat.mul_le_mul h h
  have h2 : n * n * n ≤ 64 * 8 := Nat.mul_le_mul h1 h
  have h3 : n * n * n * n ≤ 512 * 8 := Nat.mul_le_mul h2 h
  omega
theorem dig {n t : Nat} (h : t < n * n * n * n) : 0 < n ∧ t / (n * n * n) < n ∧ t / (n * n) % n < n ∧ t / n % n < n ∧ t % n < n := by
  have h0 : 0 < n := by
    rcases Nat.eq_zero_or_pos n with e | e
    · subst e; simp at h
    · exact e
  exact ⟨h0, Nat.div_lt_of_lt_mul h, Nat.mod_lt _ h0, Nat.mod_lt _ h0, Nat.mod_lt _ h0⟩
def coL (m : Nat) (f : By) (i j k l : Nat) : Int := sm m fun a => bz f (10 + i * 64 + a * 8 + l) * bz f (10 + a * 64 + j * 8 + k)
def coR (m : Nat) (f : By) (i j k l : Nat) : Int := sm m fun a => bz f (10 + i * 64 + j * 8 + a) * bz f (10 + a * 64 + k * 8 + l)
/-- coassociativity at i, j, k, l -/
def Coa (p : Int) (n : Nat) (f : By) (i j k l : Nat) : Prop := coL n f i j k l % p = coR n f i j k l % p
def CoaT (p : Int) (n : Nat) (f : By) (t : Nat) : Prop := Coa p n f (t / (n * n * n)) (t / (n * n) % n) (t / n % n) (t % n)
theorem coL_bd {m : Nat} {f : By} {i j k l : Nat} : 0 ≤ coL m f i j k l ∧ coL m f i j k l ≤ m * 65025 := sm_bd fun a _ => bz2 f f _ _
theorem coR_bd {m : Nat} {f : By} {i j k l : Nat} : 0 ≤ coR m f i j k l ∧ coR m f i j k l ≤ m * 65025 := sm_bd fun a _ => bz2 f f _ _
/-- the counit at i -/
def cuL (n : Nat) (f : By) (i x : Nat) : Int := sm n fun j => bz f (2 + j) * bz f (10 + i * 64 + j * 8 + x)
def cuR (n : Nat) (f : By) (i j : Nat) : Int := sm n fun k => bz f (2 + k) * bz f (10 + i * 64 + j * 8 + k)
def Cou (p : Int) (n : Nat) (f : By) (i : Nat) : Prop := vec 8 p (cuL n f i) = bas i ∧ vec n p (cuR n f i) = bas i
def CShp (p n : Int) (f : By) : Prop := Shp p n ∧ Vec p n f 2 ∧ Tab p n f 10
def Cog (p n : Int) (f : By) : Prop := CShp p n f ∧ (∀ i : Nat, i < n.toNat → Cou p n.toNat f i) ∧ ∀ t : Nat, t < n.toNat * n.toNat * n.toNat * n.toNat → CoaT p n.toNat f t
theorem upd_vec {p : Int} {X : Nat → Int} {a : Nat} {v : UInt8} (h : v = byt (X a % p)) : upd (vec a p X) a v = vec (a + 1) p X := by
  funext x
  simp only [upd, vec]
  by_cases e : x = a
  · subst e; rw [if_pos rfl, if_pos (by omega), h]
  · rw [if_neg e]
    by_cases h2 : x < a
    · rw [if_pos h2, if_pos (by omega)]
    · rw [if_neg h2, if_neg (by omega)]
theorem i_Coalgebra_isFault_ok (B : Bs P ρ) (E : E_i_Coalgebra_isFault P ρ) {n : Nat} {p : Int} {f : By} {i j k l : Nat} (hp : 1 ≤ p) (hp2 : p ≤ 256) (hn : n ≤ 8) (hi : i < 8) (hj : j < 8) (hk : k < 8) (hl : l < 8) :
    CallOK P ρ 119 [.pt 0 0, .i .i64 (i : Int), .i .i64 (j : Int), .i .i64 (k : Int), .i .i64 (l : Int)] [⟨true, .by [p, (n : Int)] 522 f⟩] (.one (.b (decide (¬ Coa p n f i j k l)))) [⟨true, .by [p, (n : Int)] 522 f⟩] := by
  refine call_of_vc B.fn B.mo E.1 rfl rfl ?_
  refine .inl ⟨1, [0], _, _, _, _, [_], rfl, i_Coalgebra_field_ok B E.2 , rfl, ⟨⟨_, rfl, fun h => by first | rfl | cases h⟩, trivial⟩, rfl, rfl, ?_⟩
  refine ⟨1, rfl, ?_⟩
  refine .inl ⟨(fun a0 a1 a2 a3 a4 a18 b0 b1 i0 => St.mk [(0, a0), (1, a1), (2, a2), (3, a3), (4, a4), (11, .one (.pt 1 0)), (12, .one (.i .i64 (coL i0 f i j k l))), (13, .one (.i .i64 (coR i0 f i j k l))), (18, a18), (19, .one (.i .i64 ((i0 : Nat) : Int)))] [b0, b1]) _ _ _ _ _ _ _ _ , fun i0 => True, n, trivial, ⟨⟨rfl, rfl, rfl, rfl, rfl, rfl, rfl, rfl, rfl, rfl, trivial⟩, ⟨rfl, rfl, trivial⟩, rfl⟩, fun i0 hi0 _ => ?_⟩
  refine ⟨fun h20 => ?_, fun h20 => ?_⟩
  · replace h20 := of_decide_eq_true h20
    have q1 := bz2 f f (10 + i * 64 + i0 * 8 + l) (10 + i0 * 64 + j * 8 + k)
    have q2 := bz2 f f (10 + i * 64 + j * 8 + i0) (10 + i0 * 64 + k * 8 + l)
    have q3 := coL_bd (m := i0) (f := f) (i := i) (j := j) (k := k) (l := l)
    have q4 := coR_bd (m := i0) (f := f) (i := i) (j := j) (k := k) (l := l)
    refine ⟨i, 10 + i * 64, rfl, by omega, by omega, ?_⟩
    refine ⟨i0, 10 + i * 64 + i0 * 8, rfl, by omega, by omega, ?_⟩
    refine ⟨l, 10 + i * 64 + i0 * 8 + l, rfl, by omega, by omega, ?_⟩
    refine ⟨⟨by first | omega | (simp <;> omega), by first | omega | (simp <;> omega)⟩, ?_⟩
    refine ⟨i0, 10 + i0 * 64, rfl, by omega, by omega, ?_⟩
    refine ⟨j, 10 + i0 * 64 + j * 8, rfl, by omega, by omega, ?_⟩
    refine ⟨k, 10 + i0 * 64 + j * 8 + k, rfl, by omega, by omega, ?_⟩
    refine ⟨⟨by first | omega | (simp <;> omega), by first | omega | (simp <;> omega)⟩, ?_⟩
    refine ⟨bz f (10 + i * 64 + i0 * 8 + l) * bz f (10 + i0 * 64 + j * 8 + k), w64_id (bz f (10 + i * 64 + i0 * 8 + l) * bz f (10 + i0 * 64 + j * 8 + k)) (by omega) (by omega), ?_⟩
    refine ⟨coL i0 f i j k l + bz f (10 + i * 64 + i0 * 8 + l) * bz f (10 + i0 * 64 + j * 8 + k), w64_id (coL i0 f i j k l + bz f (10 + i * 64 + i0 * 8 + l) * bz f (10 + i0 * 64 + j * 8 + k)) (by omega) (by omega), ?_⟩
    refine ⟨i, 10 + i * 64, rfl, by omega, by omega, ?_⟩
    refine ⟨j, 10 + i * 64 + j * 8, rfl, by omega, by omega, ?_⟩
    refine ⟨i0, 10 + i * 64 + j * 8 + i0, rfl, by omega, by omega, ?_⟩
    refine ⟨⟨by first | omega | (simp <;> omega), by first | omega | (simp <;> omega)⟩, ?_⟩
    refine ⟨i0, 10 + i0 * 64, rfl, by omega, by omega, ?_⟩
    refine ⟨k, 10 + i0 * 64 + k * 8, rfl, by omega, by omega, ?_⟩
    refine ⟨l, 10 + i0 * 64 + k * 8 + l, rfl, by omega, by omega, ?_⟩
    refine ⟨⟨by first | omega | (simp <;> omega), by first | omega | (simp <;> omega)⟩, ?_⟩
    refine ⟨bz f (10 + i * 64 + j * 8 + i0) * bz f (10 + i0 * 64 + k * 8 + l), w64_id (bz f (10 + i * 64 + j * 8 + i0) * bz f (10 + i0 * 64 + k * 8 + l)) (by omega) (by omega), ?_⟩
    refine ⟨coR i0 f i j k l + bz f (10 + i * 64 + j * 8 + i0) * bz f (10 + i0 * 64 + k * 8 + l), w64_id (coR i0 f i j k l + bz f (10 + i * 64 + j * 8 + i0) * bz f (10 + i0 * 64 + k * 8 + l)) (by omega) (by omega), ?_⟩
    refine ⟨((i0 + 1 : Nat) : Int), w64_id _ (by omega) (by omega), ?_⟩
    exact ⟨by omega, trivial, ⟨rfl, rfl, rfl, rfl, rfl, rfl, rfl, rfl, rfl, rfl, trivial⟩, ⟨rfl, rfl, trivial⟩, rfl⟩
  · replace h20 := of_decide_eq_false h20
    have e0 : n = i0 := by omega
    subst e0
    refine ⟨by first | omega | (simp <;> omega), _, rfl, ?_⟩
    refine ⟨by first | omega | (simp <;> omega), _, rfl, ?_⟩
    refine ⟨rfl, [], ?_, rfl, ⟨rfl, trivial⟩, rfl, rfl⟩
    refine one_b ?_
    rw [Int.tmod_eq_emod_of_nonneg coL_bd.1, Int.tmod_eq_emod_of_nonneg coR_bd.1]
    by_cases q : Coa p n f i j k l
    · rw [decide_eq_false (fun h => h q)]
      have : coL n f i j k l % p = coR n f i j k l % p := q
      simp [this]
    · rw [decide_eq_true q]
      have : ¬ coL n f i j k l % p = coR n f i j k l % p := q
      simp [this]

theorem i_Coalgebra_fault_t_ok (B : Bs P ρ) (E : E_i_Coalgebra_fault P ρ) {n : Nat} {p : Int} {f : By} (hp : 1 ≤ p) (hp2 : p ≤ 256) (hn : n ≤ 8) (hA : ∀ t : Nat, t < n * n * n * n → CoaT p n f t) :
    CallOK P ρ 108 [.pt 0 0] [⟨true, .by [p, (n : Int)] 522 f⟩] (.one .sn) [⟨true, .by [p, (n : Int)] 522 f⟩] := by
  refine call_of_vc B.fn B.mo E.1 rfl rfl ?_
  have hpw := pw hn
  refine ⟨((n * n : Nat) : Int), ml (by omega), ?_⟩
  refine ⟨((n * n * n : Nat) : Int), ml (by omega), ?_⟩
  refine ⟨((n * n * n * n : Nat) : Int), ml (by omega), ?_⟩
  refine .inl ⟨(fun a0 a3 a19 b0 i0 => St.mk [(0, a0), (3, a3), (19, a19), (20, .one (.i .i64 ((i0 : Nat) : Int)))] [b0]) _ _ _ _ , fun i0 => True, n * n * n * n, trivial, ⟨⟨rfl, rfl, rfl, rfl, trivial⟩, ⟨rfl, trivial⟩, rfl⟩, fun i0 hi0 _ => ?_⟩
  refine ⟨fun h21 => ?_, fun h21 => ?_⟩
  · replace h21 := of_decide_eq_true h21
    have hlt : i0 < n * n * n * n := by omega
    have hd := dig hlt
    refine ⟨((n * n : Nat) : Int), ml (by omega), ?_⟩
    refine ⟨((n * n * n : Nat) : Int), ml (by omega), ?_⟩
    refine ⟨by have : n * n * n ≠ 0 := Nat.ne_of_gt (Nat.mul_pos (Nat.mul_pos hd.1 hd.1) hd.1); omega, ((i0 / (n * n * n) : Nat) : Int), qd (by omega), ?_⟩
    refine ⟨((n * n : Nat) : Int), ml (by omega), ?_⟩
    refine ⟨by have : n * n ≠ 0 := Nat.ne_of_gt (Nat.mul_pos hd.1 hd.1); omega, ((i0 / (n * n) : Nat) : Int), qd (by omega), ?_⟩
    refine ⟨by omega, ((i0 / (n * n) % n : Nat) : Int), rm, ?_⟩
    refine ⟨by omega, ((i0 / n : Nat) : Int), qd (by omega), ?_⟩
    refine ⟨by omega, ((i0 / n % n : Nat) : Int), rm, ?_⟩
    refine ⟨by omega, ((i0 % n : Nat) : Int), rm, ?_⟩
    refine .inl ⟨1, [0], _, _, _, _, [_], rfl, i_Coalgebra_isFault_ok B E.2 hp hp2 hn (i := i0 / (n * n * n)) (j := i0 / (n * n) % n) (k := i0 / n % n) (l := i0 % n) (by omega) (by omega) (by omega) (by omega), rfl, ⟨⟨_, rfl, fun h => by first | rfl | cases h⟩, trivial⟩, rfl, rfl, ?_⟩
    refine ⟨fun h50 => ?_, fun h50 => ?_⟩
    · skip
      exact (dec_elim_t h50 (hA i0 hlt)).elim
    · skip
      refine ⟨((i0 + 1 : Nat) : Int), w64_id _ (by omega) (by omega), ?_⟩
      exact ⟨by omega, trivial, ⟨rfl, rfl, rfl, rfl, trivial⟩, ⟨rfl, trivial⟩, rfl⟩
  · replace h21 := of_decide_eq_false h21
    have e0 : n * n * n * n = i0 := by omega
    exact ⟨rfl, [], rfl, rfl, ⟨rfl, trivial⟩, rfl, rfl⟩

theorem i_Coalgebra_fault_f_ok (B : Bs P ρ) (E : E_i_Coalgebra_fault P ρ) {n : Nat} {p : Int} {f : By} {a : Nat} (hp : 1 ≤ p) (hp2 : p ≤ 256) (hn : n ≤ 8) (ha : a < n * n * n * n) (hA : ¬ CoaT p n f a) (hL : ∀ t, t < a → CoaT p n f t) :
    CallOK P ρ 108 [.pt 0 0] [⟨true, .by [p, (n : Int)] 522 f⟩] (.one (.sl 1 0 4 4)) [⟨true, .by [p, (n : Int)] 522 f⟩, ⟨false, .rw [.i .i64 ((a / (n * n * n) : Nat) : Int), .i .i64 ((a / (n * n) % n : Nat) : Int), .i .i64 ((a / n % n : Nat) : Int), .i .i64 ((a % n : Nat) : Int)]⟩] := by
  refine call_of_vc B.fn B.mo E.1 rfl rfl ?_
  have hpw := pw hn
  refine ⟨((n * n : Nat) : Int), ml (by omega), ?_⟩
  refine ⟨((n * n * n : Nat) : Int), ml (by omega), ?_⟩
  refine ⟨((n * n * n * n : Nat) : Int), ml (by omega), ?_⟩
  refine .inl ⟨(fun a0 a3 a19 b0 i0 => St.mk [(0, a0), (3, a3), (19, a19), (20, .one (.i .i64 ((i0 : Nat) : Int)))] [b0]) _ _ _ _ , fun i0 => ∀ t, t < i0 → CoaT p n f t, n * n * n * n, fun _ _ => by omega, ⟨⟨rfl, rfl, rfl, rfl, trivial⟩, ⟨rfl, trivial⟩, rfl⟩, fun i0 hi0 hF0 => ?_⟩
  refine ⟨fun h21 => ?_, fun h21 => ?_⟩
  · replace h21 := of_decide_eq_true h21
    have hlt : i0 < n * n * n * n := by omega
    have hd := dig hlt
    refine ⟨((n * n : Nat) : Int), ml (by omega), ?_⟩
    refine ⟨((n * n * n : Nat) : Int), ml (by omega), ?_⟩
    refine ⟨by have : n * n * n ≠ 0 := Nat.ne_of_gt (Nat.mul_pos (Nat.mul_pos hd.1 hd.1) hd.1); omega, ((i0 / (n * n * n) : Nat) : Int), qd (by omega), ?_⟩
    refine ⟨((n * n : Nat) : Int), ml (by omega), ?_⟩
    refine ⟨by have : n * n ≠ 0 := Nat.ne_of_gt (Nat.mul_pos hd.1 hd.1); omega, ((i0 / (n * n) : Nat) : Int), qd (by omega), ?_⟩
    refine ⟨by omega, ((i0 / (n * n) % n : Nat) : Int), rm, ?_⟩
    refine ⟨by omega, ((i0 / n : Nat) : Int), qd (by omega), ?_⟩
    refine ⟨by omega, ((i0 / n % n : Nat) : Int), rm, ?_⟩
    refine ⟨by omega, ((i0 % n : Nat) : Int), rm, ?_⟩
    refine .inl ⟨1, [0], _, _, _, _, [_], rfl, i_Coalgebra_isFault_ok B E.2 hp hp2 hn (i := i0 / (n * n * n)) (j := i0 / (n * n) % n) (k := i0 / n % n) (l := i0 % n) (by omega) (by omega) (by omega) (by omega), rfl, ⟨⟨_, rfl, fun h => by first | rfl | cases h⟩, trivial⟩, rfl, rfl, ?_⟩
    refine ⟨fun h50 => ?_, fun h50 => ?_⟩
    · skip
      have q : ¬ CoaT p n f i0 := dec_elim_t h50
      have e : i0 = a := by
        rcases Nat.lt_trichotomy i0 a with e | e | e
        · exact (q (hL i0 e)).elim
        · exact e
        · exact (hA (hF0 a e)).elim
      refine ⟨1, rfl, ?_⟩
      refine ⟨rfl, [1], rfl, rfl, ⟨rfl, ?_, trivial⟩, rfl, rfl⟩
      show some (Blk.mk false (.rw [.i .i64 ((i0 / (n * n * n) : Nat) : Int), .i .i64 ((i0 / (n * n) % n : Nat) : Int), .i .i64 ((i0 / n % n : Nat) : Int), .i .i64 ((i0 % n : Nat) : Int)])) = some (Blk.mk false (.rw [.i .i64 ((a / (n * n * n) : Nat) : Int), .i .i64 ((a / (n * n) % n : Nat) : Int), .i .i64 ((a / n % n : Nat) : Int), .i .i64 ((a % n : Nat) : Int)]))
      rw [e]
    · skip
      have q : CoaT p n f i0 := Classical.not_not.1 (dec_elim_t' h50)
      refine ⟨((i0 + 1 : Nat) : Int), w64_id _ (by omega) (by omega), ?_⟩
      refine ⟨by omega, ?_, ⟨rfl, rfl, rfl, rfl, trivial⟩, ⟨rfl, trivial⟩, rfl⟩
      intro t ht
      by_cases e : t = i0
      · rw [e]; exact q
      · exact hF0 t (by omega)
  · replace h21 := of_decide_eq_false h21
    have e0 : n * n * n * n = i0 := by omega
    exact (hA (hF0 a (by omega))).elim


end Hf
namespace Hf
open Go Classical
variable {P : Program} {ρ : Nat → FuncId}
theorem sm_8n {n : Nat} {x : Nat → Int} (hn : n ≤ 8) (h : ∀ i, n ≤ i → i < 8 → x i = 0) : sm 8 x = sm n x := sm_ext hn h

theorem i_Coalgebra_isCounit_ok (B : Bs P ρ) (E : E_i_Coalgebra_isCounit P ρ) {n : Nat} {p : Int} {f : By} (hp : 1 ≤ p) (hp2 : p ≤ 256) (hn : n ≤ 8) (hv : ∀ i, n ≤ i → i < 8 → bz f (2 + i) = 0) :
    CallOK P ρ 107 [.pt 0 0] [⟨true, .by [p, (n : Int)] 522 f⟩] (.one (.b (decide (∀ i, i < n → Cou p n f i)))) [⟨true, .by [p, (n : Int)] 522 f⟩] := by
  refine call_of_vc B.fn B.mo E.1 rfl rfl ?_
  refine .inl ⟨1, [0], _, _, _, _, [_], rfl, i_Coalgebra_field_ok B E.2.1 , rfl, ⟨⟨_, rfl, fun h => by first | rfl | cases h⟩, trivial⟩, rfl, rfl, ?_⟩
  refine ⟨1, rfl, ?_⟩
  refine .inl ⟨(fun a0 a11 b0 b1 i0 => St.mk [(0, a0), (3, .one (.pt 1 0)), (11, a11), (12, .one (.i .i64 ((i0 : Nat) : Int)))] [b0, b1]) _ _ _ _ , fun i0 => ∀ i, i < i0 → Cou p n f i, n, fun _ _ => by omega, ⟨⟨rfl, rfl, rfl, rfl, trivial⟩, ⟨rfl, rfl, trivial⟩, rfl⟩, fun i0 hi0 hF0 => ?_⟩
  refine ⟨fun h13 => ?_, fun h13 => ?_⟩
  · replace h13 := of_decide_eq_true h13
    refine ⟨2, rfl, ?_⟩
    refine ⟨3, rfl, ?_⟩
    refine ⟨⟨rfl, by first | omega | (simp <;> omega), by first | omega | (simp <;> omega)⟩, ?_⟩   -- sta ['.t', 5] ['.t', 15] 8
    refine ⟨⟨rfl, by first | omega | (simp <;> omega), by first | omega | (simp <;> omega)⟩, ?_⟩   -- sta ['.t', 6] ['.t', 16] 8
    refine .inl ⟨(fun a0 a4 a11 a12 a18 b0 b1 i1 => St.mk [(0, a0), (3, .one (.pt 1 0)), (4, a4), (5, .one (.pt 2 0)), (6, .one (.pt 3 0)), (11, a11), (12, a12), (18, a18), (19, .one (.i .i64 ((i1 : Nat) : Int)))] [b0, b1, Blk.mk false (.by [] 8 (vec 8 p fun x => cuL i1 f i0 x)), Blk.mk false (.by [] 8 (vec i1 p (cuR n f i0)))]) _ _ _ _ _ _ _ , fun i1 => True, n, trivial, ⟨⟨rfl, rfl, rfl, rfl, rfl, rfl, rfl, rfl, rfl, trivial⟩, ⟨rfl, rfl, ?_, ?_, trivial⟩, rfl⟩, fun i1 hi1 _ => ?_⟩
    · refine blk_by ?_
      rw [z_sta]
      exact vec_0.symm
    · refine blk_by ?_
      rw [z_sta]
      rfl
    refine ⟨fun h20 => ?_, fun h20 => ?_⟩
    · replace h20 := of_decide_eq_true h20
      have q0 := bz_nn f (2 + i1)
      have q1 := bz_le f (2 + i1)
      refine ⟨i1, 2 + i1, rfl, by omega, by omega, ?_⟩
      refine ⟨⟨by first | omega | (simp <;> omega), by first | omega | (simp <;> omega)⟩, ?_⟩
      refine ⟨i0, 10 + i0 * 64, rfl, by omega, by omega, ?_⟩
      refine ⟨i1, 10 + i0 * 64 + i1 * 8, rfl, by omega, by omega, ?_⟩
      refine ⟨⟨by first | omega | (simp <;> omega), by first | omega | (simp <;> omega)⟩, ?_⟩
      refine .inl ⟨4, [2], _, _, _, _, [_, _, _, _], rfl, i_field_plus_ok B E.2.2.1 (k := bz f (2 + i1)) hp (by omega) (by simp) (by omega) (by omega) (by omega) (bz_vec_lt' hp hp2), rfl, ⟨⟨_, rfl, fun h => by first | rfl | cases h⟩, trivial⟩, rfl, rfl, ?_⟩
      refine ⟨⟨by first | omega | (simp <;> omega), by first | omega | (simp <;> omega)⟩, ?_⟩
      refine ⟨i0, 10 + i0 * 64, rfl, by omega, by omega, ?_⟩
      refine ⟨i1, 10 + i0 * 64 + i1 * 8, rfl, by omega, by omega, ?_⟩
      refine ⟨⟨by first | omega | (simp <;> omega), by first | omega | (simp <;> omega)⟩, ?_⟩
      refine ⟨4, [], _, _, _, _, [_, _, _, _], rfl, i_field_dot_ok B E.2.2.2.1 hp (by omega), rfl, trivial, rfl, rfl, rfl, ?_⟩
      refine ⟨i1, i1, rfl, by omega, by omega, ?_⟩
      refine ⟨⟨by first | omega | (simp <;> omega), by first | omega | (simp <;> omega)⟩, ?_⟩   -- st8 ['.t', 55] ['.t', 54]
      refine ⟨((i1 + 1 : Nat) : Int), w64_id _ (by omega) (by omega), ?_⟩
      refine ⟨by omega, trivial, ⟨rfl, rfl, rfl, rfl, rfl, rfl, rfl, rfl, rfl, trivial⟩, ⟨rfl, rfl, ?_, ?_, trivial⟩, rfl⟩
      · refine blk_by ?_
        rw [pl_vec0 hp hp2]
        exact vec_congr fun y _ => cg_of_eq rfl
      · refine blk_by (upd_vec ?_).symm
        congr 2
        exact sm_8n hn fun k h1 h2 => by rw [bz_sh, hv k h1 h2, Int.zero_mul]
    · replace h20 := of_decide_eq_false h20
      have e1 : n = i1 := by omega
      subst e1
      refine ⟨⟨by first | omega | (simp <;> omega), by first | omega | (simp <;> omega)⟩, ?_⟩
      refine ⟨4, [], _, _, _, _, [_, _, _, _], rfl, i_basis_ok B E.2.2.2.2 (i := i0) (by omega), rfl, trivial, rfl, rfl, rfl, ?_⟩
      refine ⟨fun h61 => ?_, fun h61 => ?_⟩
      · skip
        have z61 := neB_t h61
        rw [sh_zero] at z61
        refine brB_t ?_
        refine brB_t ?_
        refine brB_t ?_
        refine brB_t ?_
        refine brB_t ?_
        refine ⟨rfl, [], ?_, rfl, ⟨rfl, trivial⟩, rfl, rfl⟩
        exact one_b (dec_f fun q => z61 fun x _ => congrFun (q i0 (by omega)).1 x)
      · skip
        have z61 := neB_f h61
        rw [sh_zero] at z61
        refine ⟨⟨by first | omega | (simp <;> omega), by first | omega | (simp <;> omega)⟩, ?_⟩
        refine brB_f ?_
        refine brB_f ?_
        refine ⟨4, [], _, _, _, _, [_, _, _, _], rfl, i_basis_ok B E.2.2.2.2 (i := i0) (by omega), rfl, trivial, rfl, rfl, rfl, ?_⟩
        refine brB_f ?_
        refine brB_f ?_
        refine ⟨fun h66 => ?_, fun h66 => ?_⟩
        · skip
          have z66 := neB_t h66
          rw [sh_zero] at z66
          refine ⟨rfl, [], ?_, rfl, ⟨rfl, trivial⟩, rfl, rfl⟩
          exact one_b (dec_f fun q => z66 fun x _ => congrFun (q i0 (by omega)).2 x)
        · skip
          have z66 := neB_f h66
          rw [sh_zero] at z66
          refine ⟨((i0 + 1 : Nat) : Int), w64_id _ (by omega) (by omega), ?_⟩
          refine ⟨by omega, ?_, ⟨rfl, rfl, rfl, rfl, trivial⟩, ⟨rfl, rfl, trivial⟩, rfl⟩
          intro k hk
          by_cases e : k = i0
          · subst e
            refine ⟨vec_ext (bas_out (by omega)) z61, ?_⟩
            funext x
            by_cases hx : x < 8
            · exact z66 x hx
            · rw [vec_out (by omega), bas_out (by omega) x (by omega)]
          · exact hF0 k (by omega)
  · replace h13 := of_decide_eq_false h13
    have e0 : n = i0 := by omega
    subst e0
    refine ⟨rfl, [], ?_, rfl, ⟨rfl, trivial⟩, rfl, rfl⟩
    exact one_b (dec_t hF0)

theorem i_IsCoalgebra_s_ok (B : Bs P ρ) (E : E_i_IsCoalgebra P ρ) {n : Int} {p : Int} {f : By} (hS : ¬ CShp p n f) :
    CallOK P ρ 106 [.ag [p, n] 522 f] [] (.one (.b false)) [] := by
  refine call_of_vc B.fn B.mo E.1 rfl rfl ?_
  refine ⟨0, rfl, ?_⟩
  refine .inl ⟨1, [0], _, _, _, _, [_], rfl, i_Coalgebra_isShaped_ok B E.2.1 , rfl, ⟨⟨_, rfl, fun h => by first | rfl | cases h⟩, trivial⟩, rfl, rfl, ?_⟩
  refine ⟨fun h4 => ?_, fun h4 => ?_⟩
  · skip
    have q : Shp p n ∧ Vec p n f 2 ∧ Tab p n f 10 := dec_elim_t h4
    exact (hS q).elim
  · skip
    refine brB_f ?_
    refine brB_f ?_
    refine brB_f ?_
    refine brB_f ?_
    exact ⟨rfl, [], rfl, rfl, trivial, rfl, rfl⟩

theorem i_IsCoalgebra_t_ok (B : Bs P ρ) (E : E_i_IsCoalgebra P ρ) {n : Nat} {p : Int} {f : By} (hS : CShp p n f) (hA : ∀ t : Nat, t < n * n * n * n → CoaT p n f t) :
    CallOK P ρ 106 [.ag [p, (n : Int)] 522 f] [] (.one (.b (decide (∀ i, i < n → Cou p n f i)))) [] := by
  refine call_of_vc B.fn B.mo E.1 rfl rfl ?_
  refine ⟨0, rfl, ?_⟩
  refine .inl ⟨1, [0], _, _, _, _, [_], rfl, i_Coalgebra_isShaped_ok B E.2.1 , rfl, ⟨⟨_, rfl, fun h => by first | rfl | cases h⟩, trivial⟩, rfl, rfl, ?_⟩
  refine ⟨fun h4 => ?_, fun h4 => ?_⟩
  · skip
    have hb := AShp.p1 hS
    have hv : ∀ i, n ≤ i → i < 8 → bz f (2 + i) = 0 := fun i h1 h2 => (hS.2.1 i h2).2 (by omega)
    refine .inl ⟨1, [0], _, _, _, _, [_], rfl, i_Coalgebra_isCounit_ok B E.2.2.1 (by omega) (by omega) (by omega) hv, rfl, ⟨⟨_, rfl, fun h => by first | rfl | cases h⟩, trivial⟩, rfl, rfl, ?_⟩
    refine brB_t ?_
    refine ⟨fun h7 => ?_, fun h7 => ?_⟩
    · skip
      refine .inl ⟨1, [0], _, _, _, _, [_], rfl, i_Coalgebra_fault_t_ok B E.2.2.2 (by omega) (by omega) (by omega) hA, rfl, ⟨⟨_, rfl, fun h => by first | rfl | cases h⟩, trivial⟩, rfl, rfl, ?_⟩
      refine brB_t ?_
      refine brB_t ?_
      refine ⟨rfl, [], ?_, rfl, trivial, rfl, rfl⟩
      exact one_b h7.symm
    · skip
      refine brB_f ?_
      refine brB_f ?_
      refine ⟨rfl, [], ?_, rfl, trivial, rfl, rfl⟩
      exact one_b h7.symm
  · skip
    have q : ¬ (Shp p n ∧ Vec p n f 2 ∧ Tab p n f 10) := dec_elim_t' h4
    exact (q hS).elim

theorem i_IsCoalgebra_f_ok (B : Bs P ρ) (E : E_i_IsCoalgebra P ρ) {n : Nat} {p : Int} {f : By} {a : Nat} (hS : CShp p n f) (ha : a < n * n * n * n) (hA : ¬ CoaT p n f a) (hL : ∀ t, t < a → CoaT p n f t) :
    CallOK P ρ 106 [.ag [p, (n : Int)] 522 f] [] (.one (.b false)) [] := by
  refine call_of_vc B.fn B.mo E.1 rfl rfl ?_
  refine ⟨0, rfl, ?_⟩
  refine .inl ⟨1, [0], _, _, _, _, [_], rfl, i_Coalgebra_isShaped_ok B E.2.1 , rfl, ⟨⟨_, rfl, fun h => by first | rfl | cases h⟩, trivial⟩, rfl, rfl, ?_⟩
  refine ⟨fun h4 => ?_, fun h4 => ?_⟩
  · skip
    have hb := AShp.p1 hS
    have hv : ∀ i, n ≤ i → i < 8 → bz f (2 + i) = 0 := fun i h1 h2 => (hS.2.1 i h2).2 (by omega)
    refine .inl ⟨1, [0], _, _, _, _, [_], rfl, i_Coalgebra_isCounit_ok B E.2.2.1 (by omega) (by omega) (by omega) hv, rfl, ⟨⟨_, rfl, fun h => by first | rfl | cases h⟩, trivial⟩, rfl, rfl, ?_⟩
    refine brB_t ?_
    refine ⟨fun h7 => ?_, fun h7 => ?_⟩
    · skip
      refine .inl ⟨1, [0], _, _, _, _, [_, _], rfl, i_Coalgebra_fault_f_ok B E.2.2.2 (by omega) (by omega) (by omega) ha hA hL, rfl, ⟨⟨_, rfl, fun h => by first | rfl | cases h⟩, trivial⟩, rfl, rfl, ?_⟩
      refine brB_t ?_
      refine brB_t ?_
      exact ⟨rfl, [], rfl, rfl, trivial, rfl, rfl⟩
    · skip
      refine brB_f ?_
      refine brB_f ?_
      exact ⟨rfl, [], rfl, rfl, trivial, rfl, rfl⟩
  · skip
    have q : ¬ (Shp p n ∧ Vec p n f 2 ∧ Tab p n f 10) := dec_elim_t' h4
    exact (q hS).elim

theorem i_IsCoalgebra_ok (B : Bs P ρ) (E : E_i_IsCoalgebra P ρ) {n : Int} {p : Int} {f : By} :
    CallOK P ρ 106 [.ag [p, n] 522 f] [] (.one (.b (decide (Cog p n f)))) [] := by
  by_cases hS : CShp p n f
  · obtain ⟨m, rfl⟩ : ∃ m : Nat, n = (m : Int) := ⟨n.toNat, by have := hS.1.2.1; omega⟩
    by_cases hA : ∀ t : Nat, t < m * m * m * m → CoaT p m f t
    · have e : decide (Cog p m f) = decide (∀ i, i < m → Cou p m f i) :=
        decide_eq_decide.2 ⟨fun q i hi => q.2.1 i (by omega), fun q => ⟨hS, fun i hi => q i (by omega), hA⟩⟩
      rw [e]; exact i_IsCoalgebra_t_ok B E hS hA
    · rw [decide_eq_false fun q : Cog p m f => hA q.2.2]
      obtain ⟨a, ⟨h1, h2⟩, h3⟩ := least (q := fun t => t < m * m * m * m ∧ ¬ CoaT p m f t) (by
        simp only [Classical.not_forall] at hA
        obtain ⟨t, ht, h⟩ := hA
        exact ⟨t, ht, h⟩)
      exact i_IsCoalgebra_f_ok B E hS h1 h2 fun t ht => Classical.byContradiction fun q => h3 t ht ⟨by omega, q⟩
  · rw [decide_eq_false fun q : Cog p n f => hS q.1]
    exact i_IsCoalgebra_s_ok B E hS

end Hf
namespace Hf
open Go Classical
variable {P : Program} {ρ : Nat → FuncId}
theorem mvp_id {T : Nat → Nat} (h : ∀ k, T k = k) (p : Nat × Nat) : mvp T p = p := by simp [mvp, h]
theorem mva_id {T : Nat → Nat} (h : ∀ k, T k = k) : ∀ a : At, mva T a = a
  | .pt k off => by simp [mva, h]
  | .sl k off l c => by simp [mva, h]
  | .fn f a b => by
    have e : ∀ l : List (Nat × Nat), l.map (mvp T) = l := fun l => by
      induction l with
      | nil => rfl
      | cons x r ih => simp [mvp_id h, ih]
    simp [mva, e]
  | .i _ _ | .u _ | .b _ | .ag _ _ _ | .np | .sn | .ac _ => rfl
theorem map_id' {α : Type} {F : α → α} (h : ∀ a, F a = a) (l : List α) : l.map F = l := by
  induction l with
  | nil => rfl
  | cons x r ih => simp [h, ih]
theorem mvb_id {T : Nat → Nat} (h : ∀ k, T k = k) : ∀ b : Bk, mvb T b = b
  | .by _ _ _ => rfl
  | .gs _ _ => rfl
  | .fo _ _ => rfl
  | .vr a => by simp [mvb, mva_id h]
  | .rw l => by simp [mvb, map_id' (mva_id h)]

def roK : List Blk → List Blk → Prop
  | [], [] => True
  | B :: r, B' :: r' => (if B.ro = true then B' = B else B'.ro = false) ∧ roK r r'
  | _, _ => False
theorem roK_len : ∀ {H G : List Blk}, roK H G → G.length = H.length
  | [], [], _ => rfl
  | _ :: _, _ :: _, h => by simp [roK_len h.2]

theorem back_id {T : Nat → Nat} (h : ∀ k, T k = k) : ∀ {Bs Bs' pre : List Blk}, roK Bs Bs' → back T (List.range' pre.length Bs.length) Bs Bs' (pre ++ Bs) = pre ++ Bs'
  | [], [], pre, _ => by simp [back]
  | B :: r, B' :: r', pre, hr => by
    rw [List.length_cons, List.range'_succ]
    simp only [back]
    by_cases hb : B.ro = true
    · rw [if_pos hb]
      have e := hr.1
      rw [if_pos hb] at e
      subst e
      have := back_id h (pre := pre ++ [B']) hr.2
      simpa using this
    · rw [if_neg hb]
      have e := hr.1
      rw [if_neg hb] at e
      have := back_id h (pre := pre ++ [B']) hr.2
      have es : (pre ++ B :: r).set pre.length ⟨false, mvb T B'.c⟩ = (pre ++ [B']) ++ r := by
        rw [mvb_id h]
        have : (⟨false, B'.c⟩ : Blk) = B' := by rw [← e]
        rw [this]
        simp
      rw [es]
      simpa using this
theorem emb_id {T : Nat → Nat} (h : ∀ k, T k = k) : ∀ {Bs pre : List Blk}, emb T (pre ++ Bs) (List.range' pre.length Bs.length) Bs
  | [], pre => by simp [emb]
  | B :: r, pre => by
    rw [List.length_cons, List.range'_succ]
    simp only [emb]
    refine ⟨⟨B.ro, by rw [mvb_id h]; simp, fun h => h⟩, ?_⟩
    have := emb_id h (Bs := r) (pre := pre ++ [B])
    simpa using this
theorem apart_id : ∀ {Bs : List Blk} {i : Nat}, apart (List.range' i Bs.length) Bs = true
  | [], i => by simp [apart]
  | B :: r, i => by
    rw [List.length_cons, List.range'_succ]
    simp only [apart, Bool.and_eq_true, List.all_eq_true]
    refine ⟨fun p hp => ?_, apart_id⟩
    have := (List.of_mem_zip (a := p.1) (b := p.2) hp).1
    rw [List.mem_range'_1] at this
    simp only [Bool.or_eq_true, bne_iff_ne, ne_eq]
    exact .inr (by omega)

/-- a call to which all blocks are handed as they stand -/
theorem vcall_ids {as : List At} {H H' : List Blk} (hr : roK H H') : as = as.map (mva (tau (List.range' 0 H.length) H.length)) ∧ emb (tau (List.range' 0 H.length) H.length) H (List.range' 0 H.length) H ∧
    apart (List.range' 0 H.length) H = true ∧ back (tau (List.range' 0 H.length) H.length) (List.range' 0 H.length) H H' H ++ (H'.drop H.length).map (fun B => ⟨B.ro, mvb (tau (List.range' 0 H.length) H.length) B.c⟩) = H' := by
  have hT : ∀ k, tau (List.range' 0 H.length) H.length k = k := by
    intro k
    by_cases hk : k < H.length
    · rw [tau_lt (t := k) (by simp [hk])]
    · rw [tau_ge (by simp; omega)]; simp; omega
  refine ⟨(map_id' (mva_id hT) as).symm, emb_id hT (pre := []), apart_id, ?_⟩
  have := back_id hT (pre := []) hr
  simp only [List.nil_append, List.length_nil] at this
  rw [this, List.drop_of_length_le (by rw [roK_len hr]; omega)]
  simp

theorem mvp_fix {T : Nat → Nat} {m : Nat} (h : ∀ k, k < m → T k = k) : ∀ {l : List (Nat × Nat)}, l.all (fun p => decide (p.1 < m)) = true → l.map (mvp T) = l
  | [], _ => rfl
  | p :: r, e => by
    simp only [List.all_cons, Bool.and_eq_true, decide_eq_true_eq] at e
    rw [List.map_cons, mvp_fix h (l := r) e.2]
    simp [mvp, h _ e.1]
theorem mva_fix {T : Nat → Nat} {m : Nat} (h : ∀ k, k < m → T k = k) : ∀ {a : At}, a.lt m = true → mva T a = a
  | .pt k off, e => by simp only [At.lt, decide_eq_true_eq] at e; simp [mva, h k e]
  | .sl k off l c, e => by simp only [At.lt, decide_eq_true_eq] at e; simp [mva, h k e]
  | .fn f a b, e => by
    simp only [At.lt, Bool.and_eq_true] at e
    simp only [mva]
    rw [mvp_fix h e.1, mvp_fix h e.2]
  | .i _ _, _ | .u _, _ | .b _, _ | .ag _ _ _, _ | .np, _ | .sn, _ | .ac _, _ => rfl
theorem mvb_fix {T : Nat → Nat} {m : Nat} (h : ∀ k, k < m → T k = k) : ∀ {b : Bk}, b.lt m = true → mvb T b = b
  | .by _ _ _, _ => rfl
  | .gs _ _, _ => rfl
  | .fo _ _, _ => rfl
  | .vr a, e => by simp only [Bk.lt, Bool.and_eq_true] at e; simp [mvb, mva_fix h e.1]
  | .rw l, e => by
    simp only [Bk.lt, List.all_eq_true, Bool.and_eq_true] at e
    have : l.map (mva T) = l := by
      have : ∀ l : List At, (∀ a ∈ l, a.lt m = true) → l.map (mva T) = l := fun l => by
        induction l with
        | nil => intro _; rfl
        | cons x r ih => intro h2; rw [List.map_cons, ih fun a ha => h2 a (by simp [ha]), mva_fix h (h2 x (by simp))]
      exact this l fun a ha => (e a ha).1
    simp [mvb, this]
theorem leH_rfl : ∀ {l : List Blk}, leH l l
  | [] => trivial
  | _ :: _ => ⟨rfl, leH_rfl⟩

end Hf
namespace Hf
open Go Classical
variable {P : Program} {ρ : Nat → FuncId}
def mu (f : By) (a b c : Nat) : Int := bz f (10 + a * 64 + b * 8 + c)

end Hf
namespace Hf
open Go Classical
variable {P : Program} {ρ : Nat → FuncId}
theorem HShp.b {p : Int} {n : Nat} {f : By} (h : HShp p n f) : 2 ≤ p ∧ p ≤ 31 ∧ 1 ≤ n ∧ n ≤ 8 := ⟨h.1.1.1, h.1.1.2.1, by have := h.1.2.1; omega, by have := h.1.2.2; omega⟩
theorem Tab.z {p : Int} {n : Nat} {f : By} {o i j k : Nat} (h : Tab p n f o) (hi : i < 8) (hj : j < 8) (hk : k < 8) (hz : n ≤ i ∨ n ≤ j ∨ n ≤ k) : bz f (o + i * 64 + j * 8 + k) = 0 := by
  obtain ⟨h1, h2⟩ := h i hi
  rcases hz with hz | hz | hz
  · have := h2 (by omega) (j * 8 + k) (by omega)
    rw [← Nat.add_assoc] at this; exact this
  · exact (h1 j hj).2 (by omega) k hk
  · exact ((h1 j hj).1 k hk).2 (by omega)
theorem HShp.unit {p : Int} {n : Nat} {f : By} (h : HShp p n f) {k : Nat} (h1 : n ≤ k) (h2 : k < 8) : bz f (2 + k) = 0 := (h.2.1 k h2).2 (by omega)
theorem HShp.mul {p : Int} {n : Nat} {f : By} (h : HShp p n f) {i j k : Nat} (hi : i < 8) (hj : j < 8) (hk : k < 8) (hz : n ≤ i ∨ n ≤ j ∨ n ≤ k) : bz f (10 + i * 64 + j * 8 + k) = 0 := h.2.2.1.z hi hj hk hz
/-- the product of two tables: they stand at oa and ob -/
def tns (n : Nat) (f fa fb : By) (oa ob z : Nat) : Int := sm n fun a => sm n fun b => mu f a b (z / 8) * prd n f 10 (sh fa (oa + a * 8)) (sh fb (ob + b * 8)) (z % 8)
/-- the axioms of a Hopf algebra -/
def Ax3 (p : Int) (n : Nat) (f : By) (i j : Nat) : Prop := vec 64 p (cop n f 530 (sh f (10 + i * 64 + j * 8))) = vec 64 p (tns n f f f (530 + i * 64) (530 + j * 64))
def Ax4 (p : Int) (n : Nat) (f : By) : Prop := vec 64 p (cop n f 530 (sh f 2)) = vec 64 p fun y => bz f (2 + y / 8) * bz f (2 + y % 8)
def ctu (n : Nat) (f v : By) : Int := sm n fun k => bz f (522 + k) * bz v k
def Ax5 (p : Int) (n : Nat) (f : By) (i j : Nat) : Prop := ctu n f (sh f (10 + i * 64 + j * 8)) % p = bz f (522 + i) * bz f (522 + j) % p
def prS (n : Nat) (f : By) (b : Bool) (j k : Nat) : Nat → Int := if b = true then prd n f 10 (sh f (1042 + j * 8)) (bas k) else prd n f 10 (bas j) (sh f (1042 + k * 8))
def fld (n : Nat) (f : By) (b : Bool) (i y : Nat) : Int := sm n fun j => sm n fun k => bz f (530 + i * 64 + j * 8 + k) * prS n f b j k y
def AxS (p : Int) (n : Nat) (f : By) (b : Bool) (i : Nat) : Prop := vec 8 p (fld n f b i) = vec 8 p fun y => bz f (522 + i) * bz f (2 + y)
end Hf
namespace Hf
open Go Classical
variable {P : Program} {ρ : Nat → FuncId}
theorem pk_id {m : Nat} : ∀ k, k < m → pk m [] k = k := fun k hk => by simp [pk, hk]
theorem sel_id {T : Nat → Nat} {m : Nat} (hT : ∀ k, k < m → T k = k) : ∀ (n : Nat) (pre Bs : List Blk), pre.length = n → (∀ b ∈ Bs, b.c.lt m = true) → sel T (pre ++ Bs) (List.range' n Bs.length) Bs := by
  intro n pre Bs
  induction Bs generalizing n pre with
  | nil => intro _ _; simp [sel]
  | cons b r ih =>
    intro hp hb
    rw [List.length_cons, List.range'_succ]
    refine ⟨?_, ?_⟩
    · subst hp
      have : mvb T b.c = b.c := mvb_fix hT (hb b (by simp))
      rw [this]; simp
    · have := ih (n + 1) (pre ++ [b]) (by simp [hp]) fun x hx => hb x (by simp [hx])
      simpa using this
theorem mvs_fix {T : Nat → Nat} {m : Nat} (h : ∀ k, k < m → T k = k) : ∀ {v : Sv}, v.lt m = true → mvs T v = v
  | .one a, e => by simp only [mvs]; rw [mva_fix h e]
  | .tup l, e | .rc l, e => by
    simp only [Sv.lt, List.all_eq_true] at e
    have : ∀ l : List At, (∀ a ∈ l, a.lt m = true) → l.map (mva T) = l := fun l => by
      induction l with
      | nil => intro _; rfl
      | cons x r ih => intro h2; rw [List.map_cons, ih fun a ha => h2 a (by simp [ha]), mva_fix h (h2 x (by simp))]
    simp only [mvs]; rw [this l e]
theorem fin_id {H : List Blk} {fr : List (Nat × Sv)} {v : Sv} (hv : v.lt H.length = true) (hH : H.all (fun b => b.c.lt H.length) = true) : fin H.length ⟨fr, H⟩ v v H := by
  refine ⟨[], (mvs_fix pk_id hv).symm, hv, ?_, rfl, hH⟩
  have := sel_id (T := pk H.length []) (m := H.length) pk_id 0 [] H rfl (List.all_eq_true.1 hH)
  simpa [List.range_eq_range'] using this

/-- a call under another numbering of the blocks -/
theorem CallOK.emb {f : Nat} {as args : List At} {Hc Hc' H H' : List Blk} {v v' : Sv} (h : CallOK P ρ f as Hc v Hc') (τ : List Nat) (ha : args = as.map (mva (tau τ H.length))) (he : emb (tau τ H.length) H τ Hc) (hp : apart τ Hc = true)
    (hv : mvs (tau τ H.length) v = v') (hb : back (tau τ H.length) τ Hc Hc' H ++ (Hc'.drop Hc.length).map (fun B => ⟨B.ro, mvb (tau τ H.length) B.c⟩) = H') : CallOK P ρ f args H v' H' := by
  intro σ w hh
  have hc : vcall P ρ H f args (fun u G => u = v' ∧ G = H') := ⟨H.length, τ, as, Hc, v, Hc', H', rfl, h, ha, he, hp, hb, hv, rfl⟩
  refine (call_sound hh hc).mono ?_
  rintro e w' ⟨u, G, σ', rfl, ⟨rfl, rfl⟩, sp, hl⟩
  exact ⟨σ', rfl, sp, hl⟩

theorem x_IndexFunc_nil (B : Bs P ρ) (E : E_x_IndexFunc_V P ρ) {g : Nat} {caps : List (Nat × Nat)} {C : List Blk} (hcaps : ∀ q ∈ caps, q.1 < C.length) (hlt : C.all (fun b => b.c.lt C.length) = true) :
    CallOK P ρ 91 [.sn, .fn g [] caps] C (.one (.i .i64 (-1))) C := by
  have hfn : (At.fn g [] caps).lt C.length = true := by
    simp only [At.lt, List.all_nil, Bool.true_and, List.all_eq_true, decide_eq_true_eq]
    exact hcaps
  refine call_of_vc B.fn B.mo E rfl (by simp [hfn]; simp [At.lt]) ?_
  refine .inl ⟨fun i0 => St.mk [(7, .one (.i .i64 0)), (8, .one (.i .i64 (i0 : Nat)))] C, fun _ => True, 0, trivial, ⟨⟨rfl, rfl, trivial⟩, leH_rfl, ?_⟩, fun i0 hi0 _ => ?_⟩
  · simp only [cloS, Bool.and_eq_true]
    exact ⟨⟨Nat.ble_eq_true_of_le (Nat.le_refl _), rfl⟩, hlt⟩
  refine ⟨fun h9 => ?_, fun h9 => ?_⟩
  · have h9 := of_decide_eq_true h9
    omega
  · exact ⟨rfl, fin_id rfl hlt⟩

/-- the first place at which q holds, or -1 -/
def firstQ (q : Nat → Bool) : Nat → Nat → Int
  | 0, _ => -1
  | n + 1, i => if q i = true then (i : Int) else firstQ q n (i + 1)
theorem firstQ_none {q : Nat → Bool} : ∀ {n i : Nat}, (∀ j, i ≤ j → j < i + n → q j = false) → firstQ q n i = -1
  | 0, _, _ => rfl
  | n + 1, i, h => by
    simp only [firstQ]
    rw [if_neg (by rw [h i (Nat.le_refl _) (by omega)]; simp), firstQ_none fun j h1 h2 => h j (by omega) (by omega)]
theorem firstQ_some {q : Nat → Bool} {k : Nat} : ∀ {n i : Nat}, i ≤ k → k < i + n → q k = true → (∀ j, i ≤ j → j < k → q j = false) → firstQ q n i = (k : Int)
  | 0, _, h1, h2, _, _ => by omega
  | n + 1, i, h1, h2, h3, h4 => by
    simp only [firstQ]
    by_cases e : i = k
    · subst e; rw [if_pos h3]
    · rw [if_neg (by rw [h4 i (Nat.le_refl _) (by omega)]; simp), firstQ_some (by omega) (by omega) h3 fun j h5 h6 => h4 j (by omega) h6]
theorem firstQ_nn {q : Nat → Bool} : ∀ {n i : Nat}, (0 ≤ firstQ q n i ↔ ∃ j, i ≤ j ∧ j < i + n ∧ q j = true)
  | 0, i => by simp only [firstQ]; constructor
               · intro h; omega
               · rintro ⟨j, h1, h2, -⟩; omega
  | n + 1, i => by
    simp only [firstQ]
    by_cases h : q i = true
    · rw [if_pos h]; exact ⟨fun _ => ⟨i, Nat.le_refl _, by omega, h⟩, fun _ => by omega⟩
    · rw [if_neg h, firstQ_nn]
      constructor
      · rintro ⟨j, h1, h2, h3⟩; exact ⟨j, by omega, by omega, h3⟩
      · rintro ⟨j, h1, h2, h3⟩
        refine ⟨j, ?_, by omega, h3⟩
        rcases Nat.eq_or_lt_of_le h1 with e | e
        · subst e; exact (h h3).elim
        · omega

theorem x_ContainsFunc_nil (B : Bs P ρ) (E : E_x_ContainsFunc_V P ρ) {g : Nat} {caps : List (Nat × Nat)} {C : List Blk} (hcaps : ∀ q ∈ caps, q.1 < C.length) (hlt : C.all (fun b => b.c.lt C.length) = true) (hC : C.all (·.ro) = true) :
    CallOK P ρ 70 [.sn, .fn g [] caps] C (.one (.b false)) C := by
  have hfn : (At.fn g [] caps).lt C.length = true := by
    simp only [At.lt, List.all_nil, Bool.true_and, List.all_eq_true, decide_eq_true_eq]
    exact hcaps
  have hro : roK C C := by
    have : ∀ l : List Blk, l.all (·.ro) = true → roK l l := fun l => by
      induction l with
      | nil => intro _; trivial
      | cons b r ih => intro h; simp only [List.all_cons, Bool.and_eq_true] at h; exact ⟨by rw [if_pos h.1], ih h.2⟩
    exact this _ hC
  refine call_of_vc B.fn B.mo E.1 rfl (by simp [hfn]; simp [At.lt]) ?_
  obtain ⟨w1, w2, w3, w4⟩ := vcall_ids (as := [.sn, .fn g [] caps]) hro
  refine .inl ⟨_, _, _, _, _, _, _, rfl, x_IndexFunc_nil B E.2 hcaps hlt, w1, w2, w3, w4, ?_⟩
  exact ⟨rfl, fin_id rfl hlt⟩
end Hf
namespace Hf
open Go Classical
variable {P : Program} {ρ : Nat → FuncId}
/-- the seven axioms, counted from 0 -/
def AxN (p : Int) (n : Nat) (f : By) : Nat → Prop
  | 0 => Alg p n f
  | 1 => Cog p n (sh f 520)
  | 2 => ∀ i j, i < n → j < n → Ax3 p n f i j
  | 3 => Ax4 p n f
  | 4 => (∀ i j, i < n → j < n → Ax5 p n f i j) ∧ ctu n f (sh f 2) % p = 1
  | 5 => ∀ i, i < n → AxS p n f true i
  | _ => ∀ i, i < n → AxS p n f false i

/-- a Hopf algebra -/
def Hop (p n : Int) (f : By) : Prop := HShp p n f ∧ ∀ i, i < 7 → AxN p n.toNat f i

theorem i_unless_ok (B : Bs P ρ) (E : E_i_unless P ρ) {b : Bool} {c : Int} :
    CallOK P ρ 49 [.b b, .i .i64 c] [] (.one (.i .i64 (if b = true then 0 else c))) [] := by
  refine call_of_vc B.fn B.mo E rfl rfl ?_
  refine ⟨fun h5 => ?_, fun h5 => ?_⟩
  · skip
    refine ⟨rfl, [], ?_, rfl, trivial, rfl, rfl⟩
    rw [if_pos h5]; rfl
  · skip
    refine ⟨rfl, [], ?_, rfl, trivial, rfl, rfl⟩
    rw [if_neg (by rw [h5]; simp)]; rfl

end Hf
namespace Hf
open Go Classical
variable {P : Program} {ρ : Nat → FuncId}
theorem tmod_mod {x p : Int} (hp : 1 ≤ p) : (x.tmod p) % p = x % p := by
  have h1 := tmod_emod x p (by omega)
  by_cases h : x.tmod p < 0
  · rw [if_pos h] at h1
    rw [← Int.emod_emod_of_dvd x (Int.dvd_refl p), ← h1, Int.add_emod_right]
  · rw [if_neg h] at h1; rw [h1]; exact Int.emod_emod_of_dvd x (Int.dvd_refl p)
theorem s_l01In_ok (B : Bs P ρ) (E : E_s_l01In P ρ) {x a b : Int} :
    CallOK P ρ 96 [.i .i64 x, .i .i64 a, .i .i64 b] [] (.one (.b (decide (a ≤ x ∧ x ≤ b)))) [] := by
  refine call_of_vc B.fn B.mo E rfl rfl ?_
  refine ⟨fun h10 => ?_, fun h10 => ?_⟩
  · replace h10 := of_decide_eq_true h10
    refine brB_t ?_
    refine brB_t ?_
    refine brB_t ?_
    refine ⟨rfl, [], ?_, rfl, trivial, rfl, rfl⟩
    refine one_b ?_
    by_cases h : x ≤ b
    · rw [decide_eq_true h, decide_eq_true (⟨h10, h⟩ : a ≤ x ∧ x ≤ b)]
    · rw [decide_eq_false h, decide_eq_false (fun q : a ≤ x ∧ x ≤ b => h q.2)]
  · replace h10 := of_decide_eq_false h10
    refine brB_f ?_
    refine brB_f ?_
    refine brB_f ?_
    refine ⟨rfl, [], ?_, rfl, trivial, rfl, rfl⟩
    exact one_b (dec_f fun q => h10 q.1)

theorem s_l01Prime_ok (B : Bs P ρ) (E : E_s_l01Prime P ρ) {p : Int} :
    CallOK P ρ 95 [.i .i64 p] [] (.one (.b (decide (Pr p)))) [] := by
  refine call_of_vc B.fn B.mo E.1 rfl rfl ?_
  refine .inl ⟨(fun a0 i0 => St.mk [(0, a0), (3, .one (.i .i64 ((2 + i0 : Nat) : Int)))] []) _ , fun i0 => ∀ k : Int, 2 ≤ k → k < ((2 + i0 : Nat) : Int) → p % k ≠ 0, 30, fun _ _ => by omega, ⟨⟨rfl, rfl, trivial⟩, trivial, rfl⟩, fun i0 hi0 hF0 => ?_⟩
  refine ⟨fun h7 => ?_, fun h7 => ?_⟩
  · replace h7 := of_decide_eq_true h7
    refine brB_t ?_
    refine brB_t ?_
    refine ⟨fun h10 => ?_, fun h10 => ?_⟩
    · replace h10 := of_decide_eq_true h10
      refine ⟨by omega, _, rfl, ?_⟩
      refine ⟨fun h16 => ?_, fun h16 => ?_⟩
      · replace h16 := eq_of_beq h16
        rw [Int.tmod_eq_emod_of_nonneg (by omega)] at h16
        refine ⟨rfl, [], ?_, rfl, trivial, rfl, rfl⟩
        exact one_b (dec_f fun h => h.2.2 _ (by omega) h7 h16)
      · replace h16 := ne_of_beq_false h16
        rw [Int.tmod_eq_emod_of_nonneg (by omega)] at h16
        refine ⟨((2 + i0 + 1 : Nat) : Int), w64_id _ (by omega) (by omega), ?_⟩
        refine ⟨by omega, ?_, ⟨rfl, rfl, trivial⟩, trivial, rfl⟩
        intro k hk hk2
        by_cases e : k = ((2 + i0 : Nat) : Int)
        · rw [e]; exact h16
        · exact hF0 k hk (by omega)
    · replace h10 := of_decide_eq_false h10
      refine .inl ⟨0, [], _, _, _, _, [], rfl, s_l01In_ok B E.2 , rfl, trivial, rfl, rfl, ?_⟩
      refine ⟨rfl, [], ?_, rfl, trivial, rfl, rfl⟩
      exact one_b (decide_eq_decide.2 ⟨fun q => by omega, fun q => by have := q.2.1; omega⟩)
  · replace h7 := of_decide_eq_false h7
    refine brB_f ?_
    refine brB_f ?_
    refine brB_f ?_
    refine .inl ⟨0, [], _, _, _, _, [], rfl, s_l01In_ok B E.2 , rfl, trivial, rfl, rfl, ?_⟩
    refine ⟨rfl, [], ?_, rfl, trivial, rfl, rfl⟩
    exact one_b (decide_eq_decide.2 ⟨fun q => ⟨q.1, q.2, fun k h1 h2 => hF0 k h1 (by omega)⟩, fun q => ⟨q.1, q.2.1⟩⟩)

theorem s_l01Sizes_ok (B : Bs P ρ) (E : E_s_l01Sizes P ρ) {p n : Int} :
    CallOK P ρ 75 [.i .i64 p, .i .i64 n] [] (.one (.b (decide (Shp p n)))) [] := by
  refine call_of_vc B.fn B.mo E.1 rfl rfl ?_
  refine .inl ⟨0, [], _, _, _, _, [], rfl, s_l01Prime_ok B E.2.1 , rfl, trivial, rfl, rfl, ?_⟩
  refine ⟨fun h7 => ?_, fun h7 => ?_⟩
  · skip
    refine brB_t ?_
    refine .inl ⟨0, [], _, _, _, _, [], rfl, s_l01In_ok B E.2.2 , rfl, trivial, rfl, rfl, ?_⟩
    refine brB_t ?_
    refine ⟨rfl, [], ?_, rfl, trivial, rfl, rfl⟩
    exact one_b (decide_eq_decide.2 ⟨fun q => ⟨dec_elim_t h7, q⟩, fun q => q.2⟩)
  · skip
    refine brB_f ?_
    refine brB_f ?_
    refine ⟨rfl, [], ?_, rfl, trivial, rfl, rfl⟩
    exact one_b (dec_f fun q => dec_elim_t' h7 q.1)

theorem s_l01Vector_ok (B : Bs P ρ) (E : E_s_l01Vector P ρ) {p n : Int} {v : By} :
    CallOK P ρ 53 [.i .i64 p, .i .i64 n, .ag [] 8 v] [] (.one (.b (decide (Vec p n v 0)))) [] := by
  refine call_of_vc B.fn B.mo E rfl rfl ?_
  refine ⟨0, rfl, ?_⟩
  refine .inl ⟨(fun a0 a1 b0 i0 => St.mk [(0, a0), (1, a1), (5, .one (.pt 0 0)), (7, .one (.i .i64 ((i0 : Nat) : Int)))] [b0]) _ _ _ , fun i0 => ∀ k : Nat, k < i0 → bz v k < p ∧ (n ≤ k → bz v k = 0), 8, fun _ _ => by omega, ⟨⟨rfl, rfl, rfl, rfl, trivial⟩, ⟨rfl, trivial⟩, rfl⟩, fun i0 hi0 hF0 => ?_⟩
  refine ⟨fun h9 => ?_, fun h9 => ?_⟩
  · replace h9 := of_decide_eq_true h9
    refine ⟨i0, i0, rfl, by omega, by omega, ?_⟩
    refine ⟨⟨by first | omega | (simp <;> omega), by first | omega | (simp <;> omega)⟩, ?_⟩
    refine ⟨fun h18 => ?_, fun h18 => ?_⟩
    · replace h18 := of_decide_eq_true h18
      refine brB_t ?_
      refine brB_t ?_
      refine brB_t ?_
      refine brB_t ?_
      refine brB_t ?_
      refine brB_t ?_
      refine ⟨rfl, [], ?_, rfl, trivial, rfl, rfl⟩
      exact one_b (dec_f fun q => by have := (q i0 (by omega)).1; rw [Nat.zero_add] at this; simp [bz] at this h18; omega)
    · replace h18 := of_decide_eq_false h18
      refine brB_f ?_
      refine brB_f ?_
      refine brB_f ?_
      refine ⟨fun h22 => ?_, fun h22 => ?_⟩
      · replace h22 := of_decide_eq_true h22
        refine brB_t ?_
        refine ⟨i0, i0, rfl, by omega, by omega, ?_⟩
        refine brB_t ?_
        refine ⟨⟨by first | omega | (simp <;> omega), by first | omega | (simp <;> omega)⟩, ?_⟩
        refine brB_t ?_
        refine brB_f ?_
        refine brB_t ?_
        refine brB_f ?_
        refine ⟨fun h28 => ?_, fun h28 => ?_⟩
        · replace h28 := bne_t h28
          refine ⟨rfl, [], ?_, rfl, trivial, rfl, rfl⟩
          exact one_b (dec_f fun q => by have := (q i0 (by omega)).2 (by omega); rw [Nat.zero_add, bz_eq0] at this; exact h28 this)
        · replace h28 := bne_f h28
          refine ⟨((i0 + 1 : Nat) : Int), w64_id _ (by omega) (by omega), ?_⟩
          refine ⟨by omega, ?_, ⟨rfl, rfl, rfl, rfl, trivial⟩, ⟨rfl, trivial⟩, rfl⟩
          intro k hk
          by_cases e : k = i0
          · subst e
            simp [bz] at h18 ⊢
            exact ⟨h18, fun _ => by rw [h28]; rfl⟩
          · exact hF0 k (by omega)
      · replace h22 := of_decide_eq_false h22
        refine brB_f ?_
        refine brB_f ?_
        refine brB_f ?_
        refine brB_f ?_
        refine brB_f ?_
        refine brB_f ?_
        refine brB_f ?_
        refine ⟨((i0 + 1 : Nat) : Int), w64_id _ (by omega) (by omega), ?_⟩
        refine ⟨by omega, ?_, ⟨rfl, rfl, rfl, rfl, trivial⟩, ⟨rfl, trivial⟩, rfl⟩
        intro k hk
        by_cases e : k = i0
        · subst e
          simp [bz] at h18 ⊢
          exact ⟨h18, fun q => by omega⟩
        · exact hF0 k (by omega)
  · replace h9 := of_decide_eq_false h9
    have e0 : 8 = i0 := by omega
    subst e0
    refine ⟨rfl, [], ?_, rfl, trivial, rfl, rfl⟩
    exact one_b (dec_t fun k hk => by rw [Nat.zero_add]; exact hF0 k hk)

theorem s_l01Linear_ok (B : Bs P ρ) (E : E_s_l01Linear P ρ) {p n : Int} {v : By} :
    CallOK P ρ 64 [.i .i64 p, .i .i64 n, .ag [] 64 v] [] (.one (.b (decide (Lin p n n v 0)))) [] := by
  refine call_of_vc B.fn B.mo E.1 rfl rfl ?_
  refine ⟨0, rfl, ?_⟩
  refine .inl ⟨(fun a0 a1 b0 i0 => St.mk [(0, a0), (1, a1), (5, .one (.pt 0 0)), (7, .one (.i .i64 ((i0 : Nat) : Int)))] [b0]) _ _ _ , fun i0 => ∀ i : Nat, i < i0 → Vec p n v (i * 8) ∧ (n ≤ i → ∀ k : Nat, k < 8 → bz v (i * 8 + k) = 0), 8, fun _ _ => by omega, ⟨⟨rfl, rfl, rfl, rfl, trivial⟩, ⟨rfl, trivial⟩, rfl⟩, fun i0 hi0 hF0 => ?_⟩
  refine ⟨fun h9 => ?_, fun h9 => ?_⟩
  · replace h9 := of_decide_eq_true h9
    refine ⟨i0, i0 * 8, rfl, by omega, by omega, ?_⟩
    refine ⟨⟨by first | omega | (simp <;> omega), by first | omega | (simp <;> omega)⟩, ?_⟩
    refine .inl ⟨1, [], _, _, _, _, [_], rfl, s_l01Vector_ok B E.2 , rfl, trivial, rfl, rfl, ?_⟩
    refine ⟨fun h19 => ?_, fun h19 => ?_⟩
    · skip
      have h19' : ¬ Vec p n v (i0 * 8) := fun q => dec_elim_t' (not_t h19) ((Vec_sh (a := i0 * 8) (o := 0)).2 q)
      refine brB_t ?_
      refine brB_t ?_
      refine brB_t ?_
      refine brB_t ?_
      refine brB_t ?_
      refine brB_t ?_
      refine ⟨rfl, [], ?_, rfl, trivial, rfl, rfl⟩
      exact one_b (dec_f fun q => h19' (by have := (q i0 (by omega)).1; rw [Nat.zero_add] at this; exact this))
    · skip
      have h19' : Vec p n v (i0 * 8) := (Vec_sh (a := i0 * 8) (o := 0)).1 (dec_elim_t (not_f h19))
      refine brB_f ?_
      refine brB_f ?_
      refine brB_f ?_
      refine ⟨fun h23 => ?_, fun h23 => ?_⟩
      · replace h23 := of_decide_eq_true h23
        refine brB_t ?_
        refine ⟨i0, i0 * 8, rfl, by omega, by omega, ?_⟩
        refine brB_t ?_
        refine ⟨⟨by first | omega | (simp <;> omega), by first | omega | (simp <;> omega)⟩, ?_⟩
        refine brB_t ?_
        refine brB_t ?_
        refine brB_f ?_
        refine brB_t ?_
        refine brB_f ?_
        refine ⟨fun h30 => ?_, fun h30 => ?_⟩
        · skip
          refine ⟨rfl, [], ?_, rfl, trivial, rfl, rfl⟩
          refine one_b (dec_f fun q => ?_)
          have := (q i0 (by omega)).2 (by omega)
          rw [Nat.zero_add] at this
          have := eqB_z.2 this
          erw [this] at h30; cases h30
        · skip
          refine ⟨((i0 + 1 : Nat) : Int), w64_id _ (by omega) (by omega), ?_⟩
          refine ⟨by omega, ?_, ⟨rfl, rfl, rfl, rfl, trivial⟩, ⟨rfl, trivial⟩, rfl⟩
          intro i hi
          by_cases e : i = i0
          · subst e
            exact ⟨h19', fun _ => eqB_z.1 (by simpa using h30)⟩
          · exact hF0 i (by omega)
      · replace h23 := of_decide_eq_false h23
        refine brB_f ?_
        refine brB_f ?_
        refine brB_f ?_
        refine brB_f ?_
        refine brB_f ?_
        refine brB_f ?_
        refine brB_f ?_
        refine brB_f ?_
        refine ⟨((i0 + 1 : Nat) : Int), w64_id _ (by omega) (by omega), ?_⟩
        refine ⟨by omega, ?_, ⟨rfl, rfl, rfl, rfl, trivial⟩, ⟨rfl, trivial⟩, rfl⟩
        intro i hi
        by_cases e : i = i0
        · subst e
          exact ⟨h19', fun q => by omega⟩
        · exact hF0 i (by omega)
  · replace h9 := of_decide_eq_false h9
    have e0 : 8 = i0 := by omega
    subst e0
    refine ⟨rfl, [], ?_, rfl, trivial, rfl, rfl⟩
    exact one_b (dec_t fun i hi => by rw [Nat.zero_add]; exact hF0 i hi)

theorem s_l01Table_ok (B : Bs P ρ) (E : E_s_l01Table P ρ) {p n : Int} {v : By} :
    CallOK P ρ 63 [.i .i64 p, .i .i64 n, .ag [] 512 v] [] (.one (.b (decide (Tab p n v 0)))) [] := by
  refine call_of_vc B.fn B.mo E.1 rfl rfl ?_
  refine ⟨0, rfl, ?_⟩
  refine .inl ⟨(fun a0 a1 b0 i0 => St.mk [(0, a0), (1, a1), (5, .one (.pt 0 0)), (7, .one (.i .i64 ((i0 : Nat) : Int)))] [b0]) _ _ _ , fun i0 => ∀ i : Nat, i < i0 → Lin p n n v (i * 64) ∧ (n ≤ i → ∀ k : Nat, k < 64 → bz v (i * 64 + k) = 0), 8, fun _ _ => by omega, ⟨⟨rfl, rfl, rfl, rfl, trivial⟩, ⟨rfl, trivial⟩, rfl⟩, fun i0 hi0 hF0 => ?_⟩
  refine ⟨fun h9 => ?_, fun h9 => ?_⟩
  · replace h9 := of_decide_eq_true h9
    refine ⟨i0, i0 * 64, rfl, by omega, by omega, ?_⟩
    refine ⟨⟨by first | omega | (simp <;> omega), by first | omega | (simp <;> omega)⟩, ?_⟩
    refine .inl ⟨1, [], _, _, _, _, [_], rfl, s_l01Linear_ok B E.2 , rfl, trivial, rfl, rfl, ?_⟩
    refine ⟨fun h19 => ?_, fun h19 => ?_⟩
    · skip
      have h19' : ¬ Lin p n n v (i0 * 64) := fun q => dec_elim_t' (not_t h19) ((Lin_sh (a := i0 * 64) (o := 0)).2 q)
      refine brB_t ?_
      refine brB_t ?_
      refine brB_t ?_
      refine brB_t ?_
      refine brB_t ?_
      refine brB_t ?_
      refine ⟨rfl, [], ?_, rfl, trivial, rfl, rfl⟩
      exact one_b (dec_f fun q => h19' (by have := (q i0 (by omega)).1; rw [Nat.zero_add] at this; exact this))
    · skip
      have h19' : Lin p n n v (i0 * 64) := (Lin_sh (a := i0 * 64) (o := 0)).1 (dec_elim_t (not_f h19))
      refine brB_f ?_
      refine brB_f ?_
      refine brB_f ?_
      refine ⟨fun h23 => ?_, fun h23 => ?_⟩
      · replace h23 := of_decide_eq_true h23
        refine brB_t ?_
        refine ⟨i0, i0 * 64, rfl, by omega, by omega, ?_⟩
        refine brB_t ?_
        refine ⟨⟨by first | omega | (simp <;> omega), by first | omega | (simp <;> omega)⟩, ?_⟩
        refine brB_t ?_
        refine brB_t ?_
        refine brB_f ?_
        refine brB_t ?_
        refine brB_f ?_
        refine ⟨fun h30 => ?_, fun h30 => ?_⟩
        · skip
          refine ⟨rfl, [], ?_, rfl, trivial, rfl, rfl⟩
          refine one_b (dec_f fun q => ?_)
          have := (q i0 (by omega)).2 (by omega)
          rw [Nat.zero_add] at this
          have := eqB_z.2 this
          erw [this] at h30; cases h30
        · skip
          refine ⟨((i0 + 1 : Nat) : Int), w64_id _ (by omega) (by omega), ?_⟩
          refine ⟨by omega, ?_, ⟨rfl, rfl, rfl, rfl, trivial⟩, ⟨rfl, trivial⟩, rfl⟩
          intro i hi
          by_cases e : i = i0
          · subst e
            exact ⟨h19', fun _ => eqB_z.1 (by simpa using h30)⟩
          · exact hF0 i (by omega)
      · replace h23 := of_decide_eq_false h23
        refine brB_f ?_
        refine brB_f ?_
        refine brB_f ?_
        refine brB_f ?_
        refine brB_f ?_
        refine brB_f ?_
        refine brB_f ?_
        refine brB_f ?_
        refine ⟨((i0 + 1 : Nat) : Int), w64_id _ (by omega) (by omega), ?_⟩
        refine ⟨by omega, ?_, ⟨rfl, rfl, rfl, rfl, trivial⟩, ⟨rfl, trivial⟩, rfl⟩
        intro i hi
        by_cases e : i = i0
        · subst e
          exact ⟨h19', fun q => by omega⟩
        · exact hF0 i (by omega)
  · replace h9 := of_decide_eq_false h9
    have e0 : 8 = i0 := by omega
    subst e0
    refine ⟨rfl, [], ?_, rfl, trivial, rfl, rfl⟩
    exact one_b (dec_t fun i hi => by rw [Nat.zero_add]; exact hF0 i hi)

theorem s_l01Shape_ok (B : Bs P ρ) (E : E_s_l01Shape P ρ) {p n : Int} {f : By} :
    CallOK P ρ 62 [.ag [p, n] 522 f] [] (.one (.b (decide (AShp p n f)))) [] := by
  refine call_of_vc B.fn B.mo E.1 rfl rfl ?_
  refine ⟨0, rfl, ?_⟩
  refine .inl ⟨1, [], _, _, _, _, [_], rfl, s_l01Sizes_ok B E.2.1 , rfl, trivial, rfl, rfl, ?_⟩
  refine ⟨fun h8 => ?_, fun h8 => ?_⟩
  · skip
    have h8' := dec_elim_t h8
    refine brB_t ?_
    refine brB_t ?_
    refine brB_t ?_
    refine brB_t ?_
    refine brB_t ?_
    refine ⟨⟨by first | omega | (simp <;> omega), by first | omega | (simp <;> omega)⟩, ?_⟩
    refine brB_t ?_
    refine .inl ⟨1, [], _, _, _, _, [_], rfl, s_l01Vector_ok B E.2.2.1 , rfl, trivial, rfl, rfl, ?_⟩
    refine brB_t ?_
    refine ⟨fun h17 => ?_, fun h17 => ?_⟩
    · skip
      have h17' : Vec p n f 2 := (Vec_sh (a := 2) (o := 0)).1 (dec_elim_t h17)
      refine brB_t ?_
      refine brB_t ?_
      refine brB_t ?_
      refine brB_t ?_
      refine brB_t ?_
      refine ⟨⟨by first | omega | (simp <;> omega), by first | omega | (simp <;> omega)⟩, ?_⟩
      refine brB_t ?_
      refine .inl ⟨1, [], _, _, _, _, [_], rfl, s_l01Table_ok B E.2.2.2 , rfl, trivial, rfl, rfl, ?_⟩
      refine brB_t ?_
      refine ⟨rfl, [], ?_, rfl, trivial, rfl, rfl⟩
      exact one_b (decide_eq_decide.2 ⟨fun q => ⟨h8', h17', (Tab_sh (a := 10) (o := 0)).1 q⟩, fun q => (Tab_sh (a := 10) (o := 0)).2 q.2.2⟩)
    · skip
      refine brB_f ?_
      refine brB_f ?_
      refine brB_f ?_
      refine brB_f ?_
      refine brB_f ?_
      refine brB_f ?_
      refine brB_f ?_
      refine ⟨rfl, [], ?_, rfl, trivial, rfl, rfl⟩
      exact one_b (dec_f fun q => dec_elim_t' h17 ((Vec_sh (a := 2) (o := 0)).2 q.2.1))
  · skip
    refine brB_f ?_
    refine brB_f ?_
    refine brB_f ?_
    refine brB_f ?_
    refine brB_f ?_
    refine brB_f ?_
    refine brB_f ?_
    refine brB_f ?_
    refine brB_f ?_
    refine brB_f ?_
    refine brB_f ?_
    refine brB_f ?_
    refine brB_f ?_
    refine brB_f ?_
    refine brB_f ?_
    refine ⟨rfl, [], ?_, rfl, trivial, rfl, rfl⟩
    exact one_b (dec_f fun q => dec_elim_t' h8 q.1)

theorem s_l02Shape_ok (B : Bs P ρ) (E : E_s_l02Shape P ρ) {p n : Int} {f : By} :
    CallOK P ρ 98 [.ag [p, n] 522 f] [] (.one (.b (decide (CShp p n f)))) [] := by
  refine call_of_vc B.fn B.mo E.1 rfl rfl ?_
  refine ⟨0, rfl, ?_⟩
  refine .inl ⟨1, [], _, _, _, _, [_], rfl, s_l01Sizes_ok B E.2.1 , rfl, trivial, rfl, rfl, ?_⟩
  refine ⟨fun h8 => ?_, fun h8 => ?_⟩
  · skip
    have h8' := dec_elim_t h8
    refine brB_t ?_
    refine brB_t ?_
    refine brB_t ?_
    refine brB_t ?_
    refine brB_t ?_
    refine ⟨⟨by first | omega | (simp <;> omega), by first | omega | (simp <;> omega)⟩, ?_⟩
    refine brB_t ?_
    refine .inl ⟨1, [], _, _, _, _, [_], rfl, s_l01Vector_ok B E.2.2.1 , rfl, trivial, rfl, rfl, ?_⟩
    refine brB_t ?_
    refine ⟨fun h17 => ?_, fun h17 => ?_⟩
    · skip
      have h17' : Vec p n f 2 := (Vec_sh (a := 2) (o := 0)).1 (dec_elim_t h17)
      refine brB_t ?_
      refine brB_t ?_
      refine brB_t ?_
      refine brB_t ?_
      refine brB_t ?_
      refine ⟨⟨by first | omega | (simp <;> omega), by first | omega | (simp <;> omega)⟩, ?_⟩
      refine brB_t ?_
      refine .inl ⟨1, [], _, _, _, _, [_], rfl, s_l01Table_ok B E.2.2.2 , rfl, trivial, rfl, rfl, ?_⟩
      refine brB_t ?_
      refine ⟨rfl, [], ?_, rfl, trivial, rfl, rfl⟩
      exact one_b (decide_eq_decide.2 ⟨fun q => ⟨h8', h17', (Tab_sh (a := 10) (o := 0)).1 q⟩, fun q => (Tab_sh (a := 10) (o := 0)).2 q.2.2⟩)
    · skip
      refine brB_f ?_
      refine brB_f ?_
      refine brB_f ?_
      refine brB_f ?_
      refine brB_f ?_
      refine brB_f ?_
      refine brB_f ?_
      refine ⟨rfl, [], ?_, rfl, trivial, rfl, rfl⟩
      exact one_b (dec_f fun q => dec_elim_t' h17 ((Vec_sh (a := 2) (o := 0)).2 q.2.1))
  · skip
    refine brB_f ?_
    refine brB_f ?_
    refine brB_f ?_
    refine brB_f ?_
    refine brB_f ?_
    refine brB_f ?_
    refine brB_f ?_
    refine brB_f ?_
    refine brB_f ?_
    refine brB_f ?_
    refine brB_f ?_
    refine brB_f ?_
    refine brB_f ?_
    refine brB_f ?_
    refine brB_f ?_
    refine ⟨rfl, [], ?_, rfl, trivial, rfl, rfl⟩
    exact one_b (dec_f fun q => dec_elim_t' h8 q.1)

theorem s_l01Mod_ok (B : Bs P ρ) (E : E_s_l01Mod P ρ) {p x : Int} (hp : 1 ≤ p) (hp2 : p ≤ 1000) :
    CallOK P ρ 72 [.i .i64 p, .i .i64 x] [] (.one (.u (byt (x % p)))) [] := by
  refine call_of_vc B.fn B.mo E rfl rfl ?_
  have hm := Int.tmod_lt_of_pos x (show 0 < p by omega)
  have hm2 := Int.lt_tmod_of_pos x (show 0 < p by omega)
  refine ⟨by omega, _, rfl, ?_⟩
  refine ⟨_, w64_id _ (by omega) (by omega), ?_⟩
  refine ⟨by omega, x % p, ?_, ?_⟩
  · rw [Int.tmod_eq_emod_of_nonneg (by omega), Int.add_emod_right]
    exact tmod_mod hp
  exact ⟨rfl, [], rfl, rfl, trivial, rfl, rfl⟩

theorem s_l01Add_ok (B : Bs P ρ) (E : E_s_l01Add P ρ) {p k : Int} {v w : By} (hp : 1 ≤ p) (hp2 : p ≤ 1000) (hk : -1000000000000 ≤ k) (hk2 : k ≤ 1000000000000) :
    CallOK P ρ 57 [.i .i64 p, .ag [] 8 v, .ag [] 8 w, .i .i64 k] [] (.one (.ag [] 8 (vec 8 p fun y => bz v y + k * bz w y))) [] := by
  refine call_of_vc B.fn B.mo E.1 rfl rfl ?_
  refine ⟨0, rfl, ?_⟩
  refine ⟨1, rfl, ?_⟩
  refine ⟨2, rfl, ?_⟩
  refine .inl ⟨(fun a0 a3 b1 b2 i0 => St.mk [(0, a0), (3, a3), (5, .one (.pt 0 0)), (6, .one (.pt 1 0)), (8, .one (.pt 2 0)), (9, .one (.i .i64 ((i0 : Nat) : Int)))] [Blk.mk false (.by [] 8 (plsN p v 0 k w i0)), b1, b2]) _ _ _ _ , fun i0 => True, 8, trivial, ⟨⟨rfl, rfl, rfl, rfl, rfl, rfl, trivial⟩, ⟨?_, rfl, rfl, trivial⟩, rfl⟩, fun i0 hi0 _ => ?_⟩
  · rw [plsN_zero]
  refine ⟨fun h11 => ?_, fun h11 => ?_⟩
  · replace h11 := of_decide_eq_true h11
    have b1 := mul_bd (A := 1000000000000) (B := 255) (a := k) (b := bz w i0) (by omega) (by omega) (bz_nn _ _) (bz_le _ _)
    have b2 := bz_nn v i0
    have b3 := bz_le v i0
    refine ⟨i0, i0, rfl, by omega, by omega, ?_⟩
    refine ⟨⟨by first | omega | (simp <;> omega), by first | omega | (simp <;> omega)⟩, ?_⟩
    refine ⟨i0, i0, rfl, by omega, by omega, ?_⟩
    refine ⟨⟨by first | omega | (simp <;> omega), by first | omega | (simp <;> omega)⟩, ?_⟩
    refine ⟨k * bz w i0, w64_id (k * bz w i0) (by omega) (by omega), ?_⟩
    refine ⟨bz v i0 + k * bz w i0, ?_, ?_⟩
    · show w64 (bz (plsN p v 0 k w i0) i0 + _) = _
      have : bz (plsN p v 0 k w i0) i0 = bz v i0 := by simp only [bz, plsN]; rw [if_neg (by omega)]
      rw [this]
      exact w64_id _ (by omega) (by omega)
    refine ⟨3, [], _, _, _, _, [_, _, _], rfl, s_l01Mod_ok B E.2 hp hp2, rfl, trivial, rfl, rfl, rfl, ?_⟩
    refine ⟨i0, 0 + i0, rfl, by omega, by omega, ?_⟩
    refine ⟨⟨by first | omega | (simp <;> omega), by first | omega | (simp <;> omega)⟩, ?_⟩   -- st8 ['.t', 28] ['.t', 27]
    refine ⟨((i0 + 1 : Nat) : Int), w64_id _ (by omega) (by omega), ?_⟩
    refine ⟨by omega, trivial, ⟨rfl, rfl, rfl, rfl, rfl, rfl, trivial⟩, ⟨?_, rfl, rfl, trivial⟩, rfl⟩
    have := plsN_succ (p := p) (f := v) (off := 0) (k := k) (w := w) (m := i0)
    rw [Nat.zero_add] at this
    refine blk_by ?_
    rw [Nat.zero_add]
    exact this.symm
  · replace h11 := of_decide_eq_false h11
    have e0 : 8 = i0 := by omega
    subst e0
    refine ⟨⟨by first | omega | (simp <;> omega), by first | omega | (simp <;> omega)⟩, ?_⟩
    refine ⟨⟨rfl, by first | omega | (simp <;> omega), by first | omega | (simp <;> omega)⟩, ?_⟩   -- sta ['.t', 8] ['.t', 29] 8
    refine ⟨rfl, ⟨by first | omega | (simp <;> omega), by first | omega | (simp <;> omega)⟩, [], ?_, rfl, trivial, rfl, rfl⟩
    refine one_ag (out_eq (fun y hy => ?_) fun _ h => vec_out h)
    simp only [plsN, vec]
    rw [if_pos (by omega), if_pos hy]
    rfl


end Hf
namespace Hf
open Go Classical
variable {P : Program} {ρ : Nat → FuncId}
theorem spl_plsN {p k : Int} {f w : By} {a : Nat} : spl f a 8 (vec 8 p fun y => bz (sh f a) y + k * bz w y) = plsN p f a k w 8 := by
  funext x
  simp only [spl, plsN]
  by_cases h : a ≤ x ∧ x < a + 8
  · rw [if_pos h, if_pos h]
    simp only [vec]
    rw [if_pos (by omega), bz_sh, show a + (x - a) = x by omega]
  · rw [if_neg h, if_neg h]
theorem z0_of {v : By} {i : Nat} (h : v i = 0) : bz v i = 0 := u_eq0.1 h

theorem s_l01Basis_ok (B : Bs P ρ) (E : E_s_l01Basis P ρ) {i : Nat} (hi : i < 8) :
    CallOK P ρ 55 [.i .i64 (i : Int)] [] (.one (.ag [] 8 (bas i))) [] := by
  refine call_of_vc B.fn B.mo E rfl rfl ?_
  refine ⟨0, rfl, ?_⟩
  refine ⟨1, rfl, ?_⟩
  refine ⟨⟨rfl, by first | omega | (simp <;> omega), by first | omega | (simp <;> omega)⟩, ?_⟩   -- sta ['.t', 3] ['.t', 4] 8
  refine ⟨i, i, rfl, by omega, by omega, ?_⟩
  refine ⟨⟨by first | omega | (simp <;> omega), by first | omega | (simp <;> omega)⟩, ?_⟩   -- st8 ['.t', 6] ['.c', ['.u', 1]]
  refine ⟨⟨by first | omega | (simp <;> omega), by first | omega | (simp <;> omega)⟩, ?_⟩
  refine ⟨⟨rfl, by first | omega | (simp <;> omega), by first | omega | (simp <;> omega)⟩, ?_⟩   -- sta ['.t', 2] ['.t', 7] 8
  refine ⟨rfl, ⟨by first | omega | (simp <;> omega), by first | omega | (simp <;> omega)⟩, [], ?_, rfl, trivial, rfl, rfl⟩
  refine one_ag (out_eq (fun k hk => ?_) fun k hk => ?_)
  · simp only [upd, spl, bas]
    by_cases e : k = i <;> simp [e]
  · simp only [bas]; rw [if_neg (by omega)]

theorem s_l01Apply_ok (B : Bs P ρ) (E : E_s_l01Apply P ρ) {p : Int} {n : Nat} {f v : By} (hp : 1 ≤ p) (hp2 : p ≤ 256) (hn : n ≤ 8) :
    CallOK P ρ 51 [.i .i64 p, .i .i64 (n : Int), .ag [] 64 f, .ag [] 8 v] [] (.one (.ag [] 8 (vec 8 p fun y => sm n fun i => bz v i * bz f (i * 8 + y)))) [] := by
  refine call_of_vc B.fn B.mo E.1 rfl rfl ?_
  refine ⟨0, rfl, ?_⟩
  refine ⟨1, rfl, ?_⟩
  refine ⟨2, rfl, ?_⟩
  refine ⟨3, rfl, ?_⟩
  refine ⟨⟨rfl, by first | omega | (simp <;> omega), by first | omega | (simp <;> omega)⟩, ?_⟩   -- sta ['.t', 9] ['.t', 11] 8
  refine .inl ⟨(fun a0 a1 b0 b1 b2 i0 => St.mk [(0, a0), (1, a1), (6, .one (.pt 0 0)), (7, .one (.pt 1 0)), (8, .one (.pt 2 0)), (9, .one (.pt 3 0)), (10, .one (.i .i64 ((i0 : Nat) : Int)))] [b0, b1, b2, Blk.mk false (.by [] 8 (vec 8 p fun y => sm i0 fun i => bz v i * bz f (i * 8 + y)))]) _ _ _ _ _ , fun i0 => True, n, trivial, ⟨⟨rfl, rfl, rfl, rfl, rfl, rfl, rfl, trivial⟩, ⟨rfl, rfl, rfl, ?_, trivial⟩, rfl⟩, fun i0 hi0 _ => ?_⟩
  · refine blk_by ?_
    rw [z_sta]
    exact vec_0.symm
  have q0 := bz_nn v i0
  have q1 := bz_le v i0
  refine ⟨fun h14 => ?_, fun h14 => ?_⟩
  · replace h14 := of_decide_eq_true h14
    refine ⟨i0, i0, rfl, by omega, by omega, ?_⟩
    refine ⟨⟨by first | omega | (simp <;> omega), by first | omega | (simp <;> omega)⟩, ?_⟩
    refine ⟨fun h20 => ?_, fun h20 => ?_⟩
    · replace h20 := bne_t h20
      refine ⟨⟨by first | omega | (simp <;> omega), by first | omega | (simp <;> omega)⟩, ?_⟩
      refine ⟨i0, i0 * 8, rfl, by omega, by omega, ?_⟩
      refine ⟨⟨by first | omega | (simp <;> omega), by first | omega | (simp <;> omega)⟩, ?_⟩
      refine ⟨i0, i0, rfl, by omega, by omega, ?_⟩
      refine ⟨⟨by first | omega | (simp <;> omega), by first | omega | (simp <;> omega)⟩, ?_⟩
      refine .inl ⟨4, [], _, _, _, _, [_, _, _, _], rfl, s_l01Add_ok B E.2 (k := bz v i0) hp (by omega) (by omega) (by omega), rfl, trivial, rfl, rfl, ?_⟩
      refine ⟨⟨rfl, by first | omega | (simp <;> omega), by first | omega | (simp <;> omega)⟩, ?_⟩   -- sta ['.t', 9] ['.t', 30] 8
      refine ⟨((i0 + 1 : Nat) : Int), w64_id _ (by omega) (by omega), ?_⟩
      refine ⟨by omega, trivial, ⟨rfl, rfl, rfl, rfl, rfl, rfl, rfl, trivial⟩, ⟨rfl, rfl, rfl, ?_, trivial⟩, rfl⟩
      refine blk_by ?_
      rw [spl_plsN, pl_vec0 hp hp2]
      exact vec_congr fun y _ => cg_of_eq rfl
    · replace h20 := bne_f h20
      refine ⟨((i0 + 1 : Nat) : Int), w64_id _ (by omega) (by omega), ?_⟩
      refine ⟨by omega, trivial, ⟨rfl, rfl, rfl, rfl, rfl, rfl, rfl, trivial⟩, ⟨rfl, rfl, rfl, ?_, trivial⟩, rfl⟩
      refine blk_by (vec_congr fun y _ => cg_of_eq ?_)
      simp only [sm]
      rw [z0_of h20, Int.zero_mul, Int.add_zero]
  · replace h14 := of_decide_eq_false h14
    have e0 : n = i0 := by omega
    subst e0
    refine ⟨⟨by first | omega | (simp <;> omega), by first | omega | (simp <;> omega)⟩, ?_⟩
    refine ⟨⟨rfl, by first | omega | (simp <;> omega), by first | omega | (simp <;> omega)⟩, ?_⟩   -- sta ['.t', 8] ['.t', 31] 8
    refine ⟨rfl, ⟨by first | omega | (simp <;> omega), by first | omega | (simp <;> omega)⟩, [], ?_, rfl, trivial, rfl, rfl⟩
    exact one_ag out_vec

theorem s_l01Times_ok (B : Bs P ρ) (E : E_s_l01Times P ρ) {p : Int} {n : Nat} {f v w : By} (hp : 1 ≤ p) (hp2 : p ≤ 256) (hn : n ≤ 8) :
    CallOK P ρ 56 [.ag [p, (n : Int)] 522 f, .ag [] 8 v, .ag [] 8 w] [] (.one (.ag [] 8 (vec 8 p (prd n f 10 v w)))) [] := by
  refine call_of_vc B.fn B.mo E.1 rfl rfl ?_
  refine ⟨0, rfl, ?_⟩
  refine ⟨1, rfl, ?_⟩
  refine ⟨2, rfl, ?_⟩
  refine ⟨3, rfl, ?_⟩
  refine ⟨4, rfl, ?_⟩
  refine ⟨⟨rfl, by first | omega | (simp <;> omega), by first | omega | (simp <;> omega)⟩, ?_⟩   -- sta ['.t', 7] ['.t', 9] 8
  refine .inl ⟨(fun b0 b1 b2 b3 i0 => St.mk [(3, .one (.pt 0 0)), (4, .one (.pt 1 0)), (5, .one (.pt 2 0)), (6, .one (.pt 3 0)), (7, .one (.pt 4 0)), (8, .one (.i .i64 ((i0 : Nat) : Int)))] [b0, b1, b2, b3, Blk.mk false (.by [] 8 (vec 8 p fun k => sm i0 fun i => sm n fun j => bz v i * bz w j * bz f (10 + i * 64 + j * 8 + k)))]) _ _ _ _ , fun i0 => True, n, trivial, ⟨⟨rfl, rfl, rfl, rfl, rfl, rfl, trivial⟩, ⟨rfl, rfl, rfl, rfl, ?_, trivial⟩, rfl⟩, fun i0 hi0 _ => ?_⟩
  · refine blk_by ?_
    rw [z_sta]
    exact vec_0.symm
  have q0 := bz_nn v i0
  have q1 := bz_le v i0
  refine ⟨fun h13 => ?_, fun h13 => ?_⟩
  · replace h13 := of_decide_eq_true h13
    refine ⟨i0, i0, rfl, by omega, by omega, ?_⟩
    refine ⟨⟨by first | omega | (simp <;> omega), by first | omega | (simp <;> omega)⟩, ?_⟩
    refine ⟨fun h19 => ?_, fun h19 => ?_⟩
    · replace h19 := bne_t h19
      refine ⟨⟨by first | omega | (simp <;> omega), by first | omega | (simp <;> omega)⟩, ?_⟩
      refine ⟨i0, 10 + i0 * 64, rfl, by omega, by omega, ?_⟩
      refine ⟨⟨by first | omega | (simp <;> omega), by first | omega | (simp <;> omega)⟩, ?_⟩
      refine ⟨⟨by first | omega | (simp <;> omega), by first | omega | (simp <;> omega)⟩, ?_⟩
      refine ⟨5, [], _, _, _, _, [_, _, _, _, _], rfl, s_l01Apply_ok B E.2.1 hp hp2 hn, rfl, trivial, rfl, rfl, rfl, ?_⟩
      refine ⟨i0, i0, rfl, by omega, by omega, ?_⟩
      refine ⟨⟨by first | omega | (simp <;> omega), by first | omega | (simp <;> omega)⟩, ?_⟩
      refine .inl ⟨5, [], _, _, _, _, [_, _, _, _, _], rfl, s_l01Add_ok B E.2.2 (k := bz v i0) hp (by omega) (by omega) (by omega), rfl, trivial, rfl, rfl, ?_⟩
      refine ⟨⟨rfl, by first | omega | (simp <;> omega), by first | omega | (simp <;> omega)⟩, ?_⟩   -- sta ['.t', 7] ['.t', 37] 8
      refine ⟨((i0 + 1 : Nat) : Int), w64_id _ (by omega) (by omega), ?_⟩
      refine ⟨by omega, trivial, ⟨rfl, rfl, rfl, rfl, rfl, rfl, trivial⟩, ⟨rfl, rfl, rfl, rfl, ?_, trivial⟩, rfl⟩
      refine blk_by ?_
      rw [spl_plsN, pl_vec0 hp hp2]
      refine vec_congr fun y hy => cg.symm (cg_add rfl ((cg_mul rfl (cg_vec hp hp2 hy)).trans (cg_of_eq ?_)))
      rw [← sm_mul]
      refine sm_congr fun j _ => ?_
      rw [Int.mul_assoc, sh_zero, bz_sh, Nat.add_assoc (10 + i0 * 64)]
    · replace h19 := bne_f h19
      refine ⟨((i0 + 1 : Nat) : Int), w64_id _ (by omega) (by omega), ?_⟩
      refine ⟨by omega, trivial, ⟨rfl, rfl, rfl, rfl, rfl, rfl, trivial⟩, ⟨rfl, rfl, rfl, rfl, ?_, trivial⟩, rfl⟩
      refine blk_by (vec_congr fun y _ => cg_of_eq ?_)
      show sm i0 _ + sm n _ = sm i0 _
      rw [sm_zero (n := n) fun j _ => by rw [z0_of h19, Int.zero_mul, Int.zero_mul], Int.add_zero]
  · replace h13 := of_decide_eq_false h13
    have e0 : n = i0 := by omega
    subst e0
    refine ⟨⟨by first | omega | (simp <;> omega), by first | omega | (simp <;> omega)⟩, ?_⟩
    refine ⟨⟨rfl, by first | omega | (simp <;> omega), by first | omega | (simp <;> omega)⟩, ?_⟩   -- sta ['.t', 6] ['.t', 38] 8
    refine ⟨rfl, ⟨by first | omega | (simp <;> omega), by first | omega | (simp <;> omega)⟩, [], ?_, rfl, trivial, rfl, rfl⟩
    exact one_ag out_vec

theorem s_l01Fault_t_ok (B : Bs P ρ) (E : E_s_l01Fault P ρ) {n : Nat} {p : Int} {f : By} (hp : 1 ≤ p) (hp2 : p ≤ 256) (hn : n ≤ 8) (hA : ∀ i j k : Nat, i < n → j < n → k < n → Aso p n f i j k) :
    CallOK P ρ 97 [.ag [p, (n : Int)] 522 f] [] (.tup [.sn, .b false]) [] := by
  refine call_of_vc B.fn B.mo E.1 rfl rfl ?_
  refine ⟨0, rfl, ?_⟩
  refine .inl ⟨(fun b0 i0 => St.mk [(1, .one (.pt 0 0)), (4, .one (.i .i64 ((i0 : Nat) : Int)))] [b0]) _ , fun i0 => True, n, trivial, ⟨⟨rfl, rfl, trivial⟩, ⟨rfl, trivial⟩, rfl⟩, fun i0 hi0 _ => ?_⟩
  refine ⟨fun h10 => ?_, fun h10 => ?_⟩
  · replace h10 := of_decide_eq_true h10
    refine .inl ⟨(fun a4 b0 i1 => St.mk [(1, .one (.pt 0 0)), (4, a4), (5, .one (.i .i64 ((i1 : Nat) : Int)))] [b0]) _ _ , fun i1 => True, n, trivial, ⟨⟨rfl, rfl, rfl, trivial⟩, ⟨rfl, trivial⟩, rfl⟩, fun i1 hi1 _ => ?_⟩
    refine ⟨fun h16 => ?_, fun h16 => ?_⟩
    · replace h16 := of_decide_eq_true h16
      refine .inl ⟨(fun a4 a5 b0 i2 => St.mk [(1, .one (.pt 0 0)), (4, a4), (5, a5), (6, .one (.i .i64 ((i2 : Nat) : Int)))] [b0]) _ _ _ , fun i2 => True, n, trivial, ⟨⟨rfl, rfl, rfl, rfl, trivial⟩, ⟨rfl, trivial⟩, rfl⟩, fun i2 hi2 _ => ?_⟩
      refine ⟨fun h22 => ?_, fun h22 => ?_⟩
      · replace h22 := of_decide_eq_true h22
        refine ⟨i0, 10 + i0 * 64, rfl, by omega, by omega, ?_⟩
        refine ⟨i1, 10 + i0 * 64 + i1 * 8, rfl, by omega, by omega, ?_⟩
        refine ⟨⟨by first | omega | (simp <;> omega), by first | omega | (simp <;> omega)⟩, ?_⟩
        refine ⟨1, [], _, _, _, _, [_], rfl, s_l01Basis_ok B E.2.1 (i := i2) (by omega), rfl, trivial, rfl, rfl, rfl, ?_⟩
        refine ⟨1, [], _, _, _, _, [_], rfl, s_l01Times_ok B E.2.2 hp hp2 hn, rfl, trivial, rfl, rfl, rfl, ?_⟩
        refine ⟨1, [], _, _, _, _, [_], rfl, s_l01Basis_ok B E.2.1 (i := i0) (by omega), rfl, trivial, rfl, rfl, rfl, ?_⟩
        refine ⟨i1, 10 + i1 * 64, rfl, by omega, by omega, ?_⟩
        refine ⟨i2, 10 + i1 * 64 + i2 * 8, rfl, by omega, by omega, ?_⟩
        refine ⟨⟨by first | omega | (simp <;> omega), by first | omega | (simp <;> omega)⟩, ?_⟩
        refine .inl ⟨1, [], _, _, _, _, [_], rfl, s_l01Times_ok B E.2.2 hp hp2 hn, rfl, trivial, rfl, rfl, ?_⟩
        refine ⟨fun h45 => ?_, fun h45 => ?_⟩
        · skip
          have q := hA i0 i1 i2 (by omega) (by omega) (by omega)
          exact (neB_t h45 fun x _ => congrFun q x).elim
          skip
        · skip
          refine ⟨((i2 + 1 : Nat) : Int), w64_id _ (by omega) (by omega), ?_⟩
          exact ⟨by omega, trivial, ⟨rfl, rfl, rfl, rfl, trivial⟩, ⟨rfl, trivial⟩, rfl⟩
      · replace h22 := of_decide_eq_false h22
        have e2 : n = i2 := by omega
        subst e2
        refine ⟨((i1 + 1 : Nat) : Int), w64_id _ (by omega) (by omega), ?_⟩
        exact ⟨by omega, trivial, ⟨rfl, rfl, rfl, trivial⟩, ⟨rfl, trivial⟩, rfl⟩
    · replace h16 := of_decide_eq_false h16
      have e1 : n = i1 := by omega
      subst e1
      refine ⟨((i0 + 1 : Nat) : Int), w64_id _ (by omega) (by omega), ?_⟩
      exact ⟨by omega, trivial, ⟨rfl, rfl, trivial⟩, ⟨rfl, trivial⟩, rfl⟩
  · replace h10 := of_decide_eq_false h10
    have e0 : n = i0 := by omega
    subst e0
    exact ⟨rfl, [], rfl, rfl, trivial, rfl, rfl⟩

theorem s_l01Fault_f_ok (B : Bs P ρ) (E : E_s_l01Fault P ρ) {n : Nat} {p : Int} {f : By} {a b c : Nat} (hp : 1 ≤ p) (hp2 : p ≤ 256) (hn : n ≤ 8) (hA : Fst n (fun i j k => ¬ Aso p n f i j k) a b c) :
    CallOK P ρ 97 [.ag [p, (n : Int)] 522 f] [] (.tup [.sl 0 0 3 3, .b true]) [⟨false, .rw [.i .i64 (a : Int), .i .i64 (b : Int), .i .i64 (c : Int)]⟩] := by
  refine call_of_vc B.fn B.mo E.1 rfl rfl ?_
  refine ⟨0, rfl, ?_⟩
  refine .inl ⟨(fun b0 i0 => St.mk [(1, .one (.pt 0 0)), (4, .one (.i .i64 ((i0 : Nat) : Int)))] [b0]) _ , fun i0 => ∀ i, i < i0 → ∀ j, j < n → ∀ k, k < n → Aso p n f i j k, n, fun _ _ => by omega, ⟨⟨rfl, rfl, trivial⟩, ⟨rfl, trivial⟩, rfl⟩, fun i0 hi0 hF0 => ?_⟩
  refine ⟨fun h10 => ?_, fun h10 => ?_⟩
  · replace h10 := of_decide_eq_true h10
    refine .inl ⟨(fun a4 b0 i1 => St.mk [(1, .one (.pt 0 0)), (4, a4), (5, .one (.i .i64 ((i1 : Nat) : Int)))] [b0]) _ _ , fun i1 => ∀ j, j < i1 → ∀ k, k < n → Aso p n f i0 j k, n, fun _ _ => by omega, ⟨⟨rfl, rfl, rfl, trivial⟩, ⟨rfl, trivial⟩, rfl⟩, fun i1 hi1 hF1 => ?_⟩
    refine ⟨fun h16 => ?_, fun h16 => ?_⟩
    · replace h16 := of_decide_eq_true h16
      refine .inl ⟨(fun a4 a5 b0 i2 => St.mk [(1, .one (.pt 0 0)), (4, a4), (5, a5), (6, .one (.i .i64 ((i2 : Nat) : Int)))] [b0]) _ _ _ , fun i2 => ∀ k, k < i2 → Aso p n f i0 i1 k, n, fun _ _ => by omega, ⟨⟨rfl, rfl, rfl, rfl, trivial⟩, ⟨rfl, trivial⟩, rfl⟩, fun i2 hi2 hF2 => ?_⟩
      refine ⟨fun h22 => ?_, fun h22 => ?_⟩
      · replace h22 := of_decide_eq_true h22
        refine ⟨i0, 10 + i0 * 64, rfl, by omega, by omega, ?_⟩
        refine ⟨i1, 10 + i0 * 64 + i1 * 8, rfl, by omega, by omega, ?_⟩
        refine ⟨⟨by first | omega | (simp <;> omega), by first | omega | (simp <;> omega)⟩, ?_⟩
        refine ⟨1, [], _, _, _, _, [_], rfl, s_l01Basis_ok B E.2.1 (i := i2) (by omega), rfl, trivial, rfl, rfl, rfl, ?_⟩
        refine ⟨1, [], _, _, _, _, [_], rfl, s_l01Times_ok B E.2.2 hp hp2 hn, rfl, trivial, rfl, rfl, rfl, ?_⟩
        refine ⟨1, [], _, _, _, _, [_], rfl, s_l01Basis_ok B E.2.1 (i := i0) (by omega), rfl, trivial, rfl, rfl, rfl, ?_⟩
        refine ⟨i1, 10 + i1 * 64, rfl, by omega, by omega, ?_⟩
        refine ⟨i2, 10 + i1 * 64 + i2 * 8, rfl, by omega, by omega, ?_⟩
        refine ⟨⟨by first | omega | (simp <;> omega), by first | omega | (simp <;> omega)⟩, ?_⟩
        refine .inl ⟨1, [], _, _, _, _, [_], rfl, s_l01Times_ok B E.2.2 hp hp2 hn, rfl, trivial, rfl, rfl, ?_⟩
        refine ⟨fun h45 => ?_, fun h45 => ?_⟩
        · skip
          have q : ¬ Aso p n f i0 i1 i2 := fun q => neB_t h45 fun x _ => congrFun q x
          have q2 : Fst n (fun i j k => ¬ Aso p n f i j k) i0 i1 i2 := ⟨⟨by omega, by omega, by omega, q⟩, fun i h1 j h2 k h3 => Classical.not_not.2 (hF0 i h1 j h2 k h3), fun j h2 k h3 => Classical.not_not.2 (hF1 j h2 k h3), fun k h3 => Classical.not_not.2 (hF2 k h3)⟩
          have q3 := Fst_un hA q2
          refine ⟨1, rfl, ?_⟩
          refine ⟨rfl, [1], rfl, rfl, ⟨?_, trivial⟩, rfl, rfl⟩
          show some (Blk.mk false (.rw [.i .i64 (i0 : Int), .i .i64 (i1 : Int), .i .i64 (i2 : Int)])) = some (Blk.mk false (.rw [.i .i64 (a : Int), .i .i64 (b : Int), .i .i64 (c : Int)]))
          rw [q3.1, q3.2.1, q3.2.2]
        · skip
          have q : Aso p n f i0 i1 i2 := vec_ext (fun x hx => vec_out hx) (neB_f h45)
          refine ⟨((i2 + 1 : Nat) : Int), w64_id _ (by omega) (by omega), ?_⟩
          refine ⟨by omega, ?_, ⟨rfl, rfl, rfl, rfl, trivial⟩, ⟨rfl, trivial⟩, rfl⟩
          intro k hk
          by_cases e : k = i2
          · subst e; exact q
          · exact hF2 k (by omega)
      · replace h22 := of_decide_eq_false h22
        have e2 : n = i2 := by omega
        subst e2
        refine ⟨((i1 + 1 : Nat) : Int), w64_id _ (by omega) (by omega), ?_⟩
        refine ⟨by omega, ?_, ⟨rfl, rfl, rfl, trivial⟩, ⟨rfl, trivial⟩, rfl⟩
        intro j hj k hk
        by_cases e : j = i1
        · subst e; exact hF2 k hk
        · exact hF1 j (by omega) k hk
    · replace h16 := of_decide_eq_false h16
      have e1 : n = i1 := by omega
      subst e1
      refine ⟨((i0 + 1 : Nat) : Int), w64_id _ (by omega) (by omega), ?_⟩
      refine ⟨by omega, ?_, ⟨rfl, rfl, trivial⟩, ⟨rfl, trivial⟩, rfl⟩
      intro i hi j hj k hk
      by_cases e : i = i0
      · subst e; exact hF1 j hj k hk
      · exact hF0 i (by omega) j hj k hk
  · replace h10 := of_decide_eq_false h10
    have e0 : n = i0 := by omega
    subst e0
    exact (hA.1.2.2.2 (hF0 a hA.1.1 b hA.1.2.1 c hA.1.2.2.1)).elim

theorem s_l01Is_s_ok (B : Bs P ρ) (E : E_s_l01Is P ρ) {n : Int} {p : Int} {f : By} (hS : ¬ AShp p n f) :
    CallOK P ρ 76 [.ag [p, n] 522 f] [] (.one (.b false)) [] := by
  refine call_of_vc B.fn B.mo E.1 rfl rfl ?_
  refine ⟨0, rfl, ?_⟩
  refine .inl ⟨1, [], _, _, _, _, [_], rfl, s_l01Shape_ok B E.2.1 , rfl, trivial, rfl, rfl, ?_⟩
  refine ⟨fun h8 => ?_, fun h8 => ?_⟩
  · skip
    exact ⟨rfl, [], rfl, rfl, trivial, rfl, rfl⟩
  · skip
    exact (hS (dec_elim_t (not_f h8))).elim

theorem s_l01Is_t_ok (B : Bs P ρ) (E : E_s_l01Is P ρ) {n : Nat} {p : Int} {f : By} (hS : AShp p n f) (hA : ∀ i j k : Nat, i < n → j < n → k < n → Aso p n f i j k) :
    CallOK P ρ 76 [.ag [p, (n : Int)] 522 f] [] (.one (.b (decide (∀ i, i < n → Uni p n f i)))) [] := by
  refine call_of_vc B.fn B.mo E.1 rfl rfl ?_
  refine ⟨0, rfl, ?_⟩
  refine .inl ⟨1, [], _, _, _, _, [_], rfl, s_l01Shape_ok B E.2.1 , rfl, trivial, rfl, rfl, ?_⟩
  refine ⟨fun h8 => ?_, fun h8 => ?_⟩
  · skip
    exact (dec_elim_t' (not_t h8) hS).elim
  · skip
    have hb := hS.p1
    refine .inl ⟨(fun b0 i0 => St.mk [(1, .one (.pt 0 0)), (3, .one (.i .i64 ((i0 : Nat) : Int)))] [b0]) _ , fun i0 => ∀ i, i < i0 → Uni p n f i, n, fun _ _ => by omega, ⟨⟨rfl, rfl, trivial⟩, ⟨rfl, trivial⟩, rfl⟩, fun i0 hi0 hF0 => ?_⟩
    refine ⟨fun h12 => ?_, fun h12 => ?_⟩
    · replace h12 := of_decide_eq_true h12
      refine ⟨⟨by first | omega | (simp <;> omega), by first | omega | (simp <;> omega)⟩, ?_⟩
      refine ⟨1, [], _, _, _, _, [_], rfl, s_l01Basis_ok B E.2.2.1 (i := i0) (by omega), rfl, trivial, rfl, rfl, rfl, ?_⟩
      refine ⟨1, [], _, _, _, _, [_], rfl, s_l01Times_ok B E.2.2.2.1 (by omega) (by omega) (by omega), rfl, trivial, rfl, rfl, rfl, ?_⟩
      refine ⟨1, [], _, _, _, _, [_], rfl, s_l01Basis_ok B E.2.2.1 (i := i0) (by omega), rfl, trivial, rfl, rfl, rfl, ?_⟩
      refine ⟨fun h24 => ?_, fun h24 => ?_⟩
      · skip
        have z20 := neB_t h24
        refine brB_t ?_
        refine brB_t ?_
        refine brB_t ?_
        refine brB_t ?_
        refine brB_t ?_
        refine brB_t ?_
        refine brB_t ?_
        refine brB_t ?_
        refine brB_t ?_
        refine brB_t ?_
        refine ⟨rfl, [], ?_, rfl, trivial, rfl, rfl⟩
        exact one_b (dec_f fun q => z20 fun x _ => congrFun (q i0 (by omega)).1 x)
      · skip
        have z20 := neB_f h24
        refine brB_f ?_
        refine brB_f ?_
        refine ⟨1, [], _, _, _, _, [_], rfl, s_l01Basis_ok B E.2.2.1 (i := i0) (by omega), rfl, trivial, rfl, rfl, rfl, ?_⟩
        refine brB_f ?_
        refine brB_f ?_
        refine ⟨⟨by first | omega | (simp <;> omega), by first | omega | (simp <;> omega)⟩, ?_⟩
        refine brB_f ?_
        refine ⟨1, [], _, _, _, _, [_], rfl, s_l01Times_ok B E.2.2.2.1 (by omega) (by omega) (by omega), rfl, trivial, rfl, rfl, rfl, ?_⟩
        refine brB_f ?_
        refine brB_f ?_
        refine .inl ⟨1, [], _, _, _, _, [_], rfl, s_l01Basis_ok B E.2.2.1 (i := i0) (by omega), rfl, trivial, rfl, rfl, ?_⟩
        refine brB_f ?_
        refine brB_f ?_
        refine ⟨fun h34 => ?_, fun h34 => ?_⟩
        · skip
          have z27 := neB_t h34
          refine ⟨rfl, [], ?_, rfl, trivial, rfl, rfl⟩
          exact one_b (dec_f fun q => z27 fun x _ => congrFun (q i0 (by omega)).2 x)
        · skip
          have z27 := neB_f h34
          refine ⟨((i0 + 1 : Nat) : Int), w64_id _ (by omega) (by omega), ?_⟩
          refine ⟨by omega, ?_, ⟨rfl, rfl, trivial⟩, ⟨rfl, trivial⟩, rfl⟩
          intro k hk
          by_cases e : k = i0
          · subst e
            exact ⟨vec_ext (bas_out (by omega)) z20, vec_ext (bas_out (by omega)) z27⟩
          · exact hF0 k (by omega)
    · replace h12 := of_decide_eq_false h12
      have e0 : n = i0 := by omega
      subst e0
      refine .inl ⟨1, [], _, _, _, _, [_], rfl, s_l01Fault_t_ok B E.2.2.2.2 (by omega) (by omega) (by omega) hA, rfl, trivial, rfl, rfl, ?_⟩
      refine ⟨rfl, [], ?_, rfl, trivial, rfl, rfl⟩
      exact one_b (dec_t hF0)

theorem s_l01Is_f_ok (B : Bs P ρ) (E : E_s_l01Is P ρ) {n : Nat} {p : Int} {f : By} {a b c : Nat} (hS : AShp p n f) (hA : Fst n (fun i j k => ¬ Aso p n f i j k) a b c) :
    CallOK P ρ 76 [.ag [p, (n : Int)] 522 f] [] (.one (.b false)) [] := by
  refine call_of_vc B.fn B.mo E.1 rfl rfl ?_
  refine ⟨0, rfl, ?_⟩
  refine .inl ⟨1, [], _, _, _, _, [_], rfl, s_l01Shape_ok B E.2.1 , rfl, trivial, rfl, rfl, ?_⟩
  refine ⟨fun h8 => ?_, fun h8 => ?_⟩
  · skip
    exact (dec_elim_t' (not_t h8) hS).elim
  · skip
    have hb := hS.p1
    refine .inl ⟨(fun b0 i0 => St.mk [(1, .one (.pt 0 0)), (3, .one (.i .i64 ((i0 : Nat) : Int)))] [b0]) _ , fun i0 => True, n, trivial, ⟨⟨rfl, rfl, trivial⟩, ⟨rfl, trivial⟩, rfl⟩, fun i0 hi0 _ => ?_⟩
    refine ⟨fun h12 => ?_, fun h12 => ?_⟩
    · replace h12 := of_decide_eq_true h12
      refine ⟨⟨by first | omega | (simp <;> omega), by first | omega | (simp <;> omega)⟩, ?_⟩
      refine ⟨1, [], _, _, _, _, [_], rfl, s_l01Basis_ok B E.2.2.1 (i := i0) (by omega), rfl, trivial, rfl, rfl, rfl, ?_⟩
      refine ⟨1, [], _, _, _, _, [_], rfl, s_l01Times_ok B E.2.2.2.1 (by omega) (by omega) (by omega), rfl, trivial, rfl, rfl, rfl, ?_⟩
      refine ⟨1, [], _, _, _, _, [_], rfl, s_l01Basis_ok B E.2.2.1 (i := i0) (by omega), rfl, trivial, rfl, rfl, rfl, ?_⟩
      refine ⟨fun h24 => ?_, fun h24 => ?_⟩
      · skip
        refine brB_t ?_
        refine brB_t ?_
        refine brB_t ?_
        refine brB_t ?_
        refine brB_t ?_
        refine brB_t ?_
        refine brB_t ?_
        refine brB_t ?_
        refine brB_t ?_
        refine brB_t ?_
        exact ⟨rfl, [], rfl, rfl, trivial, rfl, rfl⟩
      · skip
        refine brB_f ?_
        refine brB_f ?_
        refine ⟨1, [], _, _, _, _, [_], rfl, s_l01Basis_ok B E.2.2.1 (i := i0) (by omega), rfl, trivial, rfl, rfl, rfl, ?_⟩
        refine brB_f ?_
        refine brB_f ?_
        refine ⟨⟨by first | omega | (simp <;> omega), by first | omega | (simp <;> omega)⟩, ?_⟩
        refine brB_f ?_
        refine ⟨1, [], _, _, _, _, [_], rfl, s_l01Times_ok B E.2.2.2.1 (by omega) (by omega) (by omega), rfl, trivial, rfl, rfl, rfl, ?_⟩
        refine brB_f ?_
        refine brB_f ?_
        refine .inl ⟨1, [], _, _, _, _, [_], rfl, s_l01Basis_ok B E.2.2.1 (i := i0) (by omega), rfl, trivial, rfl, rfl, ?_⟩
        refine brB_f ?_
        refine brB_f ?_
        refine ⟨fun h34 => ?_, fun h34 => ?_⟩
        · skip
          exact ⟨rfl, [], rfl, rfl, trivial, rfl, rfl⟩
        · skip
          refine ⟨((i0 + 1 : Nat) : Int), w64_id _ (by omega) (by omega), ?_⟩
          exact ⟨by omega, trivial, ⟨rfl, rfl, trivial⟩, ⟨rfl, trivial⟩, rfl⟩
    · replace h12 := of_decide_eq_false h12
      have e0 : n = i0 := by omega
      subst e0
      refine .inl ⟨1, [], _, _, _, _, [_, _], rfl, s_l01Fault_f_ok B E.2.2.2.2 (by omega) (by omega) (by omega) hA, rfl, trivial, rfl, rfl, ?_⟩
      exact ⟨rfl, [], rfl, rfl, trivial, rfl, rfl⟩

theorem s_l01Is_ok (B : Bs P ρ) (E : E_s_l01Is P ρ) {n : Int} {p : Int} {f : By} :
    CallOK P ρ 76 [.ag [p, n] 522 f] [] (.one (.b (decide (Alg p n f)))) [] := by
  by_cases hS : AShp p n f
  · obtain ⟨m, rfl⟩ : ∃ m : Nat, n = (m : Int) := ⟨n.toNat, by have := hS.1.2.1; omega⟩
    by_cases hA : ∀ i j k : Nat, i < m → j < m → k < m → Aso p m f i j k
    · have e : decide (Alg p m f) = decide (∀ i, i < m → Uni p m f i) :=
        decide_eq_decide.2 ⟨fun q i hi => q.2.1 i (by omega), fun q => ⟨hS, fun i hi => q i (by omega), hA⟩⟩
      rw [e]; exact s_l01Is_t_ok B E hS hA
    · rw [decide_eq_false fun q : Alg p m f => hA q.2.2]
      obtain ⟨a, b, c, h⟩ := Fst_ex (n := m) (bad := fun i j k => ¬ Aso p m f i j k) (fun q => hA fun i j k h1 h2 h3 => Classical.not_not.1 (q i j k h1 h2 h3))
      exact s_l01Is_f_ok B E hS h
  · rw [decide_eq_false fun q : Alg p n f => hS q.1]
    exact s_l01Is_s_ok B E hS

end Hf
namespace Hf
open Go Classical
variable {P : Program} {ρ : Nat → FuncId}
theorem byt_mod_inj {p a b : Int} (hp : 1 ≤ p) (hp2 : p ≤ 256) (h : byt (a % p) = byt (b % p)) : a % p = b % p := by
  have h1 := byt_toNat (a % p)
  have h2 := byt_toNat (b % p)
  rw [h] at h1
  have := Int.emod_nonneg a (show p ≠ 0 by omega)
  have := Int.emod_lt_of_pos a (show 0 < p by omega)
  have := Int.emod_nonneg b (show p ≠ 0 by omega)
  have := Int.emod_lt_of_pos b (show 0 < p by omega)
  omega

theorem s_l02Sums_ok (B : Bs P ρ) (E : E_s_l02Sums P ρ) {n : Nat} {p : Int} {f : By} {i j k l : Nat} (hp : 1 ≤ p) (hp2 : p ≤ 256) (hn : n ≤ 8) (hi : i < 8) (hj : j < 8) (hk : k < 8) (hl : l < 8) :
    CallOK P ρ 115 [.ag [p, (n : Int)] 522 f, .i .i64 (i : Int), .i .i64 (j : Int), .i .i64 (k : Int), .i .i64 (l : Int)] [] (.tup [.u (byt (coL n f i j k l % p)), .u (byt (coR n f i j k l % p))]) [] := by
  refine call_of_vc B.fn B.mo E.1 rfl rfl ?_
  refine ⟨0, rfl, ?_⟩
  refine .inl ⟨(fun a1 a2 a3 a4 b0 i0 => St.mk [(1, a1), (2, a2), (3, a3), (4, a4), (5, .one (.pt 0 0)), (12, .one (.i .i64 (coL i0 f i j k l))), (13, .one (.i .i64 (coR i0 f i j k l))), (14, .one (.i .i64 ((i0 : Nat) : Int)))] [b0]) _ _ _ _ _ , fun i0 => True, n, trivial, ⟨⟨rfl, rfl, rfl, rfl, rfl, rfl, rfl, rfl, trivial⟩, ⟨rfl, trivial⟩, rfl⟩, fun i0 hi0 _ => ?_⟩
  have q1 := bz2 f f (10 + i * 64 + i0 * 8 + l) (10 + i0 * 64 + j * 8 + k)
  have q2 := bz2 f f (10 + i * 64 + j * 8 + i0) (10 + i0 * 64 + k * 8 + l)
  have q3 := coL_bd (m := i0) (f := f) (i := i) (j := j) (k := k) (l := l)
  have q4 := coR_bd (m := i0) (f := f) (i := i) (j := j) (k := k) (l := l)
  refine ⟨fun h18 => ?_, fun h18 => ?_⟩
  · replace h18 := of_decide_eq_true h18
    refine ⟨i, 10 + i * 64, rfl, by omega, by omega, ?_⟩
    refine ⟨i0, 10 + i * 64 + i0 * 8, rfl, by omega, by omega, ?_⟩
    refine ⟨l, 10 + i * 64 + i0 * 8 + l, rfl, by omega, by omega, ?_⟩
    refine ⟨⟨by first | omega | (simp <;> omega), by first | omega | (simp <;> omega)⟩, ?_⟩
    refine ⟨i0, 10 + i0 * 64, rfl, by omega, by omega, ?_⟩
    refine ⟨j, 10 + i0 * 64 + j * 8, rfl, by omega, by omega, ?_⟩
    refine ⟨k, 10 + i0 * 64 + j * 8 + k, rfl, by omega, by omega, ?_⟩
    refine ⟨⟨by first | omega | (simp <;> omega), by first | omega | (simp <;> omega)⟩, ?_⟩
    refine ⟨bz f (10 + i * 64 + i0 * 8 + l) * bz f (10 + i0 * 64 + j * 8 + k), w64_id (bz f (10 + i * 64 + i0 * 8 + l) * bz f (10 + i0 * 64 + j * 8 + k)) (by omega) (by omega), ?_⟩
    refine ⟨coL i0 f i j k l + bz f (10 + i * 64 + i0 * 8 + l) * bz f (10 + i0 * 64 + j * 8 + k), w64_id (coL i0 f i j k l + bz f (10 + i * 64 + i0 * 8 + l) * bz f (10 + i0 * 64 + j * 8 + k)) (by omega) (by omega), ?_⟩
    refine ⟨i, 10 + i * 64, rfl, by omega, by omega, ?_⟩
    refine ⟨j, 10 + i * 64 + j * 8, rfl, by omega, by omega, ?_⟩
    refine ⟨i0, 10 + i * 64 + j * 8 + i0, rfl, by omega, by omega, ?_⟩
    refine ⟨⟨by first | omega | (simp <;> omega), by first | omega | (simp <;> omega)⟩, ?_⟩
    refine ⟨i0, 10 + i0 * 64, rfl, by omega, by omega, ?_⟩
    refine ⟨k, 10 + i0 * 64 + k * 8, rfl, by omega, by omega, ?_⟩
    refine ⟨l, 10 + i0 * 64 + k * 8 + l, rfl, by omega, by omega, ?_⟩
    refine ⟨⟨by first | omega | (simp <;> omega), by first | omega | (simp <;> omega)⟩, ?_⟩
    refine ⟨bz f (10 + i * 64 + j * 8 + i0) * bz f (10 + i0 * 64 + k * 8 + l), w64_id (bz f (10 + i * 64 + j * 8 + i0) * bz f (10 + i0 * 64 + k * 8 + l)) (by omega) (by omega), ?_⟩
    refine ⟨coR i0 f i j k l + bz f (10 + i * 64 + j * 8 + i0) * bz f (10 + i0 * 64 + k * 8 + l), w64_id (coR i0 f i j k l + bz f (10 + i * 64 + j * 8 + i0) * bz f (10 + i0 * 64 + k * 8 + l)) (by omega) (by omega), ?_⟩
    refine ⟨((i0 + 1 : Nat) : Int), w64_id _ (by omega) (by omega), ?_⟩
    exact ⟨by omega, trivial, ⟨rfl, rfl, rfl, rfl, rfl, rfl, rfl, rfl, trivial⟩, ⟨rfl, trivial⟩, rfl⟩
  · replace h18 := of_decide_eq_false h18
    have e0 : n = i0 := by omega
    subst e0
    refine ⟨1, [], _, _, _, _, [_], rfl, s_l01Mod_ok B E.2 hp (by omega), rfl, trivial, rfl, rfl, rfl, ?_⟩
    refine .inl ⟨1, [], _, _, _, _, [_], rfl, s_l01Mod_ok B E.2 hp (by omega), rfl, trivial, rfl, rfl, ?_⟩
    exact ⟨rfl, [], rfl, rfl, trivial, rfl, rfl⟩

theorem s_l02Fault_t_ok (B : Bs P ρ) (E : E_s_l02Fault P ρ) {n : Nat} {p : Int} {f : By} (hp : 1 ≤ p) (hp2 : p ≤ 256) (hn : n ≤ 8) (hA : ∀ t : Nat, t < n * n * n * n → CoaT p n f t) :
    CallOK P ρ 99 [.ag [p, (n : Int)] 522 f] [] (.tup [.sn, .b false]) [] := by
  refine call_of_vc B.fn B.mo E.1 rfl rfl ?_
  have hpw := pw hn
  refine ⟨0, rfl, ?_⟩
  refine .inl ⟨(fun a4 b0 i0 => St.mk [(1, .one (.pt 0 0)), (4, a4), (5, .one (.i .i64 ((i0 : Nat) : Int)))] [b0]) _ _ , fun i0 => True, n * n * n * n, trivial, ⟨⟨rfl, rfl, rfl, trivial⟩, ⟨rfl, trivial⟩, rfl⟩, fun i0 hi0 _ => ?_⟩
  refine ⟨((n * n : Nat) : Int), ml (by omega), ?_⟩
  refine ⟨((n * n * n : Nat) : Int), ml (by omega), ?_⟩
  refine ⟨((n * n * n * n : Nat) : Int), ml (by omega), ?_⟩
  refine ⟨fun h22 => ?_, fun h22 => ?_⟩
  · replace h22 := of_decide_eq_true h22
    have hlt : i0 < n * n * n * n := by omega
    have hd := dig hlt
    refine ⟨((n * n : Nat) : Int), ml (by omega), ?_⟩
    refine ⟨((n * n * n : Nat) : Int), ml (by omega), ?_⟩
    refine ⟨by have : n * n * n ≠ 0 := Nat.ne_of_gt (Nat.mul_pos (Nat.mul_pos hd.1 hd.1) hd.1); omega, ((i0 / (n * n * n) : Nat) : Int), qd (by omega), ?_⟩
    refine ⟨((n * n : Nat) : Int), ml (by omega), ?_⟩
    refine ⟨by have : n * n ≠ 0 := Nat.ne_of_gt (Nat.mul_pos hd.1 hd.1); omega, ((i0 / (n * n) : Nat) : Int), qd (by omega), ?_⟩
    refine ⟨by omega, ((i0 / (n * n) % n : Nat) : Int), rm, ?_⟩
    refine ⟨by omega, ((i0 / n : Nat) : Int), qd (by omega), ?_⟩
    refine ⟨by omega, ((i0 / n % n : Nat) : Int), rm, ?_⟩
    refine ⟨by omega, ((i0 % n : Nat) : Int), rm, ?_⟩
    refine .inl ⟨1, [], _, _, _, _, [_], rfl, s_l02Sums_ok B E.2 hp hp2 hn (i := i0 / (n * n * n)) (j := i0 / (n * n) % n) (k := i0 / n % n) (l := i0 % n) (by omega) (by omega) (by omega) (by omega), rfl, trivial, rfl, rfl, ?_⟩
    refine ⟨fun h58 => ?_, fun h58 => ?_⟩
    · replace h58 := bne_t h58
      exact (h58 (congrArg byt (hA i0 hlt))).elim
    · replace h58 := bne_f h58
      refine ⟨((i0 + 1 : Nat) : Int), w64_id _ (by omega) (by omega), ?_⟩
      exact ⟨by omega, trivial, ⟨rfl, rfl, rfl, trivial⟩, ⟨rfl, trivial⟩, rfl⟩
  · replace h22 := of_decide_eq_false h22
    have e0 : n * n * n * n = i0 := by omega
    exact ⟨rfl, [], rfl, rfl, trivial, rfl, rfl⟩

theorem s_l02Fault_f_ok (B : Bs P ρ) (E : E_s_l02Fault P ρ) {n : Nat} {p : Int} {f : By} {a : Nat} (hp : 1 ≤ p) (hp2 : p ≤ 256) (hn : n ≤ 8) (ha : a < n * n * n * n) (hA : ¬ CoaT p n f a) (hL : ∀ t, t < a → CoaT p n f t) :
    CallOK P ρ 99 [.ag [p, (n : Int)] 522 f] [] (.tup [.sl 0 0 4 4, .b true]) [⟨false, .rw [.i .i64 ((a / (n * n * n) : Nat) : Int), .i .i64 ((a / (n * n) % n : Nat) : Int), .i .i64 ((a / n % n : Nat) : Int), .i .i64 ((a % n : Nat) : Int)]⟩] := by
  refine call_of_vc B.fn B.mo E.1 rfl rfl ?_
  have hpw := pw hn
  refine ⟨0, rfl, ?_⟩
  refine .inl ⟨(fun a4 b0 i0 => St.mk [(1, .one (.pt 0 0)), (4, a4), (5, .one (.i .i64 ((i0 : Nat) : Int)))] [b0]) _ _ , fun i0 => ∀ t, t < i0 → CoaT p n f t, n * n * n * n, fun _ _ => by omega, ⟨⟨rfl, rfl, rfl, trivial⟩, ⟨rfl, trivial⟩, rfl⟩, fun i0 hi0 hF0 => ?_⟩
  refine ⟨((n * n : Nat) : Int), ml (by omega), ?_⟩
  refine ⟨((n * n * n : Nat) : Int), ml (by omega), ?_⟩
  refine ⟨((n * n * n * n : Nat) : Int), ml (by omega), ?_⟩
  refine ⟨fun h22 => ?_, fun h22 => ?_⟩
  · replace h22 := of_decide_eq_true h22
    have hlt : i0 < n * n * n * n := by omega
    have hd := dig hlt
    refine ⟨((n * n : Nat) : Int), ml (by omega), ?_⟩
    refine ⟨((n * n * n : Nat) : Int), ml (by omega), ?_⟩
    refine ⟨by have : n * n * n ≠ 0 := Nat.ne_of_gt (Nat.mul_pos (Nat.mul_pos hd.1 hd.1) hd.1); omega, ((i0 / (n * n * n) : Nat) : Int), qd (by omega), ?_⟩
    refine ⟨((n * n : Nat) : Int), ml (by omega), ?_⟩
    refine ⟨by have : n * n ≠ 0 := Nat.ne_of_gt (Nat.mul_pos hd.1 hd.1); omega, ((i0 / (n * n) : Nat) : Int), qd (by omega), ?_⟩
    refine ⟨by omega, ((i0 / (n * n) % n : Nat) : Int), rm, ?_⟩
    refine ⟨by omega, ((i0 / n : Nat) : Int), qd (by omega), ?_⟩
    refine ⟨by omega, ((i0 / n % n : Nat) : Int), rm, ?_⟩
    refine ⟨by omega, ((i0 % n : Nat) : Int), rm, ?_⟩
    refine .inl ⟨1, [], _, _, _, _, [_], rfl, s_l02Sums_ok B E.2 hp hp2 hn (i := i0 / (n * n * n)) (j := i0 / (n * n) % n) (k := i0 / n % n) (l := i0 % n) (by omega) (by omega) (by omega) (by omega), rfl, trivial, rfl, rfl, ?_⟩
    refine ⟨fun h58 => ?_, fun h58 => ?_⟩
    · replace h58 := bne_t h58
      have q : ¬ CoaT p n f i0 := fun q => h58 (congrArg byt q)
      have e : i0 = a := by
        rcases Nat.lt_trichotomy i0 a with e | e | e
        · exact (q (hL i0 e)).elim
        · exact e
        · exact (hA (hF0 a e)).elim
      refine ⟨1, rfl, ?_⟩
      refine ⟨rfl, [1], rfl, rfl, ⟨?_, trivial⟩, rfl, rfl⟩
      show some (Blk.mk false (.rw [.i .i64 ((i0 / (n * n * n) : Nat) : Int), .i .i64 ((i0 / (n * n) % n : Nat) : Int), .i .i64 ((i0 / n % n : Nat) : Int), .i .i64 ((i0 % n : Nat) : Int)])) = some (Blk.mk false (.rw [.i .i64 ((a / (n * n * n) : Nat) : Int), .i .i64 ((a / (n * n) % n : Nat) : Int), .i .i64 ((a / n % n : Nat) : Int), .i .i64 ((a % n : Nat) : Int)]))
      rw [e]
    · replace h58 := bne_f h58
      have q : CoaT p n f i0 := byt_mod_inj hp hp2 h58
      refine ⟨((i0 + 1 : Nat) : Int), w64_id _ (by omega) (by omega), ?_⟩
      refine ⟨by omega, ?_, ⟨rfl, rfl, rfl, trivial⟩, ⟨rfl, trivial⟩, rfl⟩
      intro t ht
      by_cases e : t = i0
      · rw [e]; exact q
      · exact hF0 t (by omega)
  · replace h22 := of_decide_eq_false h22
    have e0 : n * n * n * n = i0 := by omega
    exact (hA (hF0 a (by omega))).elim

theorem s_l02Counits_ok (B : Bs P ρ) (E : E_s_l02Counits P ρ) {n : Nat} {p : Int} {f : By} (hp : 1 ≤ p) (hp2 : p ≤ 256) (hn : n ≤ 8) :
    CallOK P ρ 100 [.ag [p, (n : Int)] 522 f] [] (.one (.b (decide (∀ i, i < n → Cou p n f i)))) [] := by
  refine call_of_vc B.fn B.mo E.1 rfl rfl ?_
  refine ⟨0, rfl, ?_⟩
  refine .inl ⟨(fun b0 i0 => St.mk [(1, .one (.pt 0 0)), (3, .one (.i .i64 ((i0 : Nat) : Int)))] [b0]) _ , fun i0 => ∀ i, i < i0 → Cou p n f i, n, fun _ _ => by omega, ⟨⟨rfl, rfl, trivial⟩, ⟨rfl, trivial⟩, rfl⟩, fun i0 hi0 hF0 => ?_⟩
  refine ⟨fun h12 => ?_, fun h12 => ?_⟩
  · replace h12 := of_decide_eq_true h12
    refine ⟨1, rfl, ?_⟩
    refine ⟨2, rfl, ?_⟩
    refine ⟨⟨rfl, by first | omega | (simp <;> omega), by first | omega | (simp <;> omega)⟩, ?_⟩   -- sta ['.t', 4] ['.t', 15] 8
    refine ⟨⟨rfl, by first | omega | (simp <;> omega), by first | omega | (simp <;> omega)⟩, ?_⟩   -- sta ['.t', 5] ['.t', 16] 8
    refine .inl ⟨(fun a3 b0 i1 => St.mk [(1, .one (.pt 0 0)), (3, a3), (4, .one (.pt 1 0)), (5, .one (.pt 2 0)), (6, .one (.i .i64 ((i1 : Nat) : Int)))] [b0, Blk.mk false (.by [] 8 (vec 8 p fun x => cuL i1 f i0 x)), Blk.mk false (.by [] 8 (vec i1 p (cuR n f i0)))]) _ _ , fun i1 => True, n, trivial, ⟨⟨rfl, rfl, rfl, rfl, rfl, trivial⟩, ⟨rfl, ?_, ?_, trivial⟩, rfl⟩, fun i1 hi1 _ => ?_⟩
    · refine blk_by ?_
      rw [z_sta]
      exact vec_0.symm
    · refine blk_by ?_
      rw [z_sta]
      rfl
    have q0 := bz_nn f (2 + i1)
    have q1 := bz_le f (2 + i1)
    refine ⟨fun h20 => ?_, fun h20 => ?_⟩
    · replace h20 := of_decide_eq_true h20
      refine ⟨⟨by first | omega | (simp <;> omega), by first | omega | (simp <;> omega)⟩, ?_⟩
      refine ⟨i0, 10 + i0 * 64, rfl, by omega, by omega, ?_⟩
      refine ⟨i1, 10 + i0 * 64 + i1 * 8, rfl, by omega, by omega, ?_⟩
      refine ⟨⟨by first | omega | (simp <;> omega), by first | omega | (simp <;> omega)⟩, ?_⟩
      refine ⟨i1, 2 + i1, rfl, by omega, by omega, ?_⟩
      refine ⟨⟨by first | omega | (simp <;> omega), by first | omega | (simp <;> omega)⟩, ?_⟩
      refine .inl ⟨3, [], _, _, _, _, [_, _, _], rfl, s_l01Add_ok B E.2.1 (k := bz f (2 + i1)) hp (by omega) (by omega) (by omega), rfl, trivial, rfl, rfl, ?_⟩
      refine ⟨⟨rfl, by first | omega | (simp <;> omega), by first | omega | (simp <;> omega)⟩, ?_⟩   -- sta ['.t', 4] ['.t', 37] 8
      refine .inl ⟨(fun a3 a6 b0 b1 b2 i2 => St.mk [(1, .one (.pt 0 0)), (3, a3), (4, .one (.pt 1 0)), (5, .one (.pt 2 0)), (6, a6), (7, .one (.i .i64 (cuR i2 f i0 i1))), (8, .one (.i .i64 ((i2 : Nat) : Int)))] [b0, b1, b2]) _ _ _ _ _ , fun i2 => True, n, trivial, ⟨⟨rfl, rfl, rfl, rfl, rfl, rfl, rfl, trivial⟩, ⟨rfl, rfl, rfl, trivial⟩, rfl⟩, fun i2 hi2 _ => ?_⟩
      have q2 := bz2 f f (2 + i2) (10 + i0 * 64 + i1 * 8 + i2)
      have q3 := sm_bd (n := i2) (x := fun k => bz f (2 + k) * bz f (10 + i0 * 64 + i1 * 8 + k)) (A := 65025) fun k _ => bz2 f f _ _
      have q4 : sm i2 (fun k => bz f (2 + k) * bz f (10 + i0 * 64 + i1 * 8 + k)) = cuR i2 f i0 i1 := rfl
      refine ⟨fun h41 => ?_, fun h41 => ?_⟩
      · replace h41 := of_decide_eq_true h41
        refine ⟨i2, 2 + i2, rfl, by omega, by omega, ?_⟩
        refine ⟨⟨by first | omega | (simp <;> omega), by first | omega | (simp <;> omega)⟩, ?_⟩
        refine ⟨i0, 10 + i0 * 64, rfl, by omega, by omega, ?_⟩
        refine ⟨i1, 10 + i0 * 64 + i1 * 8, rfl, by omega, by omega, ?_⟩
        refine ⟨i2, 10 + i0 * 64 + i1 * 8 + i2, rfl, by omega, by omega, ?_⟩
        refine ⟨⟨by first | omega | (simp <;> omega), by first | omega | (simp <;> omega)⟩, ?_⟩
        refine ⟨bz f (2 + i2) * bz f (10 + i0 * 64 + i1 * 8 + i2), w64_id (bz f (2 + i2) * bz f (10 + i0 * 64 + i1 * 8 + i2)) (by omega) (by omega), ?_⟩
        refine ⟨cuR i2 f i0 i1 + bz f (2 + i2) * bz f (10 + i0 * 64 + i1 * 8 + i2), w64_id (cuR i2 f i0 i1 + bz f (2 + i2) * bz f (10 + i0 * 64 + i1 * 8 + i2)) (by omega) (by omega), ?_⟩
        refine ⟨((i2 + 1 : Nat) : Int), w64_id _ (by omega) (by omega), ?_⟩
        exact ⟨by omega, trivial, ⟨rfl, rfl, rfl, rfl, rfl, rfl, rfl, trivial⟩, ⟨rfl, rfl, rfl, trivial⟩, rfl⟩
      · replace h41 := of_decide_eq_false h41
        have e2 : n = i2 := by omega
        subst e2
        refine .inl ⟨3, [], _, _, _, _, [_, _, _], rfl, s_l01Mod_ok B E.2.2.1 hp (by omega), rfl, trivial, rfl, rfl, ?_⟩
        refine ⟨i1, i1, rfl, by omega, by omega, ?_⟩
        refine ⟨⟨by first | omega | (simp <;> omega), by first | omega | (simp <;> omega)⟩, ?_⟩   -- st8 ['.t', 66] ['.t', 65]
        refine ⟨((i1 + 1 : Nat) : Int), w64_id _ (by omega) (by omega), ?_⟩
        refine ⟨by omega, trivial, ⟨rfl, rfl, rfl, rfl, rfl, trivial⟩, ⟨rfl, ?_, ?_, trivial⟩, rfl⟩
        · refine blk_by ?_
          rw [spl_plsN, pl_vec0 hp hp2]
          exact vec_congr fun y _ => cg_of_eq rfl
        · exact blk_by (upd_vec rfl).symm
    · replace h20 := of_decide_eq_false h20
      have e1 : n = i1 := by omega
      subst e1
      refine ⟨⟨by first | omega | (simp <;> omega), by first | omega | (simp <;> omega)⟩, ?_⟩
      refine ⟨3, [], _, _, _, _, [_, _, _], rfl, s_l01Basis_ok B E.2.2.2 (i := i0) (by omega), rfl, trivial, rfl, rfl, rfl, ?_⟩
      refine ⟨fun h71 => ?_, fun h71 => ?_⟩
      · skip
        have z61 := neB_t h71
        rw [sh_zero] at z61
        refine brB_t ?_
        refine brB_t ?_
        refine brB_t ?_
        refine brB_t ?_
        refine brB_t ?_
        refine ⟨rfl, [], ?_, rfl, trivial, rfl, rfl⟩
        exact one_b (dec_f fun q => z61 fun x _ => congrFun (q i0 (by omega)).1 x)
      · skip
        have z61 := neB_f h71
        rw [sh_zero] at z61
        refine ⟨⟨by first | omega | (simp <;> omega), by first | omega | (simp <;> omega)⟩, ?_⟩
        refine brB_f ?_
        refine brB_f ?_
        refine ⟨3, [], _, _, _, _, [_, _, _], rfl, s_l01Basis_ok B E.2.2.2 (i := i0) (by omega), rfl, trivial, rfl, rfl, rfl, ?_⟩
        refine brB_f ?_
        refine brB_f ?_
        refine ⟨fun h76 => ?_, fun h76 => ?_⟩
        · skip
          have z66 := neB_t h76
          rw [sh_zero] at z66
          refine ⟨rfl, [], ?_, rfl, trivial, rfl, rfl⟩
          exact one_b (dec_f fun q => z66 fun x _ => congrFun (q i0 (by omega)).2 x)
        · skip
          have z66 := neB_f h76
          rw [sh_zero] at z66
          refine ⟨((i0 + 1 : Nat) : Int), w64_id _ (by omega) (by omega), ?_⟩
          refine ⟨by omega, ?_, ⟨rfl, rfl, trivial⟩, ⟨rfl, trivial⟩, rfl⟩
          intro k hk
          by_cases e : k = i0
          · subst e
            refine ⟨vec_ext (bas_out (by omega)) z61, ?_⟩
            funext x
            by_cases hx : x < 8
            · exact z66 x hx
            · rw [vec_out (by omega), bas_out (by omega) x (by omega)]
          · exact hF0 k (by omega)
  · replace h12 := of_decide_eq_false h12
    have e0 : n = i0 := by omega
    subst e0
    refine ⟨rfl, [], ?_, rfl, trivial, rfl, rfl⟩
    exact one_b (dec_t hF0)

theorem s_l02Is_s_ok (B : Bs P ρ) (E : E_s_l02Is P ρ) {n : Int} {p : Int} {f : By} (hS : ¬ CShp p n f) :
    CallOK P ρ 77 [.ag [p, n] 522 f] [] (.one (.b false)) [] := by
  refine call_of_vc B.fn B.mo E.1 rfl rfl ?_
  refine ⟨0, rfl, ?_⟩
  refine .inl ⟨1, [], _, _, _, _, [_], rfl, s_l02Shape_ok B E.2.1 , rfl, trivial, rfl, rfl, ?_⟩
  refine ⟨fun h7 => ?_, fun h7 => ?_⟩
  · skip
    exact ⟨rfl, [], rfl, rfl, trivial, rfl, rfl⟩
  · skip
    exact (hS (dec_elim_t (not_f h7))).elim

theorem s_l02Is_t_ok (B : Bs P ρ) (E : E_s_l02Is P ρ) {n : Nat} {p : Int} {f : By} (hS : CShp p n f) (hA : ∀ t : Nat, t < n * n * n * n → CoaT p n f t) :
    CallOK P ρ 77 [.ag [p, (n : Int)] 522 f] [] (.one (.b (decide (∀ i, i < n → Cou p n f i)))) [] := by
  refine call_of_vc B.fn B.mo E.1 rfl rfl ?_
  have hb := AShp.p1 hS
  refine ⟨0, rfl, ?_⟩
  refine .inl ⟨1, [], _, _, _, _, [_], rfl, s_l02Shape_ok B E.2.1 , rfl, trivial, rfl, rfl, ?_⟩
  refine ⟨fun h7 => ?_, fun h7 => ?_⟩
  · skip
    exact (dec_elim_t' (not_t h7) hS).elim
  · skip
    refine .inl ⟨1, [], _, _, _, _, [_], rfl, s_l02Fault_t_ok B E.2.2.1 (by omega) (by omega) (by omega) hA, rfl, trivial, rfl, rfl, ?_⟩
    refine ⟨fun h15 => ?_, fun h15 => ?_⟩
    · skip
      refine brB_t ?_
      refine .inl ⟨1, [], _, _, _, _, [_], rfl, s_l02Counits_ok B E.2.2.2 (by omega) (by omega) (by omega), rfl, trivial, rfl, rfl, ?_⟩
      refine brB_t ?_
      exact ⟨rfl, [], rfl, rfl, trivial, rfl, rfl⟩
    · skip
      exact absurd h15 (by decide)

theorem s_l02Is_f_ok (B : Bs P ρ) (E : E_s_l02Is P ρ) {n : Nat} {p : Int} {f : By} {a : Nat} (hS : CShp p n f) (ha : a < n * n * n * n) (hA : ¬ CoaT p n f a) (hL : ∀ t, t < a → CoaT p n f t) :
    CallOK P ρ 77 [.ag [p, (n : Int)] 522 f] [] (.one (.b false)) [] := by
  refine call_of_vc B.fn B.mo E.1 rfl rfl ?_
  have hb := AShp.p1 hS
  refine ⟨0, rfl, ?_⟩
  refine .inl ⟨1, [], _, _, _, _, [_], rfl, s_l02Shape_ok B E.2.1 , rfl, trivial, rfl, rfl, ?_⟩
  refine ⟨fun h7 => ?_, fun h7 => ?_⟩
  · skip
    exact (dec_elim_t' (not_t h7) hS).elim
  · skip
    refine .inl ⟨1, [], _, _, _, _, [_, _], rfl, s_l02Fault_f_ok B E.2.2.1 (by omega) (by omega) (by omega) ha hA hL, rfl, trivial, rfl, rfl, ?_⟩
    refine ⟨fun h15 => ?_, fun h15 => ?_⟩
    · skip
      exact absurd h15 (by decide)
    · skip
      refine brB_f ?_
      refine brB_f ?_
      exact ⟨rfl, [], rfl, rfl, trivial, rfl, rfl⟩

theorem s_l02Is_ok (B : Bs P ρ) (E : E_s_l02Is P ρ) {n : Int} {p : Int} {f : By} :
    CallOK P ρ 77 [.ag [p, n] 522 f] [] (.one (.b (decide (Cog p n f)))) [] := by
  by_cases hS : CShp p n f
  · obtain ⟨m, rfl⟩ : ∃ m : Nat, n = (m : Int) := ⟨n.toNat, by have := hS.1.2.1; omega⟩
    by_cases hA : ∀ t : Nat, t < m * m * m * m → CoaT p m f t
    · have e : decide (Cog p m f) = decide (∀ i, i < m → Cou p m f i) :=
        decide_eq_decide.2 ⟨fun q i hi => q.2.1 i (by omega), fun q => ⟨hS, fun i hi => q i (by omega), hA⟩⟩
      rw [e]; exact s_l02Is_t_ok B E hS hA
    · rw [decide_eq_false fun q : Cog p m f => hA q.2.2]
      obtain ⟨a, ⟨h1, h2⟩, h3⟩ := least (q := fun t => t < m * m * m * m ∧ ¬ CoaT p m f t) (by
        simp only [Classical.not_forall] at hA
        obtain ⟨t, ht, h⟩ := hA
        exact ⟨t, ht, h⟩)
      exact s_l02Is_f_ok B E hS h1 h2 fun t ht => Classical.byContradiction fun q => h3 t ht ⟨by omega, q⟩
  · rw [decide_eq_false fun q : Cog p n f => hS q.1]
    exact s_l02Is_s_ok B E hS

end Hf
namespace Hf
open Go Classical
variable {P : Program} {ρ : Nat → FuncId}
noncomputable def ob (q : Prop) (f : By) : By := if q then f else fun _ => 0
noncomputable def oc (q : Prop) (c : Int) : Int := if q then 0 else c
theorem oc_t {q : Prop} (h : q) {c : Int} : oc q c = 0 := if_pos h
theorem oc_f {q : Prop} (h : ¬ q) {c : Int} : oc q c = c := if_neg h

-- left out: i_RegularModule (not among the functions at hand)
-- left out: s_RegularModule (not among the functions at hand)
-- left out: l_FnExactRegularModule (not among the functions at hand)

end Hf
namespace Hf
open Go Classical
variable {P : Program} {ρ : Nat → FuncId}
theorem vec_more {a N : Nat} {p : Int} {X : Nat → Int} (h : a ≤ N) (h0 : ∀ y, a ≤ y → y < N → X y = 0) : vec a p X = vec N p X := by
  funext y
  simp only [vec]
  by_cases e : y < a
  · rw [if_pos e, if_pos (by omega)]
  · rw [if_neg e]
    by_cases e2 : y < N
    · rw [if_pos e2, h0 y (by omega) e2]; simp; rfl
    · rw [if_neg e2]
end Hf
namespace Hf
open Go Classical
variable {P : Program} {ρ : Nat → FuncId}
theorem sm_bas {d k : Nat} {X : Nat → Int} (hk : k < d) : sm d (fun l => bz (bas k) l * X l) = X k := by
  have e : ∀ l, bz (bas k) l = if l = k then 1 else 0 := fun l => by
    simp only [bz, bas]; split <;> rfl
  rw [sm_ext (n := k + 1) (by omega) fun l h1 h2 => by rw [e l, if_neg (by omega), Int.zero_mul]]
  simp only [sm]
  rw [sm_zero fun l hl => by rw [e l, if_neg (by omega), Int.zero_mul], e k, if_pos rfl]; omega
/-- the tables of a module: Acts stand from 1 on -/
def TabM (p n d : Int) (g : By) : Prop := ∀ i : Nat, i < 8 → Lin p d d g (1 + i * 64) ∧ (n ≤ i → ∀ k : Nat, k < 64 → bz g (1 + i * 64 + k) = 0)
def MU (p : Int) (n : Nat) (g f : By) (k : Nat) : Prop := ∀ y, y < 8 → cg p (sm n fun l => bz f (2 + l) * bz g (1 + l * 64 + (k * 8 + y))) (bz (bas k) y)
def MA (p : Int) (n d : Nat) (g f : By) (i j k : Nat) : Prop := ∀ y, y < 8 → cg p (sm n fun l => bz f (10 + i * 64 + j * 8 + l) * bz g (1 + l * 64 + (k * 8 + y))) (sm d fun l => bz g (1 + j * 64 + k * 8 + l) * bz g (1 + i * 64 + (l * 8 + y)))
def Mod (p : Int) (n : Nat) (d : Int) (g f : By) : Prop := (Shp p d ∧ TabM p n d g) ∧ (∀ k, k < d.toNat → MU p n g f k) ∧ ∀ i j, i < n → j < n → ∀ k, k < d.toNat → MA p n d.toNat g f i j k
theorem TabM.z {p n d : Int} {g : By} (h : TabM p n d g) {i k l : Nat} (hi : i < 8) (hk : k < 8) (hl : l < 8) (hz : n ≤ i ∨ d ≤ k ∨ d ≤ l) : bz g (1 + i * 64 + k * 8 + l) = 0 := by
  have h1 := h i hi
  rcases hz with hz | hz | hz
  · have := h1.2 hz (k * 8 + l) (by omega)
    rwa [← Nat.add_assoc] at this
  · exact (h1.1 k hk).2 hz l hl
  · exact ((h1.1 k hk).1 l hl).2 hz
end Hf
namespace Hf
open Go Classical
variable {P : Program} {ρ : Nat → FuncId}
/-- the first number other than 0 -/
def fz : List Int → Int
  | [] => 0
  | a :: r => if a ≠ 0 then a else fz r
theorem oc_dec {q : Prop} [Decidable q] {c : Int} : (if decide q = true then 0 else c) = oc q c := by
  by_cases h : q
  · rw [if_pos (decide_eq_true h), oc_t h]
  · rw [if_neg (by simp [h]), oc_f h]
end Hf
namespace Hf
open Go Classical
variable {P : Program} {ρ : Nat → FuncId}
/-- a table of 64 by its places; only those that r names -/
noncomputable def s2 (r : Nat → Nat → Prop) (G : Nat → Nat → UInt8) : By := fun x => if x < 64 ∧ r (x / 8) (x % 8) then G (x / 8) (x % 8) else 0
theorem s2_upd {r r' : Nat → Nat → Prop} {G : Nat → Nat → UInt8} {a0 b0 : Nat} (ha : a0 < 8) (hb : b0 < 8) (h : ∀ a b, a < 8 → b < 8 → (r' a b ↔ r a b ∨ (a = a0 ∧ b = b0))) :
    upd (s2 r G) (a0 * 8 + b0) (G a0 b0) = s2 r' G := by
  funext x
  simp only [upd, s2]
  by_cases e : x = a0 * 8 + b0
  · rw [if_pos e, show x / 8 = a0 by omega, show x % 8 = b0 by omega, if_pos ⟨by omega, (h _ _ ha hb).2 (.inr ⟨rfl, rfl⟩)⟩]
  · rw [if_neg e]
    by_cases hx : x < 64
    · have h1 := h (x / 8) (x % 8) (by omega) (by omega)
      have h2 : ¬ (x / 8 = a0 ∧ x % 8 = b0) := by omega
      by_cases q : r (x / 8) (x % 8)
      · rw [if_pos ⟨hx, q⟩, if_pos ⟨hx, h1.2 (.inl q)⟩]
      · rw [if_neg fun k => q k.2, if_neg fun k => (h1.1 k.2).elim q h2]
    · rw [if_neg fun k => hx k.1, if_neg fun k => hx k.1]
theorem s2_eq {r r' : Nat → Nat → Prop} {G : Nat → Nat → UInt8} (h : ∀ a b, a < 8 → b < 8 → (r a b ↔ r' a b)) : s2 r G = s2 r' G := by
  funext x
  simp only [s2]
  by_cases hx : x < 64
  · have h1 := h (x / 8) (x % 8) (by omega) (by omega)
    by_cases q : r (x / 8) (x % 8)
    · rw [if_pos ⟨hx, q⟩, if_pos ⟨hx, h1.1 q⟩]
    · rw [if_neg fun k => q k.2, if_neg fun k => q (h1.2 k.2)]
  · rw [if_neg fun k => hx k.1, if_neg fun k => hx k.1]
theorem s2_z {r : Nat → Nat → Prop} {G : Nat → Nat → UInt8} (h : ∀ a b, a < 8 → b < 8 → ¬ r a b) : s2 r G = fun _ => 0 := by
  funext x
  simp only [s2]
  by_cases hx : x < 64
  · rw [if_neg fun k => h _ _ (by omega) (by omega) k.2]
  · rw [if_neg fun k => hx k.1]
theorem s2_out {r : Nat → Nat → Prop} {G : Nat → Nat → UInt8} : sh (spl (fun _ => 0) 0 64 (sh (s2 r G) 0)) 0 = s2 r G := out_eq (fun _ _ => rfl) fun k h => by simp only [s2]; rw [if_neg (by omega)]
/-- rows and columns exchanged -/
def trG (F : By) (a b : Nat) : UInt8 := F (b * 8 + a)
noncomputable def trT (F : By) : By := s2 (fun _ _ => True) (trG F)
theorem trT_app {F : By} {a b : Nat} (ha : a < 8) (hb : b < 8) : trT F (a * 8 + b) = F (b * 8 + a) := by
  simp only [trT, s2, trG]
  rw [if_pos ⟨by omega, trivial⟩, show (a * 8 + b) / 8 = a by omega, show (a * 8 + b) % 8 = b by omega]
end Hf
namespace Hf
open Go Classical
variable {P : Program} {ρ : Nat → FuncId}
theorem cat_u {N x : Nat} {f : By} (h : x < N) : cat (.by [] N f) x = some (.u (f x)) := by simp [cat, h]
theorem cat_hu {hd : List Int} {N x : Nat} {f : By} (h0 : hd.length ≤ x) (h : x < N) : cat (.by hd N f) x = some (.u (f x)) := by
  simp [cat, h, List.getElem?_eq_none h0]
theorem cput_u {hd : List Int} {N x : Nat} {f : By} {v : UInt8} (h0 : hd.length ≤ x) (h : x < N) : cput (.by hd N f) x (.u v) = some (.by hd N (upd f x v)) := if_pos ⟨h0, h⟩
theorem cputs_by {hd : List Int} {N off n : Nat} {f g : By} (h0 : hd.length ≤ off) (h : off + n ≤ N) : cputs (.by hd N f) off (.ag [] n g) n = some (.by hd N (spl f off n g)) := if_pos ⟨rfl, h0, h⟩
theorem Ext.nil {H : List Blk} : Ext [] H := fun k B h => by simp at h
theorem Ext.get {H H' : List Blk} (h : Ext H H') {k : Nat} {B : Blk} (e : H[k]? = some B) : H'[k]? = some B := h k B e
theorem get_new {H : List Blk} {B : Blk} : (H ++ [B])[H.length]? = some B := by simp
theorem lt_of {H : List Blk} {k : Nat} {B : Blk} (e : H[k]? = some B) : k < H.length := (List.getElem?_eq_some_iff.1 e).1
theorem set_same {H : List Blk} {k : Nat} {A B : Blk} (e : H[k]? = some A) : (H.set k B)[k]? = some B := by
  have := lt_of e; simp [this]
theorem set_other {H : List Blk} {k j : Nat} {A B : Blk} (e : H[j]? = some A) (h : k ≠ j) : (H.set k B)[j]? = some A := by
  rw [List.getElem?_set_ne h]; exact e
theorem app_old {H G : List Blk} {j : Nat} {A : Blk} (e : H[j]? = some A) : (H ++ G)[j]? = some A := Ext.app _ _ e

/-- the first place of n, from i on, at which q holds, else where they end -/
def fstN (q : Nat → Bool) : Nat → Nat → Nat
  | 0, i => i
  | n + 1, i => if q i = true then i else fstN q n (i + 1)
theorem fstN_ge {q : Nat → Bool} : ∀ {n i : Nat}, i ≤ fstN q n i ∧ fstN q n i ≤ i + n
  | 0, i => by simp [fstN]
  | n + 1, i => by
    simp only [fstN]
    split
    · omega
    · have := @fstN_ge q n (i + 1); omega
theorem fstN_eq {q : Nat → Bool} {k : Nat} : ∀ {n i : Nat}, i ≤ k → k < i + n → q k = true → (∀ j, i ≤ j → j < k → q j = false) → fstN q n i = k
  | 0, i, h1, h2, _, _ => by omega
  | n + 1, i, h1, h2, h3, h4 => by
    simp only [fstN]
    by_cases e : i = k
    · subst e; rw [if_pos h3]
    · rw [if_neg (by rw [h4 i (Nat.le_refl _) (by omega)]; simp)]
      exact fstN_eq (by omega) (by omega) h3 fun j h5 h6 => h4 j (by omega) h6
theorem fstN_none {q : Nat → Bool} : ∀ {n i : Nat} (j : Nat), i ≤ j → j < fstN q n i → q j = false
  | 0, i, j, h1, h2 => by simp only [fstN] at h2; omega
  | n + 1, i, j, h1, h2 => by
    simp only [fstN] at h2
    split at h2
    · omega
    · rename_i h
      rcases Nat.eq_or_lt_of_le h1 with e | e
      · subst e; simpa using h
      · exact fstN_none j e h2
theorem fstN_some {q : Nat → Bool} : ∀ {n i : Nat}, fstN q n i < i + n → q (fstN q n i) = true
  | 0, i, h => by simp only [fstN] at h; omega
  | n + 1, i, h => by
    simp only [fstN] at h ⊢
    split
    · assumption
    · rename_i hq
      rw [if_neg hq] at h
      exact fstN_some (by omega)

/-- the least k in 1 .. p - 1 with k x = 1 modulo p, or p -/
def invN (p : Int) (x : UInt8) : Nat := fstN (fun k => ((k : Nat) : Int) * (x.toNat : Int) % p == 1) (p - 1).toNat 1
theorem mul_bd2 {a b c d : Int} (h1 : 0 ≤ a) (h2 : a ≤ c) (h3 : 0 ≤ b) (h4 : b ≤ d) : 0 ≤ a * b ∧ a * b ≤ c * d :=
  ⟨Int.mul_nonneg h1 h3, Int.mul_le_mul h2 h4 h3 (Int.le_trans h1 h2)⟩

/-! ### slices of vectors -/
def z0 : By := fun _ => 0
/-- the slice a, over the blocks H, has the vectors L -/
def VS (H : List Blk) (a : At) (L : List By) : Prop :=
  (a = .sn ∧ L = []) ∨ ∃ k off cap r N f, a = .sl k off L.length cap ∧ H[k]? = some ⟨r, .by [] N f⟩ ∧ (off + cap * 8 ≤ N ∧ L.length ≤ cap) ∧ ∀ i x, i < L.length → x < 8 → f (off + i * 8 + x) = (L.getD i z0) x
/-- the same, and it may be written behind: its block is none of the first m -/
def VW (m : Nat) (H : List Blk) (a : At) (L : List By) : Prop :=
  ∃ k off cap N f, a = .sl k off L.length cap ∧ H[k]? = some ⟨false, .by [] N f⟩ ∧ (off + cap * 8 ≤ N ∧ L.length ≤ cap ∧ m ≤ k) ∧ ∀ i x, i < L.length → x < 8 → f (off + i * 8 + x) = (L.getD i z0) x
/-- the first m blocks are there still -/
def Upto (m : Nat) (H H' : List Blk) : Prop := ∀ (k : Nat) (B : Blk), k < m → H[k]? = some B → H'[k]? = some B
theorem Upto.refl {m : Nat} {H : List Blk} : Upto m H H := fun _ _ _ h => h
theorem Upto.trans {m : Nat} {H H1 H2 : List Blk} (h : Upto m H H1) (h' : Upto m H1 H2) : Upto m H H2 := fun k B hk e => h' k B hk (h k B hk e)
theorem Upto.ext {m : Nat} {H H1 H2 : List Blk} (h : Ext H H1) (h' : Upto m H1 H2) (hm : H.length ≤ m) : Ext H H2 := fun k B e => h' k B (by have := lt_of e; omega) (h k B e)
theorem Upto.get {m k : Nat} {H H' : List Blk} {B : Blk} (h : Upto m H H') (e : H[k]? = some B) (hk : k < m) : H'[k]? = some B := h k B hk e
theorem VW.mono {m m' : Nat} {H : List Blk} {a : At} {L : List By} (h : VW m H a L) (hm : m' ≤ m) : VW m' H a L := by
  obtain ⟨k, off, cap, N, f, h1, h2, h3, h4⟩ := h
  exact ⟨k, off, cap, N, f, h1, h2, ⟨h3.1, h3.2.1, by omega⟩, h4⟩
theorem VS.ext {H H' : List Blk} {a : At} {L : List By} (h : VS H a L) (e : Ext H H') : VS H' a L := by
  rcases h with h | ⟨k, off, cap, r, N, f, h1, h2, h3, h4⟩
  · exact .inl h
  · exact .inr ⟨k, off, cap, r, N, f, h1, e k _ h2, h3, h4⟩
theorem VS.nil {H : List Blk} : VS H .sn [] := .inl ⟨rfl, rfl⟩
theorem VW.ext {m : Nat} {H H' : List Blk} {a : At} {L : List By} (h : VW m H a L) (e : Ext H H') : VW m H' a L := by
  obtain ⟨k, off, cap, N, f, h1, h2, h3, h4⟩ := h
  exact ⟨k, off, cap, N, f, h1, e k _ h2, h3, h4⟩
theorem VS.lt {H : List Blk} {a : At} {L : List By} (h : VS H a L) : a.lt H.length = true := by
  rcases h with ⟨rfl, -⟩ | ⟨k, off, cap, r, N, f, rfl, h2, h3, h4⟩
  · rfl
  have := lt_of h2
  simp [At.lt, this]
theorem VS.len {H : List Blk} {a : At} {L : List By} (h : VS H a L) : lenA a = some L.length := by
  rcases h with ⟨rfl, rfl⟩ | ⟨k, off, cap, r, N, f, rfl, -⟩ <;> rfl
theorem VS.at {H : List Blk} {a : At} {L : List By} (h : VS H a L) (i : Nat) (hi : i < L.length) :
    ∃ k off len cap q, a = .sl k off len cap ∧ i < len ∧ off + i * 8 = q ∧ ∃ r N f, H[k]? = some ⟨r, .by [] N f⟩ ∧ q + 8 ≤ N ∧ ∀ x, x < 8 → (L.getD i z0) x = f (q + x) := by
  rcases h with ⟨rfl, rfl⟩ | ⟨k, off, cap, r, N, f, rfl, h2, h3, h4⟩
  · simp at hi
  exact ⟨k, off, L.length, cap, off + i * 8, rfl, hi, rfl, r, N, f, h2, by omega, fun x hx => (h4 i x hi hx).symm⟩
/-- a new list without vectors -/
theorem VW.nil {m : Nat} {H : List Blk} {f : By} (hm : m ≤ H.length) : VW m (H ++ [⟨false, .by [] (0 * 8) f⟩]) (.sl H.length 0 0 0) [] :=
  ⟨H.length, 0, 0, _, f, rfl, get_new, ⟨by omega, by simp, hm⟩, fun i x h => by simp at h⟩
/-- a new list with one vector -/
theorem VS.one {H : List Blk} {v : By} : VS (H ++ [⟨false, .by [] (1 * 8) (spl (fun _ => 0) (0 * 8) 8 v)⟩]) (.sl H.length 0 1 1) [v] := by
  refine .inr ⟨H.length, 0, 1, false, _, _, rfl, get_new, ⟨by omega, by simp⟩, fun i x h hx => ?_⟩
  obtain rfl : i = 0 := by simpa using h
  simp [spl, hx]

theorem getD_mem {L : List By} {i : Nat} (h : i < L.length) : L.getD i z0 ∈ L := by
  rw [List.getD_eq_getElem?_getD, List.getElem?_eq_getElem h]; simp

theorem app_set {H l : List Blk} {i : Nat} {B : Blk} : (H ++ l).set (H.length + i) B = H ++ l.set i B := by
  rw [List.set_append_right _ _ (by omega), Nat.add_sub_cancel_left]
theorem app_set0 {H : List Blk} {A B : Blk} : (H ++ [A]).set H.length B = H ++ [B] := app_set (i := 0)
end Hf
namespace Hf
open Go Classical
/-- a vector of W numbers below p, with zeros behind -/
def Vp (W : Nat) (p : Int) (v : By) : Prop := (∀ x, bz v x < p) ∧ ∀ x, W ≤ x → v x = 0
def addW (W : Nat) (p : Int) (v w : By) (k : Int) : By := vec W p fun y => bz v y + k * bz w y
def fstW (W : Nat) (v : By) : Nat := fstN (fun i => v i != 0) W 0
section
variable {W : Nat} {p : Int}
theorem bz_z0 {x : Nat} : bz z0 x = 0 := rfl
theorem Vp.z (hp : 1 ≤ p) : Vp W p z0 := ⟨fun x => by rw [bz_z0]; omega, fun _ _ => rfl⟩
theorem Vp.add (hp : 1 ≤ p) (hp2 : p ≤ 256) {v w : By} {k : Int} : Vp W p (addW W p v w k) := ⟨fun x => bz_vec_lt hp hp2, fun x hx => vec_out hx⟩
theorem bz_inj {a b : UInt8} (h : (a.toNat : Int) = b.toNat) : a = b := UInt8.toNat_inj.1 (by omega)
theorem Vp.ext {v w : By} (hv : Vp W p v) (hw : Vp W p w) (h : ∀ x, x < W → cg p (bz v x) (bz w x)) : v = w := by
  funext x
  by_cases hx : x < W
  · have h1 := h x hx
    unfold cg at h1
    rw [Int.emod_eq_of_lt (bz_nn v x) (hv.1 x), Int.emod_eq_of_lt (bz_nn w x) (hw.1 x)] at h1
    exact bz_inj h1
  · rw [hv.2 x (by omega), hw.2 x (by omega)]
theorem cg_add' (hp : 1 ≤ p) (hp2 : p ≤ 256) {v w : By} {k : Int} {x : Nat} (hx : x < W) : cg p (bz (addW W p v w k) x) (bz v x + k * bz w x) := cg_vec hp hp2 hx
theorem bz_add (hp : 1 ≤ p) (hp2 : p ≤ 256) {v w : By} {k : Int} {x : Nat} (hx : x < W) : bz (addW W p v w k) x = (bz v x + k * bz w x) % p := bz_vec hp hp2 hx
theorem add_0 (hp : 1 ≤ p) (hp2 : p ≤ 256) {v w : By} (hv : Vp W p v) : addW W p v w 0 = v :=
  (Vp.add hp hp2).ext hv fun x hx => (cg_add' hp hp2 hx).trans (cg_of_eq (by simp))
theorem add_z (hp : 1 ≤ p) (hp2 : p ≤ 256) {v : By} {k : Int} (hv : Vp W p v) : addW W p v z0 k = v :=
  (Vp.add hp hp2).ext hv fun x hx => (cg_add' hp hp2 hx).trans (cg_of_eq (by simp [bz_z0]))
theorem z_add1 (hp : 1 ≤ p) (hp2 : p ≤ 256) {v : By} (hv : Vp W p v) : addW W p z0 v 1 = v :=
  (Vp.add hp hp2).ext hv fun x hx => (cg_add' hp hp2 hx).trans (cg_of_eq (by simp [bz_z0]))
/-- (u + k (v + c r)) = (u + k v) + k c r -/
theorem add_assoc' (hp : 1 ≤ p) (hp2 : p ≤ 256) {u v r : By} {k c : Int} : addW W p u (addW W p v r c) k = addW W p (addW W p u v k) r (k * c) := by
  refine (Vp.add hp hp2).ext (Vp.add hp hp2) fun x hx => ?_
  refine (cg_add' hp hp2 hx).trans ?_
  refine (cg_add cg.rfl' (cg_mul cg.rfl' (cg_add' hp hp2 hx))).trans ?_
  refine cg.trans ?_ (cg_add' hp hp2 hx).symm
  refine cg.trans ?_ (cg_add (cg_add' hp hp2 hx) cg.rfl').symm
  exact cg_of_eq (by grind)
/-- (u + a v) + b w = (u + b w) + a v -/
theorem add_comm' (hp : 1 ≤ p) (hp2 : p ≤ 256) {u v w : By} {a b : Int} : addW W p (addW W p u v a) w b = addW W p (addW W p u w b) v a := by
  refine (Vp.add hp hp2).ext (Vp.add hp hp2) fun x hx => ?_
  refine (cg_add' hp hp2 hx).trans ?_
  refine (cg_add (cg_add' hp hp2 hx) cg.rfl').trans ?_
  refine cg.trans ?_ (cg_add' hp hp2 hx).symm
  refine cg.trans ?_ (cg_add (cg_add' hp hp2 hx) cg.rfl').symm
  exact cg_of_eq (by grind)

/-! ### spaces -/
inductive Sp' (W : Nat) (p : Int) (L : List By) : By → Prop
  | z : Sp' W p L z0
  | a {u w : By} {k : Int} : Sp' W p L u → w ∈ L → Sp' W p L (addW W p u w k)

theorem Sp'.vp (hp : 1 ≤ p) (hp2 : p ≤ 256) {L : List By} {v : By} : Sp' W p L v → Vp W p v
  | .z => Vp.z hp
  | .a _ _ => Vp.add hp hp2
theorem Sp'.mem (hp : 1 ≤ p) (hp2 : p ≤ 256) {L : List By} {v : By} (h : v ∈ L) (hv : Vp W p v) : Sp' W p L v := by
  rw [← z_add1 hp hp2 hv]; exact .a .z h
theorem Sp'.add (hp : 1 ≤ p) (hp2 : p ≤ 256) {L : List By} {u v : By} {k : Int} (hu : Sp' W p L u) (hv : Sp' W p L v) : Sp' W p L (addW W p u v k) := by
  induction hv generalizing u k with
  | z => rw [add_z hp hp2 (hu.vp hp hp2)]; exact hu
  | a h1 h2 ih =>
    rw [add_assoc' hp hp2]
    exact .a (ih hu) h2
theorem Sp'.sub (hp : 1 ≤ p) (hp2 : p ≤ 256) {L M : List By} (h : ∀ r ∈ L, Sp' W p M r) {v : By} (hv : Sp' W p L v) : Sp' W p M v := by
  induction hv with
  | z => exact .z
  | a _ h2 ih => exact ih.add hp hp2 (h _ h2)
/-- the same space -/
def SpE (W : Nat) (p : Int) (L M : List By) : Prop := ∀ v, Sp' W p L v ↔ Sp' W p M v
theorem SpE.of (hp : 1 ≤ p) (hp2 : p ≤ 256) {L M : List By} (h : ∀ r ∈ L, Sp' W p M r) (h' : ∀ r ∈ M, Sp' W p L r) : SpE W p L M := fun v => ⟨fun q => q.sub hp hp2 h, fun q => q.sub hp hp2 h'⟩
theorem SpE.rfl' {L : List By} : SpE W p L L := fun _ => Iff.rfl
theorem SpE.symm {L M : List By} (h : SpE W p L M) : SpE W p M L := fun v => (h v).symm
theorem SpE.trans {L M N : List By} (h : SpE W p L M) (h' : SpE W p M N) : SpE W p L N := fun v => (h v).trans (h' v)

/-! ### first places -/
theorem fstW_le {v : By} : fstW W v ≤ W := by have := @fstN_ge (fun i => v i != 0) W 0; unfold fstW; omega
theorem fstW_lt {v : By} {y : Nat} (h : y < fstW W v) : v y = 0 := by
  have := @fstN_none (fun i => v i != 0) W 0 y (Nat.zero_le _) h
  simpa using this
theorem fstW_ne {v : By} (h : fstW W v < W) : v (fstW W v) ≠ 0 := by
  have := @fstN_some (fun i => v i != 0) W 0 (by unfold fstW at h; omega)
  simpa [fstW] using this
theorem fstW_eq {v : By} {k : Nat} (hk : k < W) (h : v k ≠ 0) (h0 : ∀ y, y < k → v y = 0) : fstW W v = k :=
  fstN_eq (Nat.zero_le _) (by omega) (by simpa using h) fun j _ hj => by simp [h0 j hj]
theorem fstW_z {v : By} (hv : ∀ x, W ≤ x → v x = 0) (h : fstW W v = W) : v = z0 := by
  funext y
  by_cases hy : y < W
  · exact fstW_lt (W := W) (by omega)
  · exact hv y (by omega)
theorem fst_nz {v : By} (hv : ∀ x, W ≤ x → v x = 0) (h : v ≠ z0) : fstW W v < W := by
  have := @fstW_le W v
  rcases Nat.lt_or_ge (fstW W v) W with h1 | h1
  · exact h1
  · exact (h (fstW_z hv (by omega))).elim

/-! ### what a list takes away -/
def byW1 (W : Nat) (p : Int) (v r : By) : By := if v (fstW W r) = 0 then v else addW W p v r (-(bz v (fstW W r)))
def byW (W : Nat) (p : Int) (v : By) (L : List By) : By := L.foldl (byW1 W p) v
/-- the first places grow, each first entry is 1, and the others have 0 there -/
structure RR (W : Nat) (p : Int) (L : List By) : Prop where
  vp : ∀ r ∈ L, Vp W p r
  ld : ∀ r ∈ L, fstW W r < W ∧ r (fstW W r) = 1
  st : L.Pairwise fun a b => fstW W a < fstW W b ∧ a (fstW W b) = 0

theorem byW1_add (hp : 1 ≤ p) (hp2 : p ≤ 256) {v r : By} (hv : Vp W p v) : byW1 W p v r = addW W p v r (-(bz v (fstW W r))) := by
  unfold byW1
  split
  · rename_i h
    rw [show bz v (fstW W r) = 0 from bz_eq0.2 h, Int.neg_zero, add_0 hp hp2 hv]
  · rfl
theorem byW1_vp (hp : 1 ≤ p) (hp2 : p ≤ 256) {v r : By} (hv : Vp W p v) : Vp W p (byW1 W p v r) := by
  rw [byW1_add hp hp2 hv]; exact Vp.add hp hp2
theorem byW_vp (hp : 1 ≤ p) (hp2 : p ≤ 256) : ∀ {L : List By} {v : By}, Vp W p v → Vp W p (byW W p v L)
  | [], _, hv => hv
  | r :: L, v, hv => byW_vp hp hp2 (L := L) (byW1_vp hp hp2 hv)
/-- it is linear -/
theorem byW1_lin (hp : 1 ≤ p) (hp2 : p ≤ 256) {u w r : By} {k : Int} (hu : Vp W p u) (hw : Vp W p w) (hr : fstW W r < W) :
    byW1 W p (addW W p u w k) r = addW W p (byW1 W p u r) (byW1 W p w r) k := by
  rw [byW1_add hp hp2 (Vp.add hp hp2), byW1_add hp hp2 hu, byW1_add hp hp2 hw]
  refine (Vp.add hp hp2).ext (Vp.add hp hp2) fun x hx => ?_
  refine (cg_add' hp hp2 hx).trans ?_
  refine (cg_add (cg_add' hp hp2 hx) (cg_mul (a := -(bz (addW W p u w k) (fstW W r))) (b := -(bz u (fstW W r) + k * bz w (fstW W r))) (c := bz r x) (d := bz r x) ?_ cg.rfl')).trans ?_
  · have := cg_mul (a := -1) (b := -1) (c := bz (addW W p u w k) (fstW W r)) cg.rfl' (cg_add' (v := u) (w := w) (k := k) hp hp2 hr)
    rw [Int.neg_one_mul, Int.neg_one_mul] at this
    exact this
  refine cg.trans ?_ (cg_add' hp hp2 hx).symm
  refine cg.trans ?_ (cg_add (cg_add' hp hp2 hx) (cg_mul cg.rfl' (cg_add' hp hp2 hx))).symm
  exact cg_of_eq (by grind)
theorem byW_lin (hp : 1 ≤ p) (hp2 : p ≤ 256) {k : Int} : ∀ {L : List By} {u w : By}, (∀ r ∈ L, fstW W r < W) → Vp W p u → Vp W p w → byW W p (addW W p u w k) L = addW W p (byW W p u L) (byW W p w L) k
  | [], _, _, _, _, _ => rfl
  | r :: L, u, w, h, hu, hw => by
    show byW W p (byW1 W p (addW W p u w k) r) L = addW W p (byW W p (byW1 W p u r) L) (byW W p (byW1 W p w r) L) k
    rw [byW1_lin hp hp2 hu hw (h r (by simp))]
    exact byW_lin hp hp2 (fun q hq => h q (by simp [hq])) (byW1_vp hp hp2 hu) (byW1_vp hp hp2 hw)
theorem byW_fix : ∀ {L : List By} {v : By}, (∀ r ∈ L, v (fstW W r) = 0) → byW W p v L = v
  | [], _, _ => rfl
  | r :: L, v, h => by
    show byW W p (byW1 W p v r) L = v
    rw [show byW1 W p v r = v from if_pos (h r (by simp))]
    exact byW_fix fun q hq => h q (by simp [hq])
theorem byW_app {L M : List By} {v : By} : byW W p v (L ++ M) = byW W p (byW W p v L) M := List.foldl_append

theorem RR.fs {L : List By} (h : RR W p L) : ∀ r ∈ L, fstW W r < W := fun r hr => (h.ld r hr).1
/-- places of two of a reduced list -/
theorem RR.two {A B : List By} {a b : By} (h : RR W p (A ++ a :: B)) (hb : b ∈ A ++ B) : b (fstW W a) = 0 ∧ a (fstW W b) = 0 ∧ fstW W a ≠ fstW W b := by
  have hp := h.st
  rw [List.pairwise_append] at hp
  obtain ⟨-, h2, h3⟩ := hp
  rw [List.pairwise_cons] at h2
  rcases List.mem_append.1 hb with hb | hb
  · obtain ⟨q1, q2⟩ := h3 b hb a (by simp)
    exact ⟨q2, fstW_lt q1, by omega⟩
  · obtain ⟨q1, q2⟩ := h2.1 b hb
    exact ⟨fstW_lt q1, q2, by omega⟩
theorem one_bz {f : By} {x : Nat} (h : f x = 1) : bz f x = 1 := by unfold bz; rw [h]; rfl
/-- a vector of the list is taken away whole -/
theorem RR.kill (hp : 1 ≤ p) (hp2 : p ≤ 256) {L : List By} (h : RR W p L) {w : By} (hw : w ∈ L) : byW W p w L = z0 := by
  obtain ⟨A, B, rfl⟩ := List.append_of_mem hw
  rw [byW_app, byW_fix fun r hr => (h.two (List.mem_append_left _ hr)).2.1]
  show byW W p (byW1 W p w w) B = z0
  have hv := h.vp w hw
  have e : byW1 W p w w = z0 := by
    rw [byW1_add hp hp2 hv, one_bz (h.ld w hw).2]
    refine (Vp.add hp hp2).ext (Vp.z hp) fun x hx => (cg_add' hp hp2 hx).trans (cg_of_eq (by rw [bz_z0]; omega))
  rw [e]
  exact byW_fix fun r _ => rfl
theorem RR.zero (hp : 1 ≤ p) (hp2 : p ≤ 256) {L : List By} (h : RR W p L) {v : By} (hv : Sp' W p L v) : byW W p v L = z0 := by
  induction hv with
  | z => exact byW_fix fun r _ => rfl
  | a h1 h2 ih =>
    rw [byW_lin hp hp2 h.fs (h1.vp hp hp2) (h.vp _ h2), ih, h.kill hp hp2 h2]
    exact add_z hp hp2 (Vp.z hp)
/-- v and what is left of it differ by what is in the space -/
theorem byW_sp (hp : 1 ≤ p) (hp2 : p ≤ 256) : ∀ {L M : List By} {v : By}, (∀ r ∈ L, r ∈ M) → Vp W p v → ∃ s, Sp' W p M s ∧ v = addW W p (byW W p v L) s 1 ∧ byW W p v L = addW W p v s (-1)
  | [], M, v, _, hv => ⟨z0, .z, (add_z hp hp2 hv).symm, (add_z hp hp2 hv).symm⟩
  | r :: L, M, v, h, hv => by
    obtain ⟨s, h1, h2, h3⟩ := byW_sp hp hp2 (L := L) (M := M) (v := byW1 W p v r) (fun q hq => h q (by simp [hq])) (byW1_vp hp hp2 hv)
    have e : byW W p v (r :: L) = byW W p (byW1 W p v r) L := rfl
    rw [byW1_add hp hp2 hv] at e h2 h3
    rw [e]
    refine ⟨addW W p s r (bz v (fstW W r)), .a h1 (h r (by simp)), ?_, ?_⟩
    · have h4 : addW W p (addW W p v r (-(bz v (fstW W r)))) r (bz v (fstW W r)) = v := by
        refine (Vp.add hp hp2).ext hv fun x hx => ?_
        refine (cg_add' hp hp2 hx).trans ((cg_add (cg_add' hp hp2 hx) cg.rfl').trans (cg_of_eq (by grind)))
      rw [add_assoc' hp hp2, ← h2, Int.one_mul, h4]
    · rw [h3, add_assoc' hp hp2 (u := v), add_comm' hp hp2, Int.neg_one_mul]
theorem RR.in_iff (hp : 1 ≤ p) (hp2 : p ≤ 256) {L : List By} (h : RR W p L) {v : By} (hv : Vp W p v) : Sp' W p L v ↔ byW W p v L = z0 := by
  refine ⟨h.zero hp hp2, fun e => ?_⟩
  obtain ⟨s, h1, h2, -⟩ := byW_sp hp hp2 (L := L) (M := L) (fun _ h => h) hv
  rw [e] at h2
  rw [h2]
  exact Sp'.z.add hp hp2 h1
end
end Hf
namespace Hf
theorem inv_exB : ∀ p, p < 32 → (∀ k, k < p → 2 ≤ k → p % k ≠ 0) → ∀ x, x < p → 0 < x → ((List.range p).any fun k => decide (1 ≤ k ∧ k * x % p = 1 % p)) = true := by decide +kernel
theorem inv_ex (p : Nat) (h1 : p < 32) (h2 : ∀ k, k < p → 2 ≤ k → p % k ≠ 0) (x : Nat) (h3 : x < p) (h4 : 0 < x) : ∃ k, k < p ∧ 1 ≤ k ∧ k * x % p = 1 % p := by
  have h := inv_exB p h1 h2 x h3 h4
  rw [List.any_eq_true] at h
  obtain ⟨k, hk, h⟩ := h
  exact ⟨k, List.mem_range.1 hk, (of_decide_eq_true h).1, (of_decide_eq_true h).2⟩
open Go Classical
section
variable {W : Nat} {p : Int}
theorem RR.ne {B : List By} (h : RR W p B) {b c : By} (hb : b ∈ B) (hc : c ∈ B) (hn : c ≠ b) : c (fstW W b) = 0 ∧ fstW W b ≠ fstW W c := by
  obtain ⟨X, Y, rfl⟩ := List.append_of_mem hb
  have : c ∈ X ++ Y := by
    simp only [List.mem_append, List.mem_cons] at hc ⊢
    rcases hc with h | h | h
    · exact .inl h
    · exact (hn h).elim
    · exact .inr h
  have := h.two this
  exact ⟨this.1, this.2.2⟩
theorem RR.nz {B : List By} (h : RR W p B) {b : By} (hb : b ∈ B) : b ≠ z0 := by
  intro e
  have h1 := (h.ld b hb).2
  have h2 : b (fstW W b) = 0 := by conv => lhs; rw [e]
                                   rfl
  rw [h1] at h2; cases h2
theorem byW_keep (hp : 1 ≤ p) (hp2 : p ≤ 256) {l : Nat} (hl : l < W) : ∀ {B : List By} {v : By}, Vp W p v → (∀ y, y < l → v y = 0) → (∀ b ∈ B, fstW W b ≠ l) → ∀ y, y ≤ l → byW W p v B y = v y
  | [], _, _, _, _, _, _ => rfl
  | r :: B, v, hv, h0, hne, y, hy => by
    show byW W p (byW1 W p v r) B y = v y
    have h1 : ∀ y, y ≤ l → byW1 W p v r y = v y := by
      intro y hy
      rcases Nat.lt_or_ge (fstW W r) l with h | h
      · unfold byW1; rw [if_pos (h0 _ h)]
      · have hne := hne r (by simp)
        rw [byW1_add hp hp2 hv]
        have hr : r y = 0 := fstW_lt (W := W) (by omega)
        apply bz_inj
        show bz (addW W p v r (-(bz v (fstW W r)))) y = bz v y
        rw [bz_add (W := W) hp hp2 (by omega), bz_eq0.2 hr, Int.mul_zero, Int.add_zero]
        exact Int.emod_eq_of_lt (bz_nn v y) (hv.1 y)
    rw [byW_keep hp hp2 hl (byW1_vp hp hp2 hv) (fun y hy => by rw [h1 y (by omega)]; exact h0 y hy) (fun b hb => hne b (by simp [hb])) y hy]
    exact h1 y hy
/-- a vector of the space begins where one of the list does -/
theorem RR.lead (hp : 1 ≤ p) (hp2 : p ≤ 256) {B : List By} (h : RR W p B) {v : By} (hv : Sp' W p B v) (hn : v ≠ z0) : ∃ b ∈ B, fstW W b = fstW W v := by
  apply Classical.byContradiction
  intro hne
  have hvp := hv.vp hp hp2
  have hl := fst_nz hvp.2 hn
  have := byW_keep hp hp2 hl (B := B) hvp (fun y hy => fstW_lt hy) (fun b hb e => hne ⟨b, hb, e⟩) _ (Nat.le_refl _)
  rw [h.zero hp hp2 hv] at this
  exact fstW_ne hl this.symm
theorem RR.sorted {A : List By} (h : RR W p A) : A.Pairwise (fun a b => fstW W a < fstW W b) := h.st.imp fun h => h.1
/-! ### inverses -/
theorem inv_ok (hp : Pr p) {x : UInt8} (hx : x ≠ 0) (hx2 : (x.toNat : Int) < p) : ((invN p x : Nat) : Int) < p ∧ ((invN p x : Nat) : Int) * (x.toNat : Int) % p = 1 := by
  obtain ⟨h1, h2, h3⟩ := hp
  obtain ⟨m, rfl⟩ : ∃ m : Nat, p = (m : Int) := ⟨p.toNat, by omega⟩
  have hx0 : 0 < x.toNat := by
    rcases Nat.eq_zero_or_pos x.toNat with e | e
    · exact (hx (u_eq0.2 (by omega))).elim
    · exact e
  obtain ⟨k, k1, k2, k3⟩ := inv_ex m (by omega) (fun k hk hk2 e => h3 (k : Int) (by omega) (by omega) (by omega)) x.toNat (by omega) hx0
  rw [Nat.mod_eq_of_lt (show 1 < m by omega)] at k3
  have hq : ((((k : Nat) : Int) * (x.toNat : Int) % (m : Int)) == 1) = true := by
    rw [beq_iff_eq, ← Int.natCast_mul, ← Int.natCast_emod, k3]; rfl
  have hlt : invN m x < 1 + ((m : Int) - 1).toNat := by
    have h4 := @fstN_ge (fun k => ((k : Nat) : Int) * (x.toNat : Int) % (m : Int) == 1) ((m : Int) - 1).toNat 1
    rcases Nat.lt_or_ge (invN m x) (1 + ((m : Int) - 1).toNat) with h | h
    · exact h
    · have := @fstN_none (fun k => ((k : Nat) : Int) * (x.toNat : Int) % (m : Int) == 1) ((m : Int) - 1).toNat 1 k k2 (by unfold invN at h; omega)
      rw [hq] at this; cases this
  have h5 := @fstN_some (fun k => ((k : Nat) : Int) * (x.toNat : Int) % (m : Int) == 1) ((m : Int) - 1).toNat 1 hlt
  exact ⟨by omega, eq_of_beq h5⟩

/-- what is left of v begins at none of the list's first places -/
theorem RR.left0 (hp : 1 ≤ p) (hp2 : p ≤ 256) : ∀ {A L : List By}, RR W p (A ++ L) → ∀ {v : By}, Vp W p v → (∀ r ∈ A, v (fstW W r) = 0) → ∀ r ∈ A ++ L, byW W p v L (fstW W r) = 0
  | A, [], h, v, hv, h0, r, hr => by simp at hr; exact h0 r hr
  | A, s :: L, h, v, hv, h0, r, hr => by
    have h' : RR W p ((A ++ [s]) ++ L) := by simpa using h
    refine RR.left0 hp hp2 (A := A ++ [s]) (L := L) h' (v := byW1 W p v s) (byW1_vp hp hp2 hv) ?_ r (by simpa using hr)
    intro q hq
    apply bz_eq0.1
    rcases List.mem_append.1 hq with hq | hq
    · rw [byW1_add hp hp2 hv, bz_add hp hp2 (h.ld q (List.mem_append_left _ hq)).1, bz_eq0.2 (h0 q hq)]
      have := (h.two (a := s) (A := A) (B := L) (List.mem_append_left _ hq)).2.1
      rw [bz_eq0.2 this]
      simp
    · obtain rfl := List.mem_singleton.1 hq
      have hl := h.ld q (by simp)
      rw [byW1_add hp hp2 hv, bz_add hp hp2 hl.1, one_bz hl.2, Int.mul_one, Int.add_right_neg]
      exact Int.zero_emod p
theorem RR.left (hp : 1 ≤ p) (hp2 : p ≤ 256) {L : List By} (h : RR W p L) {v : By} (hv : Vp W p v) : ∀ r ∈ L, byW W p v L (fstW W r) = 0 :=
  RR.left0 hp hp2 (A := []) h hv (by simp)
end
end Hf
namespace Hf
open Go Classical
section
variable {p : Int}
theorem RR.nil {W : Nat} : RR W p [] := ⟨by simp, by simp, List.Pairwise.nil⟩
theorem RR.len {W : Nat} {L : List By} (h : RR W p L) : L.length ≤ W := by
  have key : ∀ (L : List By) (k : Nat), L.Pairwise (fun a b => fstW W a < fstW W b) → (∀ r ∈ L, k ≤ fstW W r ∧ fstW W r < W) → L.length + k ≤ W ∨ L = [] := by
    intro L
    induction L with
    | nil => intro k _ _; exact .inr rfl
    | cons a L ih =>
      intro k hs hb
      rw [List.pairwise_cons] at hs
      have ha := hb a (by simp)
      rcases ih (fstW W a + 1) hs.2 fun r hr => ⟨hs.1 r hr, (hb r (by simp [hr])).2⟩ with h | h
      · simp only [List.length_cons]; omega
      · subst h; simp only [List.length_cons, List.length_nil]; omega
  rcases key L 0 h.sorted (fun r hr => ⟨Nat.zero_le _, h.fs r hr⟩) with h | h
  · omega
  · subst h; simp
end
end Hf
namespace Hf
open Go Classical
variable {P : Program} {ρ : Nat → FuncId}
theorem rdR_lenA {H : List Blk} {a : At} {L : List At} (h : rdR H a L) : lenA a = some L.length := by
  cases a <;> simp only [rdR] at h
  · obtain ⟨r, l, -, h1, rfl⟩ := h; simp [lenA]; omega
  · subst h; rfl
theorem rdR_at {H : List Blk} {a : At} {L : List At} (h : rdR H a L) (i : Nat) (hi : i < L.length) :
    ∃ k off len cap q, a = .sl k off len cap ∧ i < len ∧ off + i * 1 = q ∧ ∃ r l, H[k]? = some ⟨r, .rw l⟩ ∧ l[q]? = some (L.getD i .sn) := by
  cases a <;> simp only [rdR] at h
  · rename_i k off len cap
    obtain ⟨r, l, hk, h1, rfl⟩ := h
    have hl : ((l.drop off).take len).length = len := by simp; omega
    rw [hl] at hi
    refine ⟨k, off, len, cap, off + i * 1, rfl, hi, rfl, r, l, hk, ?_⟩
    rw [List.getD_eq_getElem?_getD, List.getElem?_take_of_lt hi, List.getElem?_drop, Nat.mul_one]
    have : off + i < l.length := by omega
    simp [this]
  · subst h; simp at hi
theorem rdR_ext {H H' : List Blk} {a : At} {L : List At} (h : rdR H a L) (e : Ext H H') : rdR H' a L := by
  cases a <;> simp only [rdR] at h ⊢
  · obtain ⟨r, l, hk, h1, h2⟩ := h; exact ⟨r, l, e _ _ hk, h1, h2⟩
  · exact h
/-- numbers in a slice -/
def VI (H : List Blk) (a : At) (L : List Int) : Prop := rdR H a (L.map (At.i .i64))
theorem VI.ext {H H' : List Blk} {a : At} {L : List Int} (h : VI H a L) (e : Ext H H') : VI H' a L := rdR_ext h e
theorem VI.len {H : List Blk} {a : At} {L : List Int} (h : VI H a L) : lenA a = some L.length := by
  have := rdR_lenA h; rwa [List.length_map] at this
theorem VI.at {H : List Blk} {a : At} {L : List Int} (h : VI H a L) (i : Nat) (hi : i < L.length) :
    ∃ k off len cap q, a = .sl k off len cap ∧ i < len ∧ off + i * 1 = q ∧ ∃ r l, H[k]? = some ⟨r, .rw l⟩ ∧ l[q]? = some (.i .i64 (L.getD i 0)) := by
  obtain ⟨k, off, len, cap, q, h1, h2, h3, r, l, h4, h5⟩ := rdR_at h i (by rw [List.length_map]; exact hi)
  refine ⟨k, off, len, cap, q, h1, h2, h3, r, l, h4, ?_⟩
  rw [h5, List.getD_eq_getElem?_getD, List.getElem?_map, List.getD_eq_getElem?_getD, List.getElem?_eq_getElem hi]
  rfl

theorem cput_rw {l : List At} {x : Nat} {a : At} (h : x < l.length) (hc : a.cell1 = true) : cput (.rw l) x a = some (.rw (l.set x a)) := if_pos ⟨h, hc⟩
/-! ### rows -/
def blkOf : At → Nat
  | .sl k _ _ _ => k
  | _ => 0
/-- a row of w bytes, v -/
def RowB (H : List Blk) (w : Nat) (a : At) (v : By) : Prop := ∃ k cap N f, a = .sl k 0 w cap ∧ H[k]? = some ⟨false, .by [] N f⟩ ∧ (w ≤ N ∧ w ≤ cap) ∧ ∀ x, x < w → f x = v x
theorem RowB.lt {H : List Blk} {w : Nat} {a : At} {v : By} (h : RowB H w a v) : a.lt H.length = true := by
  obtain ⟨k, cap, N, f, rfl, h2, h3, h4⟩ := h
  have := lt_of h2
  simp [At.lt, this]
/-- all blocks but some are there still -/
def Fr (l : List Nat) (H H' : List Blk) : Prop := ∀ (k : Nat) (B : Blk), k ∉ l → H[k]? = some B → H'[k]? = some B
theorem Fr.refl {l : List Nat} {H : List Blk} : Fr l H H := fun _ _ _ h => h
theorem Fr.trans {l : List Nat} {H H1 H2 : List Blk} (h : Fr l H H1) (h' : Fr l H1 H2) : Fr l H H2 := fun k B hk e => h' k B hk (h k B hk e)
theorem Fr.mono {l l' : List Nat} {H H' : List Blk} (h : Fr l H H') (hs : ∀ k ∈ l, k ∈ l') : Fr l' H H' := fun k B hk e => h k B (fun q => hk (hs k q)) e
theorem Ext.fr {l : List Nat} {H H' : List Blk} (h : Ext H H') : Fr l H H' := fun k B _ e => h k B e
theorem RowB.fr {l : List Nat} {H H' : List Blk} {w : Nat} {a : At} {v : By} (h : RowB H w a v) (e : Fr l H H') (hn : blkOf a ∉ l) : RowB H' w a v := by
  obtain ⟨k, cap, N, f, rfl, h2, h3, h4⟩ := h
  exact ⟨k, cap, N, f, rfl, e _ _ hn h2, h3, h4⟩
/-- the slice of the rows -/
def Spn (H : List Blk) (ra : At) (As : List At) : Prop := (ra = .sn ∧ As = []) ∨ ∃ k cap l, ra = .sl k 0 As.length cap ∧ H[k]? = some ⟨false, .rw l⟩ ∧ (cap ≤ l.length ∧ As.length ≤ cap) ∧ l.take As.length = As
def spB : At → List Nat
  | .sl k _ _ _ => [k]
  | _ => []
theorem Spn.rd {H : List Blk} {ra : At} {As : List At} (h : Spn H ra As) : rdR H ra As := by
  rcases h with ⟨rfl, rfl⟩ | ⟨k, cap, l, rfl, hk, ⟨h1, h2⟩, h3⟩
  · exact rfl
  · exact ⟨false, l, hk, by omega, h3⟩
theorem Spn.fr {l : List Nat} {H H' : List Blk} {ra : At} {As : List At} (h : Spn H ra As) (e : Fr l H H') (hn : ∀ k ∈ spB ra, k ∉ l) : Spn H' ra As := by
  rcases h with ⟨rfl, rfl⟩ | ⟨k, cap, l', rfl, hk, h1, h3⟩
  · exact .inl ⟨rfl, rfl⟩
  · exact .inr ⟨k, cap, l', rfl, e _ _ (hn k (by simp [spB])) hk, h1, h3⟩
theorem Spn.lt {H : List Blk} {ra : At} {As : List At} (h : Spn H ra As) : ra.lt H.length = true ∧ ∀ k ∈ spB ra, k < H.length := by
  rcases h with ⟨rfl, rfl⟩ | ⟨k, cap, l', rfl, hk, h1, h3⟩
  · exact ⟨rfl, by simp [spB]⟩
  · have := lt_of hk
    exact ⟨by simp [At.lt, this], by simp [spB, this]⟩
theorem Spn.len {H : List Blk} {ra : At} {As : List At} (h : Spn H ra As) : lenA ra = some As.length := rdR_lenA h.rd
/-- rows one by one -/
def Rows (H : List Blk) (w : Nat) (As : List At) (R : List By) : Prop := As.length = R.length ∧ ∀ i, i < As.length → RowB H w (As.getD i .sn) (R.getD i z0)
theorem RowB.at {H : List Blk} {w : Nat} {a : At} {v : By} (h : RowB H w a v) (x : Nat) (hx : x < w) :
    ∃ k off len cap q, a = .sl k off len cap ∧ x < len ∧ off + x * 1 = q ∧ ∃ r B, H[k]? = some ⟨r, B⟩ ∧ cat B q = some (.u (v x)) := by
  obtain ⟨k, cap, N, f, rfl, h2, h3, h4⟩ := h
  refine ⟨k, 0, w, cap, x, rfl, hx, by omega, false, _, h2, ?_⟩
  rw [cat_u (by omega), h4 x hx]
theorem RowB.len {H : List Blk} {w : Nat} {a : At} {v : By} (h : RowB H w a v) : lenA a = some w := by
  obtain ⟨k, cap, N, f, rfl, -⟩ := h; rfl
theorem RowB.congr {H : List Blk} {w : Nat} {a : At} {v v' : By} (h : RowB H w a v) (e : ∀ x, x < w → v x = v' x) : RowB H w a v' := by
  obtain ⟨k, cap, N, f, h1, h2, h3, h4⟩ := h
  exact ⟨k, cap, N, f, h1, h2, h3, fun x hx => (h4 x hx).trans (e x hx)⟩
def bput : Bk → Nat → UInt8 → Bk
  | .by hd N f, x, b => .by hd N (upd f x b)
  | c, _, _ => c
/-- an entry of a row is written -/
theorem RowB.st {H : List Blk} {w : Nat} {a : At} {v : By} (h : RowB H w a v) (x : Nat) (hx : x < w) :
    ∃ k off len cap q c, a = .sl k off len cap ∧ x < len ∧ off + x * 1 = q ∧ H[k]? = some ⟨false, c⟩ ∧ ∀ b, cput c q (.u b) = some (bput c q b) ∧ RowB (H.set k ⟨false, bput c q b⟩) w a (upd v x b) ∧ Fr [blkOf a] H (H.set k ⟨false, bput c q b⟩) := by
  obtain ⟨k, cap, N, f, rfl, h2, h3, h4⟩ := h
  refine ⟨k, 0, w, cap, x, _, rfl, hx, by omega, h2, fun b => ⟨cput_u (by simp) (by omega), ⟨k, cap, N, upd f x b, rfl, set_same h2, h3, ?_⟩, ?_⟩⟩
  · intro y hy
    unfold upd
    split
    · rfl
    · exact h4 y hy
  · intro j B hj e
    exact set_other e (by intro q; subst q; exact hj (by simp [blkOf]))
theorem Rows.at {H : List Blk} {w : Nat} {As : List At} {R : List By} (h : Rows H w As R) (i : Nat) (hi : i < R.length) : RowB H w (As.getD i .sn) (R.getD i z0) := h.2 i (by rw [h.1]; exact hi)
theorem map_getD {As : List At} {i : Nat} (hi : i < As.length) : blkOf (As.getD i .sn) ∈ As.map blkOf := by
  rw [List.getD_eq_getElem?_getD, List.getElem?_eq_getElem hi]
  exact List.mem_map_of_mem (by simp)
/-- a system of m unknowns: rows R of m + 1 bytes each, places T -/
def OwnT (s : Nat) (ra : At) (As : List At) (pa : At) : List Nat := s :: (spB pa ++ (spB ra ++ As.map blkOf))
def sysB (p n0 : Int) (m : Nat) (ra pa : At) : Blk := ⟨false, .rw [.i .i64 p, .i .i64 n0, .i .i64 (m : Int), ra, pa]⟩
def SY (m0 : Nat) (H : List Blk) (s : Nat) (p n0 : Int) (m : Nat) (R : List By) (T : List Int) : Prop := ∃ ra As pa, H[s]? = some (sysB p n0 m ra pa) ∧ Spn H ra As ∧ Rows H (m + 1) As R ∧ Spn H pa (T.map (At.i .i64)) ∧ (OwnT s ra As pa).Nodup ∧ ∀ k ∈ OwnT s ra As pa, m0 ≤ k
/-- row d made 1 at c, the others 0 there -/
def invI (p : Int) (x : UInt8) : Int := if ((invN p x : Nat) : Int) < p then ((invN p x : Nat) : Int) else 1 % p
def clq (w : Nat) (p : Int) (v : By) (c : Nat) : By := vec w p fun y => invI p (v c) * bz v y
def clj (w : Nat) (p : Int) (q v : By) (c : Nat) : By := if v c = 0 then v else addW w p v q (-(bz v c))
def clR (w : Nat) (p : Int) (R : List By) (d c j : Nat) : By := if j = d then clq w p (R.getD d z0) c else clj w p (clq w p (R.getD d z0) c) (R.getD j z0) c
def clr (w : Nat) (p : Int) (R : List By) (d c : Nat) : List By := (List.range R.length).map (clR w p R d c)
theorem clr_len {w : Nat} {p : Int} {R : List By} {d c : Nat} : (clr w p R d c).length = R.length := by simp [clr]
theorem clr_at {w : Nat} {p : Int} {R : List By} {d c j : Nat} (h : j < R.length) : (clr w p R d c).getD j z0 = clR w p R d c j := by
  simp [clr, List.getD_eq_getElem?_getD, h]
end Hf
namespace Hf
open Go Classical
def swL {α : Type} (z : α) (L : List α) (i j : Nat) : List α := (L.set i (L.getD j z)).set j (L.getD i z)
section
variable {α : Type} {z : α} {L : List α} {i j : Nat}
theorem swL_len : (swL z L i j).length = L.length := by simp [swL]
theorem swL_perm (hi : i < L.length) (hj : j < L.length) : (swL z L i j).Perm L := by
  have := List.set_set_perm (as := L) hi hj
  simpa [swL, List.getD_eq_getElem?_getD, List.getElem?_eq_getElem hi, List.getElem?_eq_getElem hj] using this
theorem swL_at (hi : i < L.length) (hj : j < L.length) (x : Nat) : (swL z L i j).getD x z = if x = j then L.getD i z else if x = i then L.getD j z else L.getD x z := by
  unfold swL
  by_cases h1 : x = j
  · subst h1
    rw [if_pos rfl, List.getD_eq_getElem?_getD, List.getElem?_set_self (by simpa using hj)]; rfl
  · rw [if_neg h1, List.getD_eq_getElem?_getD, List.getElem?_set_ne (Ne.symm h1)]
    by_cases h2 : x = i
    · subst h2
      rw [if_pos rfl, List.getElem?_set_self hi]; rfl
    · rw [if_neg h2, List.getElem?_set_ne (Ne.symm h2), List.getD_eq_getElem?_getD]
end
theorem Rows.fr {l : List Nat} {H H' : List Blk} {w : Nat} {As : List At} {R : List By} (h : Rows H w As R) (e : Fr l H H') (hn : ∀ k ∈ As.map blkOf, k ∉ l) : Rows H' w As R :=
  ⟨h.1, fun i hi => (h.2 i hi).fr e (hn _ (map_getD hi))⟩
theorem RowB.cell {H : List Blk} {w : Nat} {a : At} {v : By} (h : RowB H w a v) : a.cell1 = true := by
  obtain ⟨k, cap, N, f, rfl, -⟩ := h; rfl
def rput : Bk → Nat → At → Bk
  | .rw l, x, a => .rw (l.set x a)
  | c, _, _ => c
/-- a place of the slice of rows is written -/
theorem Spn.st {H : List Blk} {ra : At} {As : List At} (h : Spn H ra As) (i : Nat) (hi : i < As.length) :
    ∃ k off len cap q c, ra = .sl k off len cap ∧ i < len ∧ off + i * 1 = q ∧ H[k]? = some ⟨false, c⟩ ∧ ∀ a, a.cell1 = true → cput c q a = some (rput c q a) ∧ Spn (H.set k ⟨false, rput c q a⟩) ra (As.set i a) ∧ Fr (spB ra) H (H.set k ⟨false, rput c q a⟩) := by
  rcases h with ⟨rfl, rfl⟩ | ⟨k, cap, l, rfl, hk, ⟨h1, h2⟩, h3⟩
  · simp at hi
  · refine ⟨k, 0, _, cap, i, _, rfl, hi, by omega, hk, fun a ha => ⟨if_pos ⟨by omega, ha⟩, .inr ⟨k, cap, l.set i a, by simp, set_same hk, ⟨by simpa using h1, by simpa using h2⟩, ?_⟩, ?_⟩⟩
    · rw [List.length_set, List.take_set, h3]
    · intro j B hj e
      exact set_other e (by intro q; subst q; exact hj (by simp [spB]))
/-- in the midst of solving: kb has the pointer to the system -/
structure SolI (m0 kb s : Nat) (p n0 : Int) (m : Nat) (R : List By) (T : List Int) (G : List Blk) (ra : At) (As : List At) (pa : At) : Prop where
  fkb : G[kb]? = some ⟨false, .vr (.pt s 0)⟩
  fs : G[s]? = some (sysB p n0 m ra pa)
  fra : Spn G ra As
  frows : Rows G (m + 1) As R
  fpa : Spn G pa (T.map (At.i .i64))
  nd : (kb :: OwnT s ra As pa).Nodup
  ge : ∀ k ∈ kb :: OwnT s ra As pa, m0 ≤ k
theorem Rows.blt {H : List Blk} {w : Nat} {As : List At} {R : List By} (h : Rows H w As R) : ∀ k ∈ As.map blkOf, k < H.length := by
  intro k hk
  obtain ⟨a, ha, rfl⟩ := List.mem_map.1 hk
  obtain ⟨i, hi, rfl⟩ := List.mem_iff_getElem.1 ha
  have := h.2 i hi
  rw [List.getD_eq_getElem?_getD, List.getElem?_eq_getElem hi] at this
  obtain ⟨k, cap, N, f, e, h2, -⟩ := this
  simp only [Option.getD_some] at e
  rw [e]; exact lt_of h2
section
variable {m0 kb s : Nat} {p n0 : Int} {m : Nat} {R : List By} {T : List Int} {G G' : List Blk} {ra : At} {As : List At} {pa : At}
theorem SolI.lt (h : SolI m0 kb s p n0 m R T G ra As pa) : ∀ k ∈ kb :: OwnT s ra As pa, k < G.length := by
  intro k hk
  simp only [OwnT, List.mem_cons, List.mem_append] at hk
  rcases hk with rfl | rfl | hk | hk | hk
  · exact lt_of h.fkb
  · exact lt_of h.fs
  · exact h.fpa.lt.2 k hk
  · exact h.fra.lt.2 k hk
  · exact h.frows.blt k hk
theorem SolI.fr (h : SolI m0 kb s p n0 m R T G ra As pa) {l : List Nat} (e : Fr l G G') (hn : ∀ k ∈ kb :: OwnT s ra As pa, k ∉ l) : SolI m0 kb s p n0 m R T G' ra As pa :=
  ⟨e _ _ (hn _ (by simp)) h.fkb, e _ _ (hn _ (by simp [OwnT])) h.fs, h.fra.fr e fun k hk => hn k (by simp [OwnT, hk]), h.frows.fr e fun k hk => hn k (by simp only [OwnT, List.mem_cons, List.mem_append]; simp [hk]), h.fpa.fr e fun k hk => hn k (by simp [OwnT, hk]), h.nd, h.ge⟩
theorem SolI.ext (h : SolI m0 kb s p n0 m R T G ra As pa) (e : Ext G G') : SolI m0 kb s p n0 m R T G' ra As pa := h.fr (l := []) (e.fr) (by simp)
/-- the contents of the rows changed -/
theorem SolI.cl (h : SolI m0 kb s p n0 m R T G ra As pa) {R' : List By} (e : Fr (As.map blkOf) G G') (hr : Rows G' (m + 1) As R') : SolI m0 kb s p n0 m R' T G' ra As pa := by
  have nd := h.nd
  have hnr : ∀ k, k = kb ∨ k = s ∨ k ∈ spB pa ∨ k ∈ spB ra → k ∉ As.map blkOf := by
    intro k hk hq
    simp only [OwnT, List.nodup_cons, List.nodup_append, List.mem_cons, List.mem_append, not_or] at nd
    grind
  exact ⟨e _ _ (hnr _ (.inl rfl)) h.fkb, e _ _ (hnr _ (.inr (.inl rfl))) h.fs, h.fra.fr e fun k hk => hnr k (by simp [hk]), hr, h.fpa.fr e fun k hk => hnr k (by simp [hk]), nd, h.ge⟩
end
theorem Spn.sl {H : List Blk} {ra : At} {As : List At} (h : Spn H ra As) (hn : 0 < As.length) : ∃ k cap l, ra = .sl k 0 As.length cap ∧ H[k]? = some ⟨false, .rw l⟩ ∧ (cap ≤ l.length ∧ As.length ≤ cap) ∧ l.take As.length = As := by
  rcases h with ⟨rfl, rfl⟩ | h
  · simp at hn
  · exact h
theorem Spn.cell {H : List Blk} {ra : At} {As : List At} (h : Spn H ra As) : ra.cell1 = true := by
  rcases h with ⟨rfl, rfl⟩ | ⟨k, cap, l, rfl, -⟩ <;> rfl
theorem kept1 {k : Nat} {B : Blk} {H H' : List Blk} (h : H[k]? = some B) (h' : H'[k]? = some B) : H'[k]? = H[k]? := by rw [h, h']
end Hf
namespace Hf
open Go Classical
section
variable {W : Nat} {p : Int}
theorem clq_ok (hp : Pr p) {v : By} {c : Nat} (hc : c < W) (hv : Vp W p v) (h : v c ≠ 0) :
    Vp W p (clq W p v c) ∧ clq W p v c c = 1 ∧ (∀ y, v y = 0 → clq W p v c y = 0) ∧ clq W p v c = addW W p z0 v (invI p (v c)) ∧ v = addW W p z0 (clq W p v c) (bz v c) := by
  have h2 := hp.1
  have h3 := hp.2.1
  have hp1 : 1 ≤ p := by omega
  have hp2 : p ≤ 256 := by omega
  obtain ⟨i1, i2⟩ := inv_ok hp h (hv.1 c)
  have hI : invI p (v c) = ((invN p (v c) : Nat) : Int) := if_pos i1
  have e : clq W p v c = addW W p z0 v (invI p (v c)) := vec_congr fun y hy => cg_of_eq (by rw [bz_z0, Int.zero_add])
  have hb : ∀ y, y < W → bz (clq W p v c) y = invI p (v c) * bz v y % p := by
    intro y hy
    rw [e, bz_add hp1 hp2 hy, bz_z0, Int.zero_add]
  have h1 : bz (clq W p v c) c = 1 := by
    rw [hb c hc, hI]; exact i2
  have hvp : Vp W p (clq W p v c) := by rw [e]; exact Vp.add hp1 hp2
  refine ⟨hvp, bz_inj h1, ?_, e, ?_⟩
  · intro y hy
    by_cases hw : y < W
    · apply bz_eq0.1
      rw [hb y hw, bz_eq0.2 hy, Int.mul_zero]; exact Int.zero_emod p
    · exact hvp.2 y (by omega)
  · refine hv.ext (Vp.add hp1 hp2) fun x hx => cg.symm ((cg_add' hp1 hp2 hx).trans ?_)
    rw [bz_z0, Int.zero_add, hb x hx]
    refine (cg_mul cg.rfl' cg_mod).trans ?_
    have h5 : cg p (invI p (v c) * bz v c) 1 := by
      unfold cg
      rw [show invI p (v c) * bz v c % p = 1 from by rw [hI]; exact i2, Int.emod_eq_of_lt (by omega) (by omega)]
    refine cg.trans (cg_of_eq ?_) ((cg_mul h5 cg.rfl').trans (cg_of_eq (Int.one_mul (bz v x))))
    grind
theorem clj_add (hp : 1 ≤ p) (hp2 : p ≤ 256) {q v : By} {c : Nat} (hv : Vp W p v) : clj W p q v c = addW W p v q (-(bz v c)) := by
  unfold clj
  split
  · rename_i h
    rw [bz_eq0.2 h, Int.neg_zero, add_0 hp hp2 hv]
  · rfl
theorem clj_at (hp : 1 ≤ p) (hp2 : p ≤ 256) {q v : By} {c y : Nat} (hv : Vp W p v) (hq : q y = 0) : clj W p q v c y = v y := by
  rw [clj_add hp hp2 hv]
  by_cases hy : y < W
  · apply bz_inj
    show bz _ y = bz v y
    rw [bz_add hp hp2 hy, bz_eq0.2 hq, Int.mul_zero, Int.add_zero]
    have := hv.1 y
    exact Int.emod_eq_of_lt (by unfold bz; omega) this
  · rw [(Vp.add hp hp2).2 y (by omega), hv.2 y (by omega)]
theorem clj_0 (hp : 2 ≤ p) (hp2 : p ≤ 256) {q v : By} {c : Nat} (hc : c < W) (hv : Vp W p v) (hq : q c = 1) : clj W p q v c c = 0 := by
  rw [clj_add (by omega) hp2 hv]
  apply bz_eq0.1
  rw [bz_add (by omega) hp2 hc, show bz q c = 1 from one_bz hq, Int.mul_one, Int.add_right_neg]
  exact Int.zero_emod p

/-- what holds ahead of column i -/
structure SolP (W : Nat) (p : Int) (R L : List By) (C : List Nat) (i : Nat) : Prop where
  len : L.length = R.length
  vp : ∀ r ∈ L, Vp W p r
  sp : SpE W p L R
  cl : C.length ≤ L.length
  ci : ∀ a, a < C.length → C.getD a 0 < i
  cs : ∀ a b, a < b → b < C.length → C.getD a 0 < C.getD b 0
  one : ∀ a, a < C.length → L.getD a z0 (C.getD a 0) = 1
  lo : ∀ a, a < C.length → ∀ y, y < C.getD a 0 → L.getD a z0 y = 0
  z : ∀ a, a < C.length → ∀ b, b < L.length → b ≠ a → L.getD b z0 (C.getD a 0) = 0
  r : ∀ b, C.length ≤ b → b < L.length → ∀ y, y < i → L.getD b z0 y = 0

theorem swL_mem {α : Type} {z : α} {L : List α} {i j : Nat} (hi : i < L.length) (hj : j < L.length) {x : α} : x ∈ swL z L i j ↔ x ∈ L := (swL_perm hi hj).mem_iff

theorem getD_app1 {C : List Nat} {c a : Nat} (h : a < C.length) : (C ++ [c]).getD a 0 = C.getD a 0 := by
  simp only [List.getD_eq_getElem?_getD]; rw [List.getElem?_append_left h]
theorem getD_app2 {C : List Nat} {c : Nat} : (C ++ [c]).getD C.length 0 = c := by
  simp only [List.getD_eq_getElem?_getD]; rw [List.getElem?_append_right (Nat.le_refl _)]; simp

theorem SolP.step (hp : Pr p) {R L : List By} {C : List Nat} {i k : Nat} (hi : i < W) (h : SolP W p R L C i) (hk : k < L.length - C.length) (hn : L.getD (C.length + k) z0 i ≠ 0) :
    SolP W p R (clr W p (swL z0 L C.length (C.length + k)) C.length i) (C ++ [i]) (i + 1) := by
  have h2 := hp.1
  have h3 := hp.2.1
  have hp1 : 1 ≤ p := by omega
  have hp2 : p ≤ 256 := by omega
  have hd : C.length < L.length := by omega
  have hdk : C.length + k < L.length := by omega
  generalize hL1 : swL z0 L C.length (C.length + k) = L1
  have hlen1 : L1.length = L.length := by rw [← hL1, swL_len]
  have hat : ∀ x, L1.getD x z0 = if x = C.length + k then L.getD C.length z0 else if x = C.length then L.getD (C.length + k) z0 else L.getD x z0 := by
    intro x; rw [← hL1, swL_at hd hdk]
  have hvp1 : ∀ r ∈ L1, Vp W p r := fun r hr => h.vp r ((swL_mem hd hdk).1 (by rw [hL1]; exact hr))
  have hd1 : L1.getD C.length z0 = L.getD (C.length + k) z0 := by
    rw [hat]; split
    · rename_i e; rw [← e]
    · rw [if_pos rfl]
  -- rows of the new list that came from behind have zeros ahead of i
  have hr1 : ∀ b, C.length ≤ b → b < L.length → ∀ y, y < i → L1.getD b z0 y = 0 := by
    intro b hb hb2 y hy
    rw [hat]
    split
    · exact h.r _ (Nat.le_refl _) hd y hy
    · split
      · exact h.r _ (by omega) hdk y hy
      · exact h.r b hb hb2 y hy
  have hfr : ∀ b, b < C.length → L1.getD b z0 = L.getD b z0 := by
    intro b hb
    rw [hat, if_neg (by omega), if_neg (by omega)]
  have hz1 : ∀ a, a < C.length → ∀ b, b < L.length → b ≠ a → L1.getD b z0 (C.getD a 0) = 0 := by
    intro a ha b hb hn
    rcases Nat.lt_or_ge b C.length with h' | h'
    · rw [hfr b h']; exact h.z a ha b hb hn
    · exact hr1 b h' hb _ (h.ci a ha)
  have hvd : Vp W p (L1.getD C.length z0) := hvp1 _ (getD_mem (by omega))
  have hnz : L1.getD C.length z0 i ≠ 0 := by rw [hd1]; exact hn
  obtain ⟨q1, q2, q3, q4, q5⟩ := clq_ok hp hi hvd hnz
  generalize hq : clq W p (L1.getD C.length z0) i = q at q1 q2 q3 q4 q5
  have hq0 : ∀ y, y < i → q y = 0 := fun y hy => q3 y (hr1 _ (Nat.le_refl _) hd y hy)
  have hN : ∀ j, j < L.length → (clr W p L1 C.length i).getD j z0 = if j = C.length then q else clj W p q (L1.getD j z0) i := by
    intro j hj
    rw [clr_at (by omega)]
    unfold clR
    rw [hq]
  have hvj : ∀ j, j < L.length → Vp W p (L1.getD j z0) := fun j hj => hvp1 _ (getD_mem (by omega))
  have hvN : ∀ j, j < L.length → Vp W p ((clr W p L1 C.length i).getD j z0) := by
    intro j hj
    rw [hN j hj]
    split
    · exact q1
    · rw [clj_add hp1 hp2 (hvj j hj)]; exact Vp.add hp1 hp2
  have hmem : ∀ r ∈ clr W p L1 C.length i, ∃ j, j < L.length ∧ r = (clr W p L1 C.length i).getD j z0 := by
    intro r hr
    obtain ⟨j, hj, rfl⟩ := List.mem_iff_getElem.1 hr
    rw [clr_len, hlen1] at hj
    exact ⟨j, hj, by simp [List.getD_eq_getElem?_getD, clr_len, hlen1, hj]⟩
  have hmem1 : ∀ r ∈ L1, ∃ j, j < L.length ∧ r = L1.getD j z0 := by
    intro r hr
    obtain ⟨j, hj, rfl⟩ := List.mem_iff_getElem.1 hr
    exact ⟨j, by omega, by simp [List.getD_eq_getElem?_getD, hj]⟩
  have hin : ∀ j, j < L.length → (clr W p L1 C.length i).getD j z0 ∈ clr W p L1 C.length i := fun j hj => getD_mem (by rw [clr_len]; omega)
  have hsq : Sp' W p L1 q := by rw [q4]; exact .a .z (getD_mem (by omega))
  have hsq' : Sp' W p (clr W p L1 C.length i) q := by
    have := hin _ hd
    rw [hN _ hd, if_pos rfl] at this
    exact .mem hp1 hp2 this q1
  refine ⟨by rw [clr_len, hlen1]; exact h.len, ?_, ?_, ?_, ?_, ?_, ?_, ?_, ?_, ?_⟩
  · intro r hr
    obtain ⟨j, hj, rfl⟩ := hmem r hr
    exact hvN j hj
  · refine SpE.trans (SpE.of hp1 hp2 (M := L1) ?_ ?_) (SpE.trans (SpE.of hp1 hp2 ?_ ?_) h.sp)
    · intro r hr
      obtain ⟨j, hj, rfl⟩ := hmem r hr
      rw [hN j hj]
      split
      · exact hsq
      · rw [clj_add hp1 hp2 (hvj j hj)]
        exact (Sp'.mem hp1 hp2 (getD_mem (by omega)) (hvj j hj)).add hp1 hp2 hsq
    · intro r hr
      obtain ⟨j, hj, rfl⟩ := hmem1 r hr
      by_cases e : j = C.length
      · rw [e, q5]
        exact Sp'.z.add hp1 hp2 hsq'
      · have h1 := Sp'.mem hp1 hp2 (hin j hj) (hvN j hj)
        have h4 := h1.add hp1 hp2 (k := bz (L1.getD j z0) i) hsq'
        rw [hN j hj, if_neg e, clj_add hp1 hp2 (hvj j hj)] at h4
        have e2 : addW W p (addW W p (L1.getD j z0) q (-(bz (L1.getD j z0) i))) q (bz (L1.getD j z0) i) = L1.getD j z0 := by
          refine (Vp.add hp1 hp2).ext (hvj j hj) fun x hx => ?_
          refine (cg_add' hp1 hp2 hx).trans ((cg_add (cg_add' hp1 hp2 hx) cg.rfl').trans (cg_of_eq ?_))
          grind
        rwa [e2] at h4
    · intro r hr
      have := (swL_mem (z := z0) hd hdk).1 (by rw [hL1]; exact hr)
      exact .mem hp1 hp2 this (h.vp r this)
    · intro r hr
      have := (swL_mem (z := z0) hd hdk).2 hr
      rw [hL1] at this
      exact .mem hp1 hp2 this (hvp1 r this)
  · rw [clr_len, hlen1]; simp; omega
  · intro a ha
    rw [List.length_append, List.length_singleton] at ha
    rcases Nat.lt_or_ge a C.length with h' | h'
    · rw [getD_app1 h']; have := h.ci a h'; omega
    · obtain rfl : a = C.length := by omega
      rw [getD_app2]; omega
  · intro a b hab hb
    rw [List.length_append, List.length_singleton] at hb
    rcases Nat.lt_or_ge b C.length with h' | h'
    · rw [getD_app1 h', getD_app1 (by omega)]; exact h.cs a b hab h'
    · obtain rfl : b = C.length := by omega
      rw [getD_app2, getD_app1 hab]; exact h.ci a hab
  · intro a ha
    rw [List.length_append, List.length_singleton] at ha
    rw [hN a (by omega)]
    rcases Nat.lt_or_ge a C.length with h' | h'
    · rw [if_neg (by omega), getD_app1 h', clj_at hp1 hp2 (hvj a (by omega)) (hq0 _ (h.ci a h')), hfr a h']
      exact h.one a h'
    · obtain rfl : a = C.length := by omega
      rw [if_pos rfl, getD_app2]; exact q2
  · intro a ha y hy
    rw [List.length_append, List.length_singleton] at ha
    rw [hN a (by omega)]
    rcases Nat.lt_or_ge a C.length with h' | h'
    · rw [getD_app1 h'] at hy
      rw [if_neg (by omega), clj_at hp1 hp2 (hvj a (by omega)) (hq0 _ (by have := h.ci a h'; omega)), hfr a h']
      exact h.lo a h' y hy
    · obtain rfl : a = C.length := by omega
      rw [getD_app2] at hy
      rw [if_pos rfl]; exact hq0 y hy
  · intro a ha b hb hne
    rw [List.length_append, List.length_singleton] at ha
    rw [clr_len, hlen1] at hb
    rw [hN b hb]
    rcases Nat.lt_or_ge a C.length with h' | h'
    · rw [getD_app1 h']
      split
      · exact hq0 _ (h.ci a h')
      · rw [clj_at hp1 hp2 (hvj b hb) (hq0 _ (h.ci a h'))]
        exact hz1 a h' b hb hne
    · obtain rfl : a = C.length := by omega
      rw [getD_app2, if_neg hne]
      exact clj_0 h2 hp2 hi (hvj b hb) q2
  · intro b hb hb2 y hy
    rw [List.length_append, List.length_singleton] at hb
    rw [clr_len, hlen1] at hb2
    rw [hN b hb2, if_neg (by omega)]
    rcases Nat.eq_or_lt_of_le (Nat.lt_succ_iff.1 hy) with e | e
    · rw [e]; exact clj_0 h2 hp2 hi (hvj b hb2) q2
    · rw [clj_at hp1 hp2 (hvj b hb2) (hq0 y e)]
      exact hr1 b (by omega) hb2 y e

end
end Hf
namespace Hf
open Go Classical
section
variable {W W' m : Nat} {p : Int}
theorem Vp.mono (hW : W ≤ W') {v : By} (h : Vp W p v) : Vp W' p v := ⟨h.1, fun x hx => h.2 x (by omega)⟩
theorem addW_w (hW : W ≤ W') {u w : By} {k : Int} (hu : Vp W p u) (hw : Vp W p w) : addW W' p u w k = addW W p u w k :=
  (vec_more hW fun y hy _ => by rw [bz_eq0.2 (hu.2 y hy), bz_eq0.2 (hw.2 y hy)]; simp).symm
theorem Sp'.w1 (hp : 1 ≤ p) (hp2 : p ≤ 256) (hW : W ≤ W') {L : List By} (hL : ∀ v ∈ L, Vp W p v) {v : By} (h : Sp' W' p L v) : Sp' W p L v := by
  induction h with
  | z => exact .z
  | a h1 h2 ih => rw [addW_w hW (ih.vp hp hp2) (hL _ h2)]; exact .a ih h2
theorem Sp'.w2 (hp : 1 ≤ p) (hp2 : p ≤ 256) (hW : W ≤ W') {L : List By} (hL : ∀ v ∈ L, Vp W p v) {v : By} (h : Sp' W p L v) : Sp' W' p L v := by
  induction h with
  | z => exact .z
  | a h1 h2 ih => rw [← addW_w hW (h1.vp hp hp2) (hL _ h2)]; exact .a ih h2
theorem fstW_w (hW : W ≤ W') {v : By} (hv : ∀ x, W ≤ x → v x = 0) (h : v ≠ z0) : fstW W' v = fstW W v := by
  have h1 := fst_nz hv h
  exact fstW_eq (by omega) (fstW_ne h1) fun y hy => fstW_lt hy
theorem RR.w (hp : 1 ≤ p) (hW : W ≤ W') {L : List By} (hL : ∀ v ∈ L, Vp W p v) (h : RR W' p L) : RR W p L := by
  have hf : ∀ v ∈ L, fstW W' v = fstW W v := fun v hv => fstW_w hW (hL v hv).2 (h.nz hv)
  refine ⟨hL, fun r hr => ?_, ?_⟩
  · have := h.ld r hr
    rw [hf r hr] at this
    exact ⟨fst_nz (hL r hr).2 (h.nz hr), this.2⟩
  · refine List.Pairwise.imp_of_mem ?_ h.st
    intro a b ha hb hab
    rw [hf a ha, hf b hb] at hab
    exact hab
end
/-! ### a new row -/
/-- a row that may be written on behind: its block is none of the first m -/
def RowC (m : Nat) (H : List Blk) (n : Nat) (a : At) (v : By) : Prop := ∃ k cap N f, a = .sl k 0 n cap ∧ H[k]? = some ⟨false, .by [] N f⟩ ∧ (cap ≤ N ∧ n ≤ cap ∧ m ≤ k) ∧ ∀ x, x < n → f x = v x
theorem RowC.row {m : Nat} {H : List Blk} {n : Nat} {a : At} {v : By} (h : RowC m H n a v) : RowB H n a v := by
  obtain ⟨k, cap, N, f, h1, h2, h3, h4⟩ := h
  exact ⟨k, cap, N, f, h1, h2, by omega, h4⟩
theorem RowC.ge {m : Nat} {H : List Blk} {n : Nat} {a : At} {v : By} (h : RowC m H n a v) : m ≤ blkOf a := by
  obtain ⟨k, cap, N, f, rfl, h2, h3, h4⟩ := h
  exact h3.2.2
theorem RowC.mono {m m' : Nat} {H : List Blk} {n : Nat} {a : At} {v : By} (h : RowC m H n a v) (hm : m' ≤ m) : RowC m' H n a v := by
  obtain ⟨k, cap, N, f, h1, h2, h3, h4⟩ := h
  exact ⟨k, cap, N, f, h1, h2, by omega, h4⟩
theorem RowC.ext {m : Nat} {H H' : List Blk} {n : Nat} {a : At} {v : By} (h : RowC m H n a v) (e : Ext H H') : RowC m H' n a v := by
  obtain ⟨k, cap, N, f, h1, h2, h3, h4⟩ := h
  exact ⟨k, cap, N, f, h1, e _ _ h2, h3, h4⟩
theorem SY.len {m0 : Nat} {H : List Blk} {s m : Nat} {p n0 : Int} {R : List By} {T : List Int} (h : SY m0 H s p n0 m R T) : s < H.length := by
  obtain ⟨ra, As, pa, h, -⟩ := h; exact lt_of h
end Hf
namespace Hf
open Go Classical
variable {P : Program} {ρ : Nat → FuncId}
theorem CallOK.at0 {f : Nat} {as : List At} {H : List Blk} {v : Sv} (h : CallOK P ρ f as [] v []) (ha : as = as.map (mva (tau [] H.length))) (hv : mvs (tau [] H.length) v = v) : CallR P ρ f as H fun u G => u = v ∧ G = H :=
  (h.emb [] ha trivial rfl hv (by simp [back])).r
/-- a call that reads one block -/
theorem CallOK.at1 {f k : Nat} {as args : List At} {H : List Blk} {v : Sv} {r : Bool} {hd : List Int} {N : Nat} {g : By} (hk : H[k]? = some ⟨r, .by hd N g⟩) (h : CallOK P ρ f as [⟨true, .by hd N g⟩] v [⟨true, .by hd N g⟩]) (ha : args = as.map (mva (tau [k] H.length))) (hv : mvs (tau [k] H.length) v = v) :
    CallR P ρ f args H fun u G => u = v ∧ G = H :=
  (h.emb [k] ha ⟨⟨r, hk, fun h => by cases h⟩, trivial⟩ rfl hv (by simp [back])).r
/-! ### the rows of a matrix -/
def rw8 (g : By) (i : Nat) : By := fun x => if x < 8 then g (i * 8 + x) else 0
def rows8 (g : By) : List By := (List.range 8).map (rw8 g)
theorem rows8_at {g : By} {i : Nat} (h : i < 8) : (rows8 g).getD i z0 = rw8 g i := by simp [rows8, List.getD_eq_getElem?_getD, h]
theorem VS.ag {H : List Blk} {k : Nat} {r : Bool} {g : By} (h : H[k]? = some ⟨r, .by [] 64 g⟩) : VS H (.sl k 0 8 8) (rows8 g) := by
  refine .inr ⟨k, 0, 8, r, 64, g, by simp [rows8], h, by simp [rows8], fun i x hi hx => ?_⟩
  have hi : i < 8 := by simpa [rows8] using hi
  rw [rows8_at hi, rw8, if_pos hx, Nat.zero_add]
theorem VW.one {H : List Blk} {m : Nat} {v : By} (hm : m ≤ H.length) : VW m (H ++ [⟨false, .by [] (1 * 8) (spl (fun _ => 0) (0 * 8) 8 v)⟩]) (.sl H.length 0 1 1) [v] := by
  refine ⟨H.length, 0, 1, _, _, rfl, get_new, ⟨by omega, by simp, hm⟩, fun i x h hx => ?_⟩
  obtain rfl : i = 0 := by simpa using h
  simp [spl, hx]
/-- a slice that may be nil -/
def VM (m : Nat) (H : List Blk) (a : At) (L : List By) : Prop := (a = .sn ∧ L = []) ∨ VW m H a L
theorem VM.nil {m : Nat} {H : List Blk} : VM m H .sn [] := .inl ⟨rfl, rfl⟩
theorem VM.mono {m m' : Nat} {H : List Blk} {a : At} {L : List By} (h : VM m H a L) (hm : m' ≤ m) : VM m' H a L := h.imp id fun h => h.mono hm
theorem VM.ext {m : Nat} {H H' : List Blk} {a : At} {L : List By} (h : VM m H a L) (e : Ext H H') : VM m H' a L := h.imp id fun h => h.ext e
theorem brB_f' {b : Bool} {K : Bool → Prop} (hb : b = false) (h : K false) : brB b K := by subst hb; exact brB_f h
theorem VW.congr {m : Nat} {H : List Blk} {a : At} {L L' : List By} (h : VW m H a L) (hl : L'.length = L.length) (e : ∀ i x, i < L.length → x < 8 → (L.getD i z0) x = (L'.getD i z0) x) : VW m H a L' := by
  obtain ⟨k, off, cap, N, f, rfl, h2, h3, h4⟩ := h
  exact ⟨k, off, cap, N, f, by rw [hl], h2, by rw [hl]; exact h3, fun i x hi hx => by rw [hl] at hi; rw [h4 i x hi hx]; exact e i x hi hx⟩
/-- an entry is written -/
theorem VW.st {m : Nat} {H : List Blk} {a : At} {L : List By} (h : VW m H a L) (i : Nat) (hi : i < L.length) :
    ∃ k off len cap q c, a = .sl k off len cap ∧ i < len ∧ off + i * 8 = q ∧ H[k]? = some ⟨false, c⟩ ∧ ∀ x b, x < 8 → cput c (q + x) (.u b) = some (bput c (q + x) b) ∧
      (∀ L', L'.length = L.length → (∀ j y, j < L.length → y < 8 → (L'.getD j z0) y = if j = i ∧ y = x then b else (L.getD j z0) y) → VW m (H.set k ⟨false, bput c (q + x) b⟩) a L') ∧ Upto m H (H.set k ⟨false, bput c (q + x) b⟩) := by
  obtain ⟨k, off, cap, N, f, rfl, h2, h3, h4⟩ := h
  refine ⟨k, off, L.length, cap, off + i * 8, _, rfl, hi, rfl, h2, fun x b hx => ⟨cput_u (by simp) (by omega), fun L' hl he => ⟨k, off, cap, N, upd f (off + i * 8 + x) b, by rw [hl], set_same h2, by rw [hl]; exact h3, fun j y hj hy => ?_⟩, fun j B hj e => set_other e (by omega)⟩⟩
  rw [hl] at hj
  rw [he j y hj hy]
  unfold upd
  by_cases e : j = i ∧ y = x
  · rw [if_pos e, if_pos (by omega)]
  · rw [if_neg e, if_neg (by omega)]
    exact h4 j y hj hy
end Hf
namespace Hf
open Go Classical
section
variable {W W' n : Nat} {p : Int}
theorem RR.up (hW : W ≤ W') {L : List By} (h : RR W p L) : RR W' p L := by
  have hf : ∀ v ∈ L, fstW W' v = fstW W v := fun v hv => fstW_w hW (h.vp v hv).2 (h.nz hv)
  refine ⟨fun v hv => (h.vp v hv).mono hW, fun r hr => ?_, ?_⟩
  · have := h.ld r hr
    rw [hf r hr]
    exact ⟨by omega, this.2⟩
  · refine List.Pairwise.imp_of_mem ?_ h.st
    intro a b ha hb hab
    rw [hf a ha, hf b hb]
    exact hab
theorem SpE.up (hp : 1 ≤ p) (hp2 : p ≤ 256) (hW : W ≤ W') {A B : List By} (hA : ∀ v ∈ A, Vp W p v) (hB : ∀ v ∈ B, Vp W p v) (h : SpE W p A B) : SpE W' p A B :=
  fun v => ⟨fun q => ((h v).1 (q.w1 hp hp2 hW hA)).w2 hp hp2 hW hB, fun q => ((h v).2 (q.w1 hp hp2 hW hB)).w2 hp hp2 hW hA⟩
end
theorem SY.ext {m0 : Nat} {H G : List Blk} {s m : Nat} {p n0 : Int} {R : List By} {T : List Int} (h : SY m0 H s p n0 m R T) (e : Ext H G) : SY m0 G s p n0 m R T := by
  obtain ⟨ra, As, pa, hs, hra, hR, hpa, hnd, hge⟩ := h
  exact ⟨ra, As, pa, e _ _ hs, hra.fr (l := []) e.fr (by simp), hR.fr (l := []) e.fr (by simp), hpa.fr (l := []) e.fr (by simp), hnd, hge⟩
end Hf
namespace Hf
open Go Classical
section
variable {W n : Nat} {p : Int}
def dt (n : Nat) (u v : By) : Int := sm n fun i => bz u i * bz v i
theorem dt_add (hp : 1 ≤ p) (hp2 : p ≤ 256) (hn : n ≤ W) {r u w : By} {k : Int} : cg p (dt n r (addW W p u w k)) (dt n r u + k * dt n r w) := by
  refine (cg_sm (y := fun i => bz r i * bz u i + k * (bz r i * bz w i)) fun i hi => (cg_mul cg.rfl' (cg_add' hp hp2 (by omega))).trans (cg_of_eq (by grind))).trans (cg_of_eq ?_)
  rw [sm_add, sm_mul]; rfl
theorem dt_add' (hp : 1 ≤ p) (hp2 : p ≤ 256) (hn : n ≤ W) {r u w : By} {k : Int} : cg p (dt n (addW W p u w k) r) (dt n u r + k * dt n w r) := by
  refine (cg_sm (y := fun i => bz u i * bz r i + k * (bz w i * bz r i)) fun i hi => (cg_mul (cg_add' hp hp2 (by omega)) cg.rfl').trans (cg_of_eq (by grind))).trans (cg_of_eq ?_)
  rw [sm_add, sm_mul]; rfl
theorem dt_z {r : By} : dt n r z0 = 0 := sm_zero fun i _ => by rw [bz_z0, Int.mul_zero]
theorem dt_z' {r : By} : dt n z0 r = 0 := sm_zero fun i _ => by rw [bz_z0, Int.zero_mul]
/-- a solution of the equations E -/
def KerD (n : Nat) (p : Int) (E : List By) (v : By) : Prop := Vp n p v ∧ ∀ e ∈ E, cg p (dt n e v) 0
theorem KerD.sp (hp : 1 ≤ p) (hp2 : p ≤ 256) (hn : n ≤ W) {E : List By} {v : By} (h : KerD n p E v) {u : By} (hu : Sp' W p E u) : cg p (dt n u v) 0 := by
  induction hu with
  | z => rw [dt_z']; rfl
  | a h1 h2 ih =>
    refine (dt_add' hp hp2 hn).trans ((cg_add ih (cg_mul cg.rfl' (h.2 _ h2))).trans (cg_of_eq (by simp)))
theorem KerD.add (hp : 1 ≤ p) (hp2 : p ≤ 256) {E : List By} {u w : By} {k : Int} (hu : KerD n p E u) (hw : KerD n p E w) : KerD n p E (addW n p u w k) :=
  ⟨Vp.add hp hp2, fun e he => (dt_add hp hp2 (Nat.le_refl _)).trans ((cg_add (hu.2 e he) (cg_mul cg.rfl' (hw.2 e he))).trans (cg_of_eq (by simp)))⟩
theorem KerD.z (hp : 1 ≤ p) {E : List By} : KerD n p E z0 := ⟨Vp.z hp, fun e _ => by rw [dt_z]; rfl⟩
theorem KerD.of (hp : 1 ≤ p) (hp2 : p ≤ 256) (hn : n ≤ W) {E L : List By} (h : ∀ u ∈ L, KerD n p E u) {v : By} (hv : Sp' W p L v) : KerD n p E v := by
  induction hv with
  | z => exact .z hp
  | a h1 h2 ih => rw [addW_w hn ih.1 (h _ h2).1]; exact ih.add hp hp2 (h _ h2)

end
end Hf
namespace Hf
open Go Classical
variable {P : Program} {ρ : Nat → FuncId}
theorem oc_0 {q : Prop} (h : oc q 1 = 0) : q := by
  apply Classical.byContradiction
  intro hq
  rw [oc_f hq] at h
  cases h
end Hf
namespace Hf
open Go Classical
section
variable {p : Int}
/-- the first entries are 1, and the later ones have 0 there -/
structure HR (W : Nat) (p : Int) (L : List By) : Prop where
  vp : ∀ r ∈ L, Vp W p r
  ld : ∀ r ∈ L, fstW W r < W ∧ r (fstW W r) = 1
  st : L.Pairwise fun a b => b (fstW W a) = 0
variable {W : Nat}
theorem HR.tl {r : By} {L : List By} (h : HR W p (r :: L)) : HR W p L := ⟨fun q hq => h.vp q (by simp [hq]), fun q hq => h.ld q (by simp [hq]), (List.pairwise_cons.1 h.st).2⟩
theorem byW1_self (hp : 1 ≤ p) (hp2 : p ≤ 256) {r : By} (hv : Vp W p r) (h1 : r (fstW W r) = 1) : byW1 W p r r = z0 := by
  rw [byW1_add hp hp2 hv]
  refine (Vp.add hp hp2).ext (Vp.z hp) fun x hx => (cg_add' hp hp2 hx).trans (cg_of_eq ?_)
  rw [one_bz h1, bz_z0]; omega
theorem byW1_at (hp : 1 ≤ p) (hp2 : p ≤ 256) {v r : By} {y : Nat} (hv : Vp W p v) (h : r y = 0) : byW1 W p v r y = v y := by
  rw [byW1_add hp hp2 hv]
  by_cases hy : y < W
  · apply bz_inj
    show bz _ y = bz v y
    rw [bz_add hp hp2 hy, bz_eq0.2 h, Int.mul_zero, Int.add_zero]
    have := hv.1 y
    exact Int.emod_eq_of_lt (by unfold bz; omega) this
  · rw [(Vp.add hp hp2).2 y (by omega), hv.2 y (by omega)]
theorem byW1_lead (hp : 1 ≤ p) (hp2 : p ≤ 256) {v r : By} (hv : Vp W p v) (hr : fstW W r < W ∧ r (fstW W r) = 1) : byW1 W p v r (fstW W r) = 0 := by
  rw [byW1_add hp hp2 hv]
  apply bz_eq0.1
  rw [bz_add hp hp2 hr.1, one_bz hr.2, Int.mul_one, Int.add_right_neg]
  exact Int.zero_emod p
theorem byW_at (hp : 1 ≤ p) (hp2 : p ≤ 256) {y : Nat} : ∀ {L : List By} {v : By}, Vp W p v → (∀ r ∈ L, r y = 0) → byW W p v L y = v y
  | [], _, _, _ => rfl
  | r :: L, v, hv, h => by
    show byW W p (byW1 W p v r) L y = v y
    rw [byW_at hp hp2 (byW1_vp hp hp2 hv) fun q hq => h q (by simp [hq]), byW1_at hp hp2 hv (h r (by simp))]
theorem HR.left (hp : 1 ≤ p) (hp2 : p ≤ 256) : ∀ {L : List By} {v : By}, HR W p L → Vp W p v → ∀ r ∈ L, byW W p v L (fstW W r) = 0
  | [], _, _, _, r, hr => by simp at hr
  | q :: L, v, h, hv, r, hr => by
    show byW W p (byW1 W p v q) L (fstW W r) = 0
    rcases List.mem_cons.1 hr with rfl | hr
    · rw [byW_at hp hp2 (byW1_vp hp hp2 hv) (List.pairwise_cons.1 h.st).1]
      exact byW1_lead hp hp2 hv (h.ld r (by simp))
    · exact h.tl.left hp hp2 (byW1_vp hp hp2 hv) r hr
theorem HR.kill (hp : 1 ≤ p) (hp2 : p ≤ 256) : ∀ {L : List By}, HR W p L → ∀ w ∈ L, byW W p w L = z0
  | [], _, w, hw => by simp at hw
  | q :: L, h, w, hw => by
    show byW W p (byW1 W p w q) L = z0
    rcases List.mem_cons.1 hw with rfl | hw
    · rw [byW1_self hp hp2 (h.vp w (by simp)) (h.ld w (by simp)).2]
      exact byW_fix fun r _ => rfl
    · have e : byW1 W p w q = w := by unfold byW1; rw [if_pos ((List.pairwise_cons.1 h.st).1 w hw)]
      rw [e]; exact h.tl.kill hp hp2 w hw
theorem SpE.one (hp : 1 ≤ p) (hp2 : p ≤ 256) {A B : List By} {u w : By} {k l : Int} (hAB : SpE W p A B) (hA : ∀ a ∈ A, Vp W p a) (hB : ∀ a ∈ B, Vp W p a) (hu : Vp W p u) (hw : Vp W p w) {s s' : By} (hs : Sp' W p A s) (hs' : Sp' W p A s') (h1 : w = addW W p s u k) (h2 : u = addW W p s' w l) :
    SpE W p (A ++ [w]) (B ++ [u]) := by
  have subA : ∀ {C : List By} {v : By}, Sp' W p A v → Sp' W p (A ++ C) v := fun h => h.sub hp hp2 fun r hr => .mem hp hp2 (List.mem_append_left _ hr) (hA r hr)
  have subB : ∀ {C : List By} {v : By}, Sp' W p B v → Sp' W p (B ++ C) v := fun h => h.sub hp hp2 fun r hr => .mem hp hp2 (List.mem_append_left _ hr) (hB r hr)
  refine SpE.of hp hp2 (fun r hr => ?_) (fun r hr => ?_)
  · rcases List.mem_append.1 hr with h | h
    · exact subB ((hAB r).1 (.mem hp hp2 h (hA r h)))
    · rw [List.mem_singleton.1 h, h1]
      exact (subB ((hAB s).1 hs)).add hp hp2 (.mem hp hp2 (by simp) hu)
  · rcases List.mem_append.1 hr with h | h
    · exact subA ((hAB r).2 (.mem hp hp2 h (hB r h)))
    · rw [List.mem_singleton.1 h, h2]
      exact (subA hs').add hp hp2 (.mem hp hp2 (by simp) hw)
theorem Sp'.congr {A B : List By} (h : ∀ r, r ∈ A ↔ r ∈ B) : SpE W p A B := by
  have one : ∀ {A B : List By}, (∀ r, r ∈ A → r ∈ B) → ∀ v, Sp' W p A v → Sp' W p B v := by
    intro A B h v hv
    induction hv with
    | z => exact .z
    | a h1 h2 ih => exact .a ih (h _ h2)
  exact fun v => ⟨one (fun r => (h r).1) v, one (fun r => (h r).2) v⟩

/-! ### what is left over are the solutions -/
theorem HR.app (hp : 1 ≤ p) (hp2 : p ≤ 256) {V Z : List By} (h : HR W p V) (hz : ∀ z ∈ Z, Vp W p z ∧ ∀ r ∈ V, z (fstW W r) = 0) {u : By} (hu : Sp' W p (V ++ Z) u) : Sp' W p Z (byW W p u V) := by
  have hv : ∀ w ∈ V ++ Z, Vp W p w := by
    intro w hw
    rcases List.mem_append.1 hw with h' | h'
    · exact h.vp w h'
    · exact (hz w h').1
  induction hu with
  | z => rw [byW_fix fun r _ => rfl]; exact .z
  | a h1 h2 ih =>
    rename_i u w k
    rw [byW_lin hp hp2 (fun r hr => (h.ld r hr).1) (h1.vp hp hp2) (hv _ h2)]
    rcases List.mem_append.1 h2 with h' | h'
    · rw [h.kill hp hp2 _ h', add_z hp hp2 (byW_vp hp hp2 (h1.vp hp hp2))]; exact ih
    · rw [byW_fix fun r hr => (hz _ h').2 r hr]; exact .a ih h'
end
end Hf
namespace Hf
open Go Classical
def zqS (p : Int) : Setoid Int := ⟨cg p, ⟨fun _ => rfl, fun h => Eq.symm h, fun h h' => Eq.trans h h'⟩⟩
def Zq (p : Int) : Type := Quotient (zqS p)
section
variable {p : Int} {n m : Nat}
def zc (a : Int) : Zq p := Quotient.mk (zqS p) a
theorem zc_eq {a b : Int} : (zc a : Zq p) = zc b ↔ cg p a b := ⟨fun h => Quotient.exact h, fun h => Quotient.sound h⟩
def zadd (a b : Zq p) : Zq p := Quotient.lift₂ (fun a b => zc (a + b)) (fun _ _ _ _ h h' => zc_eq.2 (cg_add h h')) a b
def zmul (a b : Zq p) : Zq p := Quotient.lift₂ (fun a b => zc (a * b)) (fun _ _ _ _ h h' => zc_eq.2 (cg_mul h h')) a b
instance : Add (Zq p) := ⟨zadd⟩
instance : Mul (Zq p) := ⟨zmul⟩
theorem zc_add {a b : Int} : (zc (a + b) : Zq p) = zc a + zc b := rfl
theorem zc_mul {a b : Int} : (zc (a * b) : Zq p) = zc a * zc b := rfl
theorem zi {q : Zq p → Prop} (h : ∀ a : Int, q (zc a)) (x : Zq p) : q x := Quotient.ind h x
theorem z_ac (a b : Zq p) : a + b = b + a := by
  induction a using zi with | _ a => induction b using zi with | _ b => rw [← zc_add, ← zc_add, Int.add_comm]
theorem z_aa (a b c : Zq p) : a + b + c = a + (b + c) := by
  induction a using zi with | _ a => induction b using zi with | _ b => induction c using zi with | _ c => simp only [← zc_add]; rw [Int.add_assoc]
theorem z_mc (a b : Zq p) : a * b = b * a := by
  induction a using zi with | _ a => induction b using zi with | _ b => rw [← zc_mul, ← zc_mul, Int.mul_comm]
theorem z_ma (a b c : Zq p) : a * b * c = a * (b * c) := by
  induction a using zi with | _ a => induction b using zi with | _ b => induction c using zi with | _ c => simp only [← zc_mul]; rw [Int.mul_assoc]
theorem z_md (a b c : Zq p) : a * (b + c) = a * b + a * c := by
  induction a using zi with | _ a => induction b using zi with | _ b => induction c using zi with | _ c => simp only [← zc_mul, ← zc_add]; rw [Int.mul_add]
theorem z_m0 (a : Zq p) : a * zc 0 = zc 0 := by
  induction a using zi with | _ a => rw [← zc_mul, Int.mul_zero]
theorem z_a0 (a : Zq p) : a + zc 0 = a := by
  induction a using zi with | _ a => rw [← zc_add, Int.add_zero]
theorem z_0a (a : Zq p) : zc 0 + a = a := by rw [z_ac, z_a0]
theorem z_1m (a : Zq p) : zc 1 * a = a := by
  induction a using zi with | _ a => rw [← zc_mul, Int.one_mul]
theorem z_0m (a : Zq p) : zc 0 * a = zc 0 := by rw [z_mc, z_m0]
theorem z_ml (a b c : Zq p) : a * (b * c) = b * (a * c) := by rw [← z_ma, z_mc a b, z_ma]
/-- a sum over n places -/
def sf : {n : Nat} → (Fin n → Zq p) → Zq p
  | 0, _ => zc 0
  | n + 1, F => sf (fun i : Fin n => F i.castSucc) + F (Fin.last n)
theorem sf_sm {x : Nat → Int} : ∀ {n : Nat}, (zc (sm n x) : Zq p) = sf fun i : Fin n => zc (x i.val)
  | 0 => rfl
  | n + 1 => by rw [sm, zc_add, sf_sm]; rfl
theorem sf_0 : ∀ {n : Nat}, (sf fun _ : Fin n => (zc 0 : Zq p)) = zc 0
  | 0 => rfl
  | n + 1 => by rw [sf, sf_0, z_a0]
theorem sf_add : ∀ {n : Nat} {F G : Fin n → Zq p}, sf (fun i => F i + G i) = sf F + sf G
  | 0, _, _ => (z_a0 _).symm
  | n + 1, F, G => by
    simp only [sf]
    rw [sf_add]
    rw [z_aa, z_aa, ← z_aa (sf fun i => G i.castSucc), z_ac (sf fun i => G i.castSucc), z_aa]
theorem sf_mul {c : Zq p} : ∀ {n : Nat} {F : Fin n → Zq p}, sf (fun i => c * F i) = c * sf F
  | 0, _ => (z_m0 _).symm
  | n + 1, F => by simp only [sf]; rw [sf_mul, z_md]
theorem sf_mulr {c : Zq p} {F : Fin n → Zq p} : sf (fun i => F i * c) = sf F * c := by
  rw [z_mc, ← sf_mul]; exact congrArg sf (funext fun i => z_mc _ _)
theorem sf_sw : ∀ {n m : Nat} {F : Fin n → Fin m → Zq p}, sf (fun i => sf fun j => F i j) = sf fun j => sf fun i => F i j
  | 0, m, F => by simp only [sf]; exact sf_0.symm
  | n + 1, m, F => by
    simp only [sf]
    rw [sf_sw, ← sf_add]
theorem sf_dl : ∀ {n : Nat} {i : Fin n} {F : Fin n → Zq p}, sf (fun y => (if i = y then zc 1 else zc 0) * F y) = F i
  | 0, i, _ => i.elim0
  | n + 1, i, F => by
    simp only [sf]
    rcases Nat.lt_or_ge i.val n with h | h
    · have e : i = Fin.castSucc ⟨i.val, h⟩ := rfl
      rw [e, if_neg (fun q => by have := congrArg Fin.val q; simp at this; omega), z_0m, z_a0]
      rw [← sf_dl (i := (⟨i.val, h⟩ : Fin n)) (F := fun y => F y.castSucc)]
      refine congrArg sf (funext fun y => ?_)
      congr 1
      by_cases hy : (⟨i.val, h⟩ : Fin n) = y
      · rw [if_pos hy, if_pos (congrArg Fin.castSucc hy)]
      · rw [if_neg hy, if_neg (fun q => hy (Fin.castSucc_inj.1 q))]
    · have e : i = Fin.last n := by apply Fin.ext; have := i.isLt; simp; omega
      subst e
      rw [if_pos rfl, z_1m]
      have : (sf fun y : Fin n => (if Fin.last n = y.castSucc then (zc 1 : Zq p) else zc 0) * F y.castSucc) = zc 0 := by
        refine Eq.trans (congrArg sf (funext fun y => ?_)) sf_0
        rw [if_neg (fun q => by have := congrArg Fin.val q; have := y.isLt; simp at *; omega), z_0m]
      rw [this, z_0a]
theorem sf_congr {F G : Fin n → Zq p} (h : ∀ i, F i = G i) : sf F = sf G := congrArg sf (funext h)

/-- linear: over one place, over two -/
def l1 (c : Fin n → Zq p) (F : Fin n → Zq p) : Zq p := sf fun x => c x * F x
def l2 (c : Fin n → Fin n → Zq p) (F : Fin n → Fin n → Zq p) : Zq p := sf fun x => sf fun y => c x y * F x y
variable {c d : Fin n → Zq p} {c2 d2 : Fin n → Fin n → Zq p}
theorem l1_sf {F : Fin n → Fin m → Zq p} : l1 c (fun x => sf fun y => F x y) = sf fun y => l1 c fun x => F x y := by
  unfold l1; rw [← sf_sw]; exact sf_congr fun x => sf_mul.symm
theorem l2_sf {F : Fin n → Fin n → Fin m → Zq p} : l2 c2 (fun x y => sf fun z => F x y z) = sf fun z => l2 c2 fun x y => F x y z := by
  unfold l2; exact (sf_congr fun x => (sf_congr fun y => sf_mul.symm).trans sf_sw).trans sf_sw
end
end Hf
namespace Hf
open Go Classical
section
variable {p : Int} {n : Nat}
theorem ou2 {F : Fin n → Fin n → Fin n → Zq p} : (sf fun a => sf fun b => sf fun x => F a b x) = sf fun x => sf fun a => sf fun b => F a b x := (sf_congr fun a => sf_sw).trans sf_sw
/-- the tables of a Hopf algebra, as numbers modulo p -/
structure HA (p : Int) (n : Nat) where
  m : Fin n → Fin n → Fin n → Zq p
  d : Fin n → Fin n → Fin n → Zq p
  u : Fin n → Zq p
  e : Fin n → Zq p
  s : Fin n → Fin n → Zq p
  as : ∀ i j k y, (sf fun x => m i j x * m x k y) = sf fun x => m j k x * m i x y
  ul : ∀ i y, (sf fun x => u x * m x i y) = if i = y then zc 1 else zc 0
  ur : ∀ i y, (sf fun x => u x * m i x y) = if i = y then zc 1 else zc 0
  ca : ∀ i j k l, (sf fun a => d i a l * d a j k) = sf fun a => d i j a * d a k l
  cl : ∀ i x, (sf fun j => e j * d i j x) = if i = x then zc 1 else zc 0
  cr : ∀ i j, (sf fun k => e k * d i j k) = if i = j then zc 1 else zc 0
  md : ∀ i j y z, (sf fun x => m i j x * d x y z) = sf fun a => sf fun b => m a b y * sf fun c => sf fun q => d i a c * d j b q * m c q z
  me : ∀ i j, (sf fun k => e k * m i j k) = e i * e j
  u1 : (sf fun k => e k * u k) = zc 1
  ud : ∀ y z, (sf fun x => u x * d x y z) = u y * u z
  s1 : ∀ i y, (sf fun j => sf fun k => d i j k * sf fun a => s j a * m a k y) = e i * u y
  s2 : ∀ i y, (sf fun j => sf fun k => d i j k * sf fun a => s k a * m j a y) = e i * u y
namespace HA
variable (A : HA p n)
def M (i j : Fin n) (F : Fin n → Zq p) : Zq p := l1 (A.m i j) F
def U (F : Fin n → Zq p) : Zq p := l1 A.u F
def N (h j : Fin n) (F : Fin n → Zq p) : Zq p := l1 (fun y => A.m h y j) F
def B (y : Fin n) (F : Fin n → Fin n → Zq p) : Zq p := l2 (fun j k => A.d j y k) F
variable {A} {i j k h x y z : Fin n} {F : Fin n → Zq p} {F2 : Fin n → Fin n → Zq p} {F3 : Fin n → Fin n → Fin n → Zq p} {r : Zq p}
variable (A) in
def be (X : Fin n → Fin n → Zq p) (x y : Fin n) : Zq p := A.B y fun j k => A.M x k fun w => X w j
variable (A) in
variable {X : Fin n → Fin n → Zq p}
/-- the dual's tables -/
def dual (A : HA p n) : HA p n where
  m i j k := A.d k i j
  d i j k := A.m j k i
  u := A.e
  e := A.u
  s i j := A.s j i
  as i j k y := by
    rw [sf_congr fun x => z_mc (A.d x i j) (A.d y x k), sf_congr fun x => z_mc (A.d x j k) (A.d y i x)]
    exact A.ca y i j k
  ul i y := (A.cl y i).trans (by simp only [eq_comm])
  ur i y := (A.cr y i).trans (by simp only [eq_comm])
  ca i j k l := by
    rw [sf_congr fun x => z_mc (A.m x l i) (A.m j k x), sf_congr fun x => z_mc (A.m j x i) (A.m k l x)]
    exact A.as j k l i
  cl i x := (A.ul x i).trans (by simp only [eq_comm])
  cr i j := (A.ur j i).trans (by simp only [eq_comm])
  md i j y z := by
    rw [sf_congr fun x => z_mc (A.d x i j) (A.m y z x), A.md]
    simp only [← sf_mul]
    refine sf_congr fun a => ?_
    rw [sf_sw]
    refine sf_congr fun b => sf_congr fun c => sf_congr fun q => ?_
    simp only [z_mc, z_ml, z_ma]
  me i j := A.ud i j
  u1 := by rw [sf_congr fun k => z_mc (A.u k) (A.e k)]; exact A.u1
  ud y z := A.me y z
  s1 i y := by
    rw [z_mc, ← A.s1 y i]
    simp only [← sf_mul]
    refine ou2.trans (sf_congr fun a => sf_sw.trans (sf_congr fun k => sf_congr fun j => ?_))
    simp only [z_mc, z_ml, z_ma]
  s2 i y := by
    rw [z_mc, ← A.s2 y i]
    simp only [← sf_mul]
    refine sf_congr fun j => sf_sw.trans (sf_congr fun a => sf_congr fun k => ?_)
    simp only [z_mc, z_ml, z_ma]
end HA
end
end Hf
namespace Hf
open Go Classical
theorem vecE {N : Nat} {p : Int} {x y : Nat → Int} (hp : 1 ≤ p) (hp2 : p ≤ 256) (h : vec N p x = vec N p y) {k : Nat} (hk : k < N) : cg p (x k) (y k) := by
  have e := cg_vec (x := x) hp hp2 hk
  rw [h] at e
  exact e.symm.trans (cg_vec hp hp2 hk)
theorem vecE' {N : Nat} {p : Int} {x : Nat → Int} {g : By} (hp : 1 ≤ p) (hp2 : p ≤ 256) (h : vec N p x = g) {k : Nat} (hk : k < N) : cg p (x k) (bz g k) := by
  rw [← h]; exact (cg_vec hp hp2 hk).symm
theorem prd_r {n o : Nat} {f v : By} {k y : Nat} (hk : k < n) : prd n f o v (bas k) y = sm n fun i => bz v i * bz f (o + i * 64 + k * 8 + y) := by
  unfold prd
  refine sm_congr fun i _ => ?_
  rw [← sm_bas (X := fun j => bz f (o + i * 64 + j * 8 + y)) hk, ← sm_mul]
  exact sm_congr fun j _ => Int.mul_assoc _ _ _
theorem prd_l {n o : Nat} {f w : By} {k y : Nat} (hk : k < n) : prd n f o (bas k) w y = sm n fun j => bz w j * bz f (o + k * 64 + j * 8 + y) := by
  unfold prd
  rw [← sm_bas (X := fun i => sm n fun j => bz w j * bz f (o + i * 64 + j * 8 + y)) hk]
  refine sm_congr fun i _ => ?_
  rw [← sm_mul]
  exact sm_congr fun j _ => Int.mul_assoc _ _ _
theorem zc_bas {p : Int} {n : Nat} {i y : Fin n} : (zc (bz (bas i.val) y.val) : Zq p) = if i = y then zc 1 else zc 0 := by
  by_cases h : i = y
  · subst h; rw [if_pos rfl, one_bz (by unfold bas; rw [if_pos rfl])]
  · rw [if_neg h, bz_eq0.2 (by unfold bas; rw [if_neg fun q => h (Fin.ext q.symm)])]
theorem Cog.coa {p : Int} {n : Nat} {f : By} (h : Cog p n f) {i j k l : Nat} (hi : i < n) (hj : j < n) (hk : k < n) (hl : l < n) : Coa p n f i j k l := by
  have h1 : i * n + j + 1 ≤ n * n := by
    have := Nat.mul_le_mul_right n (show i + 1 ≤ n by omega)
    rw [Nat.add_mul, Nat.one_mul] at this; omega
  have h2 : (i * n + j) * n + k + 1 ≤ n * n * n := by
    have := Nat.mul_le_mul_right n h1
    rw [Nat.add_mul, Nat.one_mul] at this; omega
  have h3 : ((i * n + j) * n + k) * n + l + 1 ≤ n * n * n * n := by
    have := Nat.mul_le_mul_right n h2
    rw [Nat.add_mul, Nat.one_mul] at this; omega
  have q := h.2.2 (((i * n + j) * n + k) * n + l) (by rw [Int.toNat_natCast]; omega)
  unfold CoaT at q
  rw [Int.toNat_natCast] at q
  have e1 : (((i * n + j) * n + k) * n + l) / n = (i * n + j) * n + k := by
    rw [Nat.mul_comm, Nat.mul_add_div (by omega), Nat.div_eq_of_lt hl, Nat.add_zero]
  have e2 : ((i * n + j) * n + k) / n = i * n + j := by
    rw [Nat.mul_comm, Nat.mul_add_div (by omega), Nat.div_eq_of_lt hk, Nat.add_zero]
  have e3 : (i * n + j) / n = i := by
    rw [Nat.mul_comm, Nat.mul_add_div (by omega), Nat.div_eq_of_lt hj, Nat.add_zero]
  have m1 : (((i * n + j) * n + k) * n + l) % n = l := by rw [Nat.mul_comm, Nat.mul_add_mod, Nat.mod_eq_of_lt hl]
  have m2 : ((i * n + j) * n + k) % n = k := by rw [Nat.mul_comm, Nat.mul_add_mod, Nat.mod_eq_of_lt hk]
  have m3 : (i * n + j) % n = j := by rw [Nat.mul_comm, Nat.mul_add_mod, Nat.mod_eq_of_lt hj]
  rw [← Nat.div_div_eq_div_mul, ← Nat.div_div_eq_div_mul, e1, e2, e3, m1, m2, m3] at q
  exact q

section
variable {p : Int} {n : Nat} {f : By}
theorem bz_sh' {o x : Nat} : bz (sh f o) x = bz f (o + x) := rfl
end
end Hf
