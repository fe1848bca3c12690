/- Contracts of the functions that the law reaches. -/
import Derived.Test.YtmelbommnopmaaaGreatP2
set_option linter.unusedVariables false
set_option linter.unusedSimpArgs false
namespace Hf
open Go
/-- a byte as a number -/
def bz (f : By) (k : Nat) : Int := ((f k).toNat : Int)
theorem bz_nn (f : By) (k : Nat) : 0 ≤ bz f k := by unfold bz; omega
theorem bz_le (f : By) (k : Nat) : bz f k ≤ 255 := by unfold bz; have := toNat_le (f k); omega
theorem bz_byt (n : Int) (h0 : 0 ≤ n) (h1 : n ≤ 255) : ((byt n).toNat : Int) = n := by rw [byt_toNat]; omega
theorem byt_bz (f : By) (k : Nat) : byt (bz f k) = f k := by
  have h := byt_toNat (bz f k)
  have h1 := bz_nn f k
  have h2 := bz_le f k
  apply UInt8.toNat_inj.1
  unfold bz at *
  omega
theorem u_eq0 {x : UInt8} : x = 0 ↔ (x.toNat : Int) = 0 := by
  constructor
  · rintro rfl; rfl
  · intro h; apply UInt8.toNat_inj.1; show x.toNat = 0; omega

/-- a sum of n numbers -/
def sm : Nat → (Nat → Int) → Int
  | 0, _ => 0
  | n + 1, x => sm n x + x n
theorem sm_congr {x y : Nat → Int} : ∀ {n : Nat}, (∀ i, i < n → x i = y i) → sm n x = sm n y
  | 0, _ => rfl
  | n + 1, h => by simp only [sm]; rw [sm_congr fun i hi => h i (by omega), h n (by omega)]
theorem sm_zero : ∀ {n : Nat} {x : Nat → Int}, (∀ i, i < n → x i = 0) → sm n x = 0
  | 0, _, _ => rfl
  | n + 1, x, h => by simp only [sm]; rw [sm_zero fun i hi => h i (by omega), h n (by omega)]; rfl
theorem sm_ext {x : Nat → Int} {n m : Nat} (h : n ≤ m) (h0 : ∀ i, n ≤ i → i < m → x i = 0) : sm m x = sm n x := by
  induction m with
  | zero => have : n = 0 := by omega
            subst this; rfl
  | succ m ih =>
    by_cases e : n = m + 1
    · rw [e]
    · simp only [sm]
      rw [ih (by omega) fun i h1 h2 => h0 i h1 (by omega), h0 m (by omega) (by omega)]; omega
theorem sm_mul (c : Int) {x : Nat → Int} : ∀ {n : Nat}, sm n (fun i => c * x i) = c * sm n x
  | 0 => by simp [sm]
  | n + 1 => by simp only [sm]; rw [sm_mul c, Int.mul_add]
theorem sm_add {x y : Nat → Int} : ∀ {n : Nat}, sm n (fun i => x i + y i) = sm n x + sm n y
  | 0 => rfl
  | n + 1 => by simp only [sm]; rw [sm_add]; omega
theorem sm_swap {x : Nat → Nat → Int} {m : Nat} : ∀ {n : Nat}, sm n (fun i => sm m (x i)) = sm m (fun j => sm n (fun i => x i j))
  | 0 => by simp only [sm]; exact (sm_zero fun _ _ => rfl).symm
  | n + 1 => by
    simp only [sm]
    rw [sm_swap, ← sm_add]

/-- the same modulo p -/
def cg (p a b : Int) : Prop := a % p = b % p
theorem cg.rfl' {p a : Int} : cg p a a := rfl
theorem cg.symm {p a b : Int} (h : cg p a b) : cg p b a := Eq.symm h
theorem cg.trans {p a b c : Int} (h : cg p a b) (h' : cg p b c) : cg p a c := Eq.trans h h'
theorem cg_of_eq {p a b : Int} (h : a = b) : cg p a b := by rw [h]; rfl
theorem cg_add {p a b c d : Int} (h : cg p a b) (h' : cg p c d) : cg p (a + c) (b + d) := by
  unfold cg at *; rw [Int.add_emod, h, h', ← Int.add_emod]
theorem cg_mul {p a b c d : Int} (h : cg p a b) (h' : cg p c d) : cg p (a * c) (b * d) := by
  unfold cg at *; rw [Int.mul_emod, h, h', ← Int.mul_emod]
theorem cg_mod {p a : Int} : cg p (a % p) a := Int.emod_emod_of_dvd a (Int.dvd_refl p)
theorem cg_sm {p : Int} {x y : Nat → Int} : ∀ {n : Nat}, (∀ i, i < n → cg p (x i) (y i)) → cg p (sm n x) (sm n y)
  | 0, _ => rfl
  | n + 1, h => cg_add (cg_sm fun i hi => h i (by omega)) (h n (by omega))

/-- N bytes, each a number modulo p -/
def vec (N : Nat) (p : Int) (x : Nat → Int) : By := fun k => if k < N then byt (x k % p) else 0
theorem vec_congr {N : Nat} {p : Int} {x y : Nat → Int} (h : ∀ k, k < N → cg p (x k) (y k)) : vec N p x = vec N p y := by
  funext k
  simp only [vec]
  split
  · rename_i hk; have := h k hk; unfold cg at this; rw [this]
  · rfl
theorem bz_vec {N : Nat} {p : Int} {x : Nat → Int} {k : Nat} (hp : 1 ≤ p) (hp2 : p ≤ 256) (hk : k < N) : bz (vec N p x) k = x k % p := by
  unfold bz vec
  rw [if_pos hk, byt_toNat]
  have h1 := Int.emod_nonneg (x k) (show p ≠ 0 by omega)
  have h2 := Int.emod_lt_of_pos (x k) (show 0 < p by omega)
  omega
theorem cg_vec {N : Nat} {p : Int} {x : Nat → Int} {k : Nat} (hp : 1 ≤ p) (hp2 : p ≤ 256) (hk : k < N) : cg p (bz (vec N p x) k) (x k) := by
  rw [bz_vec hp hp2 hk]; exact cg_mod
theorem vec_zero {N : Nat} {p : Int} {x : Nat → Int} (h : ∀ k, k < N → x k = 0) : vec N p x = fun _ => 0 := by
  funext k
  simp only [vec]
  split
  · rename_i hk; rw [h k hk]; simp; rfl
  · rfl
end Hf
namespace Hf
open Go Classical
variable {P : Program} {ρ : Nat → FuncId}
structure Bs (P : Program) (ρ : Nat → FuncId) : Prop where
  fn : ∀ f, fnOk P (ρ f) = true
  mo : P.follows .mixedOrders = true
theorem bne_t {α : Type} [BEq α] [LawfulBEq α] {a b : α} (h : (a != b) = true) : a ≠ b := by simpa using h
theorem bne_f {α : Type} [BEq α] [LawfulBEq α] {a b : α} (h : (a != b) = false) : a = b := by simpa using h

theorem tmod_emod (x p : Int) (hp : 0 < p) : (if x.tmod p < 0 then x.tmod p + p else x.tmod p) = x % p := by
  rcases Int.le_total 0 x with h | h
  · rw [Int.tmod_eq_emod_of_nonneg h, if_neg]
    have := Int.emod_nonneg x (show p ≠ 0 by omega)
    omega
  · have h1 := Int.tmod_eq_emod (a := x) (b := p)
    have h2 := Int.emod_nonneg x (show p ≠ 0 by omega)
    have h3 := Int.emod_lt_of_pos x hp
    rw [h1]
    have e : (p.natAbs : Int) = p := by omega
    by_cases hc : 0 ≤ x ∨ p ∣ x
    · rw [if_pos hc]; simp; omega
    · rw [if_neg hc, e, if_pos (by omega)]; omega

theorem mul_bd {a b A B : Int} (h1 : -A ≤ a) (h2 : a ≤ A) (h3 : 0 ≤ b) (h4 : b ≤ B) : -(A * B) ≤ a * b ∧ a * b ≤ A * B := by
  have hA : 0 ≤ A := by omega
  constructor
  · have e1 : -(A * B) = (-A) * B := by rw [Int.neg_mul]
    rw [e1]
    have q1 : (-A) * B ≤ (-A) * b := Int.mul_le_mul_of_nonpos_left (by omega) h4
    have q2 : (-A) * b ≤ a * b := Int.mul_le_mul_of_nonneg_right h1 h3
    omega
  · have q1 : A * b ≤ A * B := Int.mul_le_mul_of_nonneg_left h4 hA
    have q2 : a * b ≤ A * b := Int.mul_le_mul_of_nonneg_right h2 h3
    omega

def plsN (p : Int) (f : By) (off : Nat) (k : Int) (w : By) (m : Nat) : By := fun x => if off ≤ x ∧ x < off + m then byt ((bz f x + k * bz w (x - off)) % p) else f x
theorem plsN_zero {p : Int} {f : By} {off : Nat} {k : Int} {w : By} : plsN p f off k w 0 = f := by
  funext x; simp only [plsN]; rw [if_neg (by omega)]
theorem plsN_succ {p : Int} {f : By} {off : Nat} {k : Int} {w : By} {m : Nat} : upd (plsN p f off k w m) (off + m) (byt ((bz f (off + m) + k * bz w m) % p)) = plsN p f off k w (m + 1) := by
  funext x
  simp only [plsN, upd]
  by_cases h : x = off + m
  · subst h; rw [if_pos rfl, if_pos (by omega), show off + m - off = m by omega]
  · rw [if_neg h]
    by_cases h2 : off ≤ x ∧ x < off + m
    · rw [if_pos h2, if_pos (by omega)]
    · rw [if_neg h2, if_neg (by omega)]
theorem plsN_at {p : Int} {f : By} {off : Nat} {k : Int} {w : By} {m : Nat} : plsN p f off k w m (off + m) = f (off + m) := by
  simp only [plsN]; rw [if_neg (by omega)]
theorem plsN_k0 {p : Int} {f : By} {off : Nat} {w : By} {m : Nat} (h : ∀ x, off ≤ x → x < off + m → bz f x < p) : plsN p f off 0 w m = f := by
  funext x; simp only [plsN]
  split
  · rename_i hx
    have := h x hx.1 hx.2
    have h0 := bz_nn f x
    rw [Int.zero_mul, Int.add_zero, Int.emod_eq_of_lt h0 this, byt_bz]
  · rfl


theorem i_field_mod_ok (B : Bs P ρ) (E : E_i_field_mod P ρ) {p n x : Int} {g : By} (hp : 1 ≤ p) (hp2 : p ≤ 1000) :
    CallOK P ρ 74 [.ag [p, n] 2 g, .i .i64 x] [] (.one (.u (byt (x % p)))) [] := by
  refine call_of_vc B.fn B.mo E rfl rfl ?_
  have hm := tmod_emod x p (by omega)
  have h2 := Int.emod_nonneg x (show p ≠ 0 by omega)
  have h3 := Int.emod_lt_of_pos x (show 0 < p by omega)
  refine ⟨0, rfl, ?_⟩
  refine ⟨by omega, _, rfl, ?_⟩
  refine ⟨fun h10 => ?_, fun h10 => ?_⟩
  · replace h10 := of_decide_eq_true h10
    rw [if_pos h10] at hm
    refine ⟨_, w64_id _ (by first | omega | (simp <;> omega)) (by first | omega | (simp <;> omega)), ?_⟩
    refine ⟨rfl, [], ?_, rfl, trivial, rfl, rfl⟩
    show Sv.one (At.u (byt (x.tmod p + p))) = _
    rw [hm]
    rfl
  · replace h10 := of_decide_eq_false h10
    rw [if_neg h10] at hm
    refine ⟨rfl, [], ?_, rfl, trivial, rfl, rfl⟩
    show Sv.one (At.u (byt (x.tmod p))) = _
    rw [hm]
    rfl

theorem i_field_plus_ok (B : Bs P ρ) (E : E_i_field_plus P ρ) {p n k : Int} {g0 w f : By} {hd : List Int} {N off : Nat} (hp : 1 ≤ p) (hp2 : p ≤ 1000) (ho : hd.length ≤ off) (hN : off + 8 ≤ N) (hk : -1000000000000 ≤ k) (hk2 : k ≤ 1000000000000) (hf : ∀ x, off ≤ x → x < off + 8 → bz f x < p) :
    CallOK P ρ 71 [.ag [p, n] 2 g0, .pt 0 off, .i .i64 k, .ag [] 8 w] [⟨false, .by hd N f⟩] (.tup []) [⟨false, .by hd N (plsN p f off k w 8)⟩] := by
  refine call_of_vc B.fn B.mo E.1 rfl rfl ?_
  refine ⟨1, rfl, ?_⟩
  refine ⟨2, rfl, ?_⟩
  refine ⟨fun h11 => ?_, fun h11 => ?_⟩
  · replace h11 := eq_of_beq h11
    subst h11
    refine ⟨rfl, [], rfl, rfl, ⟨?_, trivial⟩, rfl, rfl⟩
    rw [plsN_k0 hf]; rfl
  · replace h11 := ne_of_beq_false h11
    refine ⟨⟨by first | omega | (simp <;> omega), by first | omega | (simp <;> omega)⟩, ?_⟩
    refine .inl ⟨(fun a1 a2 a12 b1 b2 i0 => St.mk [(1, a1), (2, a2), (4, .one (.pt 1 0)), (12, a12), (13, .one (.i .i64 ((i0 : Nat) : Int)))] [Blk.mk false (.by hd N (plsN p f off k w i0)), b1, b2]) _ _ _ _ _ , fun i0 => True, 8, trivial, ⟨⟨rfl, rfl, rfl, rfl, rfl, trivial⟩, ⟨?_, rfl, rfl, trivial⟩, rfl⟩, fun i0 hi0 _ => ?_⟩
    · rw [plsN_zero]
    refine ⟨fun h14 => ?_, fun h14 => ?_⟩
    · replace h14 := of_decide_eq_true h14
      have b1 := mul_bd (A := 1000000000000) (B := 255) (a := k) (b := bz w i0) (by omega) (by omega) (bz_nn _ _) (bz_le _ _)
      have b2 := bz_nn f (off + i0)
      have b3 := bz_le f (off + i0)
      refine ⟨_, rfl, by first | omega | (simp <;> omega), by first | omega | (simp <;> omega), ?_⟩
      refine ⟨_, off + i0, rfl, by omega, by omega, ?_⟩
      refine ⟨⟨by first | omega | (simp <;> omega), by first | omega | (simp <;> omega)⟩, ?_⟩
      refine ⟨k * bz w i0, ?_, ?_⟩
      · show w64 (k * bz (sh w 0) i0) = _
        have : bz (sh w 0) i0 = bz w i0 := by simp [bz]
        rw [this]
        exact w64_id _ (by omega) (by omega)
      refine ⟨bz f (off + i0) + k * bz w i0, ?_, ?_⟩
      · show w64 (bz (plsN p f off k w i0) (off + i0) + _) = _
        have : bz (plsN p f off k w i0) (off + i0) = bz f (off + i0) := by simp only [bz, plsN_at]
        rw [this]
        exact w64_id _ (by omega) (by omega)
      refine ⟨3, [], _, _, _, _, [_, _, _], rfl, i_field_mod_ok B E.2 hp hp2, rfl, trivial, rfl, rfl, rfl, ?_⟩
      refine ⟨_, off + i0, rfl, by omega, by omega, ?_⟩
      refine ⟨⟨by first | omega | (simp <;> omega), by first | omega | (simp <;> omega)⟩, ?_⟩   -- st8 ['.t', 33] ['.t', 31]
      refine ⟨((i0 + 1 : Nat) : Int), w64_id _ (by omega) (by omega), ?_⟩
      refine ⟨by omega, trivial, ⟨rfl, rfl, rfl, rfl, rfl, trivial⟩, ⟨?_, rfl, rfl, trivial⟩, rfl⟩
      exact congrArg (fun g => (⟨false, .by hd N g⟩ : Blk)) plsN_succ.symm
    · replace h14 := of_decide_eq_false h14
      have e0 : 8 = i0 := by omega
      subst e0
      exact ⟨rfl, [], rfl, rfl, ⟨rfl, trivial⟩, rfl, rfl⟩

end Hf
namespace Hf
open Go Classical
variable {P : Program} {ρ : Nat → FuncId}
theorem sh_zero (f : By) : sh f 0 = f := by funext x; simp [sh]
/-- what the copied result holds -/
theorem out_eq {n : Nat} {G R : By} (h : ∀ k, k < n → G k = R k) (h0 : ∀ k, n ≤ k → R k = 0) : sh (spl (fun _ => 0) 0 n (sh G 0)) 0 = R := by
  rw [sh_zero, sh_zero]
  funext x
  simp only [spl]
  by_cases hx : x < n
  · rw [if_pos (by omega)]; exact h x hx
  · rw [if_neg (by omega)]; exact (h0 x (by omega)).symm
theorem vec_out {N : Nat} {p : Int} {x : Nat → Int} {k : Nat} (h : N ≤ k) : vec N p x k = 0 := by
  simp only [vec]; rw [if_neg (by omega)]
theorem out_vec {n : Nat} {p : Int} {x : Nat → Int} : sh (spl (fun _ => 0) 0 n (sh (vec n p x) 0)) 0 = vec n p x :=
  out_eq (fun _ _ => rfl) fun _ h => vec_out h
theorem one_ag {n : Nat} {f g : By} (h : f = g) : Sv.one (.ag [] n f) = Sv.one (.ag [] n g) := by rw [h]
theorem blk_by {r : Bool} {hd : List Int} {n : Nat} {f g : By} (h : f = g) : Blk.mk r (.by hd n f) = Blk.mk r (.by hd n g) := by rw [h]
theorem one_i {a b : Int} (h : a = b) : Sv.one (.i .i64 a) = Sv.one (.i .i64 b) := by rw [h]
theorem one_b {a b : Bool} (h : a = b) : Sv.one (.b a) = Sv.one (.b b) := by rw [h]
theorem z_spl (n : Nat) (g : By) (h : ∀ k, n ≤ k → g k = 0) : spl (fun _ => 0) 0 n g = g := by
  funext x
  simp only [spl]
  by_cases hx : x < n
  · rw [if_pos (by omega)]; rfl
  · rw [if_neg (by omega), h x (by omega)]
theorem sm_bd {A : Int} {x : Nat → Int} : ∀ {n : Nat}, (∀ i, i < n → 0 ≤ x i ∧ x i ≤ A) → 0 ≤ sm n x ∧ sm n x ≤ n * A
  | 0, _ => by simp [sm]
  | n + 1, h => by
    have h1 := sm_bd (A := A) (x := x) (n := n) fun i hi => h i (by omega)
    have h2 := h n (by omega)
    simp only [sm]
    have e : ((n + 1 : Nat) : Int) * A = n * A + A := by rw [Int.natCast_add, Int.add_mul]; simp
    rw [e]
    omega
theorem dotb (v w : By) (j : Nat) : bz v j * bz w j ≤ 65025 := by
  have q := mul_bd (A := 255) (B := 255) (a := bz v j) (b := bz w j) (by have := bz_nn v j; omega) (bz_le _ _) (bz_nn _ _) (bz_le _ _)
  omega
/-- the basis element i -/
def bas (i : Nat) : By := fun x => if x = i then 1 else 0

theorem i_basis_ok (B : Bs P ρ) (E : E_i_basis P ρ) {i : Nat} (hi : i < 8) :
    CallOK P ρ 61 [.i .i64 (i : Int)] [] (.one (.ag [] 8 (bas i))) [] := by
  refine call_of_vc B.fn B.mo E rfl rfl ?_
  refine ⟨0, rfl, ?_⟩
  refine ⟨1, rfl, ?_⟩
  refine ⟨⟨rfl, by first | omega | (simp <;> omega), by first | omega | (simp <;> omega)⟩, ?_⟩   -- sta ['.t', 3] ['.t', 4] 8
  refine ⟨i, i, rfl, by omega, by omega, ?_⟩
  refine ⟨⟨by first | omega | (simp <;> omega), by first | omega | (simp <;> omega)⟩, ?_⟩   -- st8 ['.t', 6] ['.c', ['.u', 1]]
  refine ⟨⟨by first | omega | (simp <;> omega), by first | omega | (simp <;> omega)⟩, ?_⟩
  refine ⟨⟨rfl, by first | omega | (simp <;> omega), by first | omega | (simp <;> omega)⟩, ?_⟩   -- sta ['.t', 2] ['.t', 7] 8
  refine ⟨rfl, ⟨by first | omega | (simp <;> omega), by first | omega | (simp <;> omega)⟩, [], ?_, rfl, trivial, rfl, rfl⟩
  refine one_ag (out_eq (fun k hk => ?_) fun k hk => ?_)
  · simp only [upd, spl, bas, Nat.zero_add, Nat.mul_one]
    by_cases e : k = i <;> simp [e]
  · simp only [bas]; rw [if_neg (by omega)]

theorem i_Algebra_field_ok (B : Bs P ρ) (E : E_i_Algebra_field P ρ) {p n : Int} {f : By} :
    CallOK P ρ 116 [.pt 0 0] [⟨true, .by [p, n] 522 f⟩] (.one (.ag [p, n] 2 (fun _ => 0))) [⟨true, .by [p, n] 522 f⟩] := by
  refine call_of_vc B.fn B.mo E rfl rfl ?_
  refine ⟨1, rfl, ?_⟩
  exact ⟨rfl, ⟨by first | omega | (simp <;> omega), by first | omega | (simp <;> omega)⟩, [], rfl, rfl, ⟨rfl, trivial⟩, rfl, rfl⟩

theorem i_Coalgebra_field_ok (B : Bs P ρ) (E : E_i_Coalgebra_field P ρ) {p n : Int} {f : By} :
    CallOK P ρ 117 [.pt 0 0] [⟨true, .by [p, n] 522 f⟩] (.one (.ag [p, n] 2 (fun _ => 0))) [⟨true, .by [p, n] 522 f⟩] := by
  refine call_of_vc B.fn B.mo E rfl rfl ?_
  refine ⟨1, rfl, ?_⟩
  exact ⟨rfl, ⟨by first | omega | (simp <;> omega), by first | omega | (simp <;> omega)⟩, [], rfl, rfl, ⟨rfl, trivial⟩, rfl, rfl⟩

theorem i_Hopf_field_ok (B : Bs P ρ) (E : E_i_Hopf_field P ρ) {p n : Int} {f : By} :
    CallOK P ρ 32 [.pt 0 0] [⟨true, .by [p, n] 1106 f⟩] (.one (.ag [p, n] 2 (fun _ => 0))) [⟨true, .by [p, n] 1106 f⟩] := by
  refine call_of_vc B.fn B.mo E rfl rfl ?_
  refine ⟨1, rfl, ?_⟩
  exact ⟨rfl, ⟨by first | omega | (simp <;> omega), by first | omega | (simp <;> omega)⟩, [], rfl, rfl, ⟨rfl, trivial⟩, rfl, rfl⟩

theorem i_field_dot_ok (B : Bs P ρ) (E : E_i_field_dot P ρ) {p n : Int} {g v w : By} (hp : 1 ≤ p) (hp2 : p ≤ 1000) :
    CallOK P ρ 118 [.ag [p, n] 2 g, .ag [] 8 v, .ag [] 8 w] [] (.one (.i .i64 (sm 8 (fun j => bz v j * bz w j) % p))) [] := by
  refine call_of_vc B.fn B.mo E rfl rfl ?_
  refine ⟨0, rfl, ?_⟩
  refine ⟨1, rfl, ?_⟩
  refine ⟨2, rfl, ?_⟩
  refine ⟨⟨by first | omega | (simp <;> omega), by first | omega | (simp <;> omega)⟩, ?_⟩
  refine .inl ⟨(fun a10 b0 b1 b2 i0 => St.mk [(3, .one (.pt 0 0)), (5, .one (.pt 2 0)), (7, .one (.i .i64 (sm i0 fun j => bz v j * bz w j))), (10, a10), (11, .one (.i .i64 ((i0 : Nat) : Int)))] [b0, b1, b2]) _ _ _ _ , fun i0 => True, 8, trivial, ⟨⟨rfl, rfl, rfl, rfl, rfl, trivial⟩, ⟨rfl, rfl, rfl, trivial⟩, rfl⟩, fun i0 hi0 _ => ?_⟩
  have q := mul_bd (A := 255) (B := 255) (a := bz v i0) (b := bz w i0) (by have := bz_nn v i0; omega) (bz_le _ _) (bz_nn _ _) (bz_le _ _)
  have q2 : 0 ≤ bz v i0 * bz w i0 := Int.mul_nonneg (bz_nn _ _) (bz_nn _ _)
  have q3 := sm_bd (n := i0) (x := fun j => bz v j * bz w j) (A := 65025) fun j _ => ⟨Int.mul_nonneg (bz_nn _ _) (bz_nn _ _), dotb v w j⟩
  refine ⟨fun h12 => ?_, fun h12 => ?_⟩
  · replace h12 := of_decide_eq_true h12
    refine ⟨_, rfl, by first | omega | (simp <;> omega), by first | omega | (simp <;> omega), ?_⟩
    refine ⟨i0, i0, rfl, by omega, by omega, ?_⟩
    refine ⟨⟨by first | omega | (simp <;> omega), by first | omega | (simp <;> omega)⟩, ?_⟩
    refine ⟨bz v i0 * bz w i0, ?_, ?_⟩
    · show w64 (bz (sh v 0) i0 * bz w i0) = _
      rw [sh_zero]
      exact w64_id _ (by omega) (by omega)
    refine ⟨sm (i0 + 1) (fun j => bz v j * bz w j), w64_id _ (by omega) (by omega), ?_⟩
    refine ⟨((i0 + 1 : Nat) : Int), w64_id _ (by omega) (by omega), ?_⟩
    exact ⟨by omega, trivial, ⟨rfl, rfl, rfl, rfl, rfl, trivial⟩, ⟨rfl, rfl, rfl, trivial⟩, rfl⟩
  · replace h12 := of_decide_eq_false h12
    have e0 : 8 = i0 := by omega
    subst e0
    refine ⟨by first | omega | (simp <;> omega), _, rfl, ?_⟩
    refine ⟨rfl, [], ?_, rfl, trivial, rfl, rfl⟩
    have q3 := sm_bd (n := 8) (x := fun j => bz v j * bz w j) (A := 65025) fun j _ => ⟨Int.mul_nonneg (bz_nn _ _) (bz_nn _ _), dotb v w j⟩
    exact one_i (Int.tmod_eq_emod_of_nonneg q3.1)

end Hf
namespace Hf
open Go Classical
variable {P : Program} {ρ : Nat → FuncId}
theorem vec_0 {N : Nat} {p : Int} : (fun _ => 0 : By) = vec N p (fun _ => 0) := (vec_zero fun _ _ => rfl).symm
theorem bz_vec_lt {N : Nat} {p : Int} {x : Nat → Int} {k : Nat} (hp : 1 ≤ p) (hp2 : p ≤ 256) : bz (vec N p x) k < p := by
  by_cases hk : k < N
  · rw [bz_vec hp hp2 hk]; exact Int.emod_lt_of_pos _ (by omega)
  · unfold bz; rw [vec_out (by omega)]; show (0 : Int) < p; omega
/-- one more summand -/
theorem pl_vec {N : Nat} {p : Int} {x : Nat → Int} {off : Nat} {k : Int} {w : By} (hp : 1 ≤ p) (hp2 : p ≤ 256) (h : off + 8 ≤ N) :
    plsN p (vec N p x) off k w 8 = vec N p (fun y => x y + if off ≤ y ∧ y < off + 8 then k * bz w (y - off) else 0) := by
  funext y
  simp only [plsN]
  by_cases hy : off ≤ y ∧ y < off + 8
  · rw [if_pos hy, bz_vec hp hp2 (by omega)]
    simp only [vec]
    rw [if_pos (by omega), if_pos hy]
    congr 1
    exact cg_add cg_mod rfl
  · rw [if_neg hy]
    simp only [vec]
    by_cases hN : y < N
    · rw [if_pos hN, if_pos hN, if_neg hy, Int.add_zero]
    · rw [if_neg hN, if_neg hN]
theorem pl_vec0 {p : Int} {x : Nat → Int} {k : Int} {w : By} (hp : 1 ≤ p) (hp2 : p ≤ 256) :
    plsN p (vec 8 p x) 0 k w 8 = vec 8 p (fun y => x y + k * bz w y) := by
  rw [pl_vec hp hp2 (by omega)]
  apply vec_congr
  intro y hy
  rw [if_pos (by omega), Nat.sub_zero]; rfl
theorem pl_0 {p : Int} {k : Int} {w : By} (hp : 1 ≤ p) (hp2 : p ≤ 256) :
    plsN p (fun _ => 0) 0 k w 8 = vec 8 p (fun y => k * bz w y) := by
  rw [vec_0 (N := 8) (p := p), pl_vec0 hp hp2]
  exact vec_congr fun y _ => by rw [Int.zero_add]; rfl
theorem spl_vec {p : Int} {X y : Nat → Int} {a m : Nat} {g : By} (h : ∀ k, k < m → g k = vec m p y k) (hy : ∀ k, k < m → cg p (y k) (X (a + k))) : spl (vec a p X) a m g = vec (a + m) p X := by
  funext x
  simp only [spl]
  by_cases hx : a ≤ x ∧ x < a + m
  · rw [if_pos hx, h _ (by omega)]
    simp only [vec]
    rw [if_pos (by omega), if_pos (by omega)]
    have := hy (x - a) (by omega)
    rw [show a + (x - a) = x by omega] at this
    unfold cg at this
    rw [this]
  · rw [if_neg hx]
    simp only [vec]
    by_cases h2 : x < a
    · rw [if_pos h2, if_pos (by omega)]
    · rw [if_neg h2, if_neg (by omega)]
theorem bz_sh (f : By) (o k : Nat) : bz (sh f o) k = bz f (o + k) := rfl
/-- a product of bytes -/
theorem bz2 (v w : By) (i j : Nat) : 0 ≤ bz v i * bz w j ∧ bz v i * bz w j ≤ 65025 := by
  refine ⟨Int.mul_nonneg (bz_nn _ _) (bz_nn _ _), ?_⟩
  have q := mul_bd (A := 255) (B := 255) (a := bz v i) (b := bz w j) (by have := bz_nn v i; omega) (bz_le _ _) (bz_nn _ _) (bz_le _ _)
  omega
/-- the product of two vectors: the table stands at o -/
def prd (n : Nat) (f : By) (o : Nat) (v w : By) (k : Nat) : Int := sm n fun i => sm n fun j => bz v i * bz w j * bz f (o + i * 64 + j * 8 + k)
/-- the coproduct of a vector -/
def cop (n : Nat) (f : By) (o : Nat) (v : By) (y : Nat) : Int := if y / 8 < n then sm n fun i => bz v i * bz f (o + i * 64 + y) else 0

theorem i_field_times_ok (B : Bs P ρ) (E : E_i_field_times P ρ) {p n k : Int} {g w : By} (hp : 1 ≤ p) (hp2 : p ≤ 256) (hk : -1000000000000 ≤ k) (hk2 : k ≤ 1000000000000) :
    CallOK P ρ 114 [.ag [p, n] 2 g, .i .i64 k, .ag [] 8 w] [] (.one (.ag [] 8 (vec 8 p fun y => k * bz w y))) [] := by
  refine call_of_vc B.fn B.mo E.1 rfl rfl ?_
  refine ⟨0, rfl, ?_⟩
  refine ⟨1, rfl, ?_⟩
  refine ⟨2, rfl, ?_⟩
  refine ⟨3, rfl, ?_⟩
  refine ⟨⟨rfl, by first | omega | (simp <;> omega), by first | omega | (simp <;> omega)⟩, ?_⟩   -- sta ['.t', 7] ['.t', 8] 8
  refine ⟨⟨by first | omega | (simp <;> omega), by first | omega | (simp <;> omega)⟩, ?_⟩
  refine .inl ⟨4, [3], _, _, _, _, [_, _, _, _], rfl, i_field_plus_ok B E.2 hp (by omega) (by simp) (by omega) hk hk2 (fun _ _ _ => by simp [bz, z_spl]; omega), rfl, ⟨⟨_, rfl, fun h => by first | rfl | cases h⟩, trivial⟩, rfl, rfl, ?_⟩
  refine ⟨⟨by first | omega | (simp <;> omega), by first | omega | (simp <;> omega)⟩, ?_⟩
  refine ⟨⟨rfl, by first | omega | (simp <;> omega), by first | omega | (simp <;> omega)⟩, ?_⟩   -- sta ['.t', 6] ['.t', 13] 8
  refine ⟨rfl, ⟨by first | omega | (simp <;> omega), by first | omega | (simp <;> omega)⟩, [], ?_, rfl, trivial, rfl, rfl⟩
  refine one_ag ?_
  rw [z_spl _ _ (fun _ _ => rfl), pl_0 hp hp2, sh_zero w]
  exact out_vec

theorem i_field_pair_ok (B : Bs P ρ) (E : E_i_field_pair P ρ) {p n : Int} {g v w : By} (hp : 1 ≤ p) (hp2 : p ≤ 256) :
    CallOK P ρ 110 [.ag [p, n] 2 g, .ag [] 8 v, .ag [] 8 w] [] (.one (.ag [] 64 (vec 64 p fun y => bz v (y / 8) * bz w (y % 8)))) [] := by
  refine call_of_vc B.fn B.mo E.1 rfl rfl ?_
  refine ⟨0, rfl, ?_⟩
  refine ⟨1, rfl, ?_⟩
  refine ⟨2, rfl, ?_⟩
  refine ⟨3, rfl, ?_⟩
  refine ⟨4, rfl, ?_⟩
  refine ⟨⟨rfl, by first | omega | (simp <;> omega), by first | omega | (simp <;> omega)⟩, ?_⟩   -- sta ['.t', 7] ['.t', 10] 64
  refine ⟨⟨by first | omega | (simp <;> omega), by first | omega | (simp <;> omega)⟩, ?_⟩
  refine .inl ⟨(fun a11 b0 b1 b2 b3 i0 => St.mk [(3, .one (.pt 0 0)), (5, .one (.pt 2 0)), (6, .one (.pt 3 0)), (7, .one (.pt 4 0)), (11, a11), (12, .one (.i .i64 ((i0 : Nat) : Int)))] [b0, b1, b2, b3, Blk.mk false (.by [] 64 (vec (i0 * 8) p fun y => bz v (y / 8) * bz w (y % 8)))]) _ _ _ _ _ , fun i0 => True, 8, trivial, ⟨⟨rfl, rfl, rfl, rfl, rfl, rfl, trivial⟩, ⟨rfl, rfl, rfl, rfl, ?_, trivial⟩, rfl⟩, fun i0 hi0 _ => ?_⟩
  · refine blk_by ?_
    rw [z_spl _ _ (fun _ _ => rfl)]
    rfl
  have q0 := bz_nn (sh v 0) i0
  have q1 := bz_le (sh v 0) i0
  refine ⟨fun h13 => ?_, fun h13 => ?_⟩
  · replace h13 := of_decide_eq_true h13
    refine ⟨_, rfl, by first | omega | (simp <;> omega), by first | omega | (simp <;> omega), ?_⟩
    refine ⟨⟨by first | omega | (simp <;> omega), by first | omega | (simp <;> omega)⟩, ?_⟩
    refine .inl ⟨5, [], _, _, _, _, [_, _, _, _, _], rfl, i_field_times_ok B E.2 (k := bz (sh v 0) i0) hp hp2 (by omega) (by omega), rfl, trivial, rfl, rfl, ?_⟩
    refine ⟨i0, i0 * 8, rfl, by omega, by omega, ?_⟩
    refine ⟨⟨rfl, by first | omega | (simp <;> omega), by first | omega | (simp <;> omega)⟩, ?_⟩   -- sta ['.t', 22] ['.t', 21] 8
    refine ⟨((i0 + 1 : Nat) : Int), w64_id _ (by omega) (by omega), ?_⟩
    refine ⟨by omega, trivial, ⟨rfl, rfl, rfl, rfl, rfl, rfl, trivial⟩, ⟨rfl, rfl, rfl, rfl, ?_, trivial⟩, rfl⟩
    refine blk_by ?_
    rw [show (i0 + 1) * 8 = i0 * 8 + 8 by omega]
    refine (spl_vec (y := fun y => bz v i0 * bz w y) (fun k hk => ?_) fun k hk => ?_).symm
    · simp only [sh_zero]
    · rw [show (i0 * 8 + k) / 8 = i0 by omega, show (i0 * 8 + k) % 8 = k by omega]; rfl
  · replace h13 := of_decide_eq_false h13
    have e0 : 8 = i0 := by omega
    subst e0
    refine ⟨⟨by first | omega | (simp <;> omega), by first | omega | (simp <;> omega)⟩, ?_⟩
    refine ⟨⟨rfl, by first | omega | (simp <;> omega), by first | omega | (simp <;> omega)⟩, ?_⟩   -- sta ['.t', 6] ['.t', 24] 64
    refine ⟨rfl, ⟨by first | omega | (simp <;> omega), by first | omega | (simp <;> omega)⟩, [], ?_, rfl, trivial, rfl, rfl⟩
    exact one_ag out_vec

end Hf
namespace Hf
open Go Classical
variable {P : Program} {ρ : Nat → FuncId}
theorem z_sta {n : Nat} : spl (fun _ => 0) 0 n (fun _ => 0) = (fun _ => 0 : By) := z_spl _ _ fun _ _ => rfl
theorem bz_vec_lt' {N : Nat} {p : Int} {x : Nat → Int} (hp : 1 ≤ p) (hp2 : p ≤ 256) : ∀ k, 0 ≤ k → k < 0 + 8 → bz (vec N p x) k < p := fun _ _ _ => bz_vec_lt hp hp2

theorem i_field_apply_ok (B : Bs P ρ) (E : E_i_field_apply P ρ) {m : Nat} {p n : Int} {g v f : By} {hd : List Int} {N off : Nat} (hp : 1 ≤ p) (hp2 : p ≤ 256) (ho : hd.length ≤ off) (hN : off + 64 ≤ N) (hm : m ≤ 8) (hv : ∀ i, m ≤ i → i < 8 → bz v i = 0) :
    CallOK P ρ 52 [.ag [p, n] 2 g, .pt 0 off, .ag [] 8 v] [⟨true, .by hd N f⟩] (.one (.ag [] 8 (vec 8 p fun y => sm m fun i => bz v i * bz f (off + i * 8 + y)))) [⟨true, .by hd N f⟩] := by
  refine call_of_vc B.fn B.mo E.1 rfl rfl ?_
  refine ⟨1, rfl, ?_⟩
  refine ⟨2, rfl, ?_⟩
  refine ⟨3, rfl, ?_⟩
  refine ⟨4, rfl, ?_⟩
  refine ⟨⟨rfl, by first | omega | (simp <;> omega), by first | omega | (simp <;> omega)⟩, ?_⟩   -- sta ['.t', 7] ['.t', 10] 8
  refine ⟨⟨by first | omega | (simp <;> omega), by first | omega | (simp <;> omega)⟩, ?_⟩
  refine .inl ⟨(fun a1 a11 b0 b1 b2 b3 i0 => St.mk [(1, a1), (3, .one (.pt 1 0)), (6, .one (.pt 3 0)), (7, .one (.pt 4 0)), (11, a11), (12, .one (.i .i64 ((i0 : Nat) : Int)))] [b0, b1, b2, b3, Blk.mk false (.by [] 8 (vec 8 p fun y => sm i0 fun i => bz v i * bz f (off + i * 8 + y)))]) _ _ _ _ _ _ , fun i0 => True, 8, trivial, ⟨⟨rfl, rfl, rfl, rfl, rfl, rfl, trivial⟩, ⟨rfl, rfl, rfl, rfl, ?_, trivial⟩, rfl⟩, fun i0 hi0 _ => ?_⟩
  · refine blk_by ?_
    rw [z_sta]
    exact vec_0.symm
  have q0 := bz_nn (sh v 0) i0
  have q1 := bz_le (sh v 0) i0
  refine ⟨fun h13 => ?_, fun h13 => ?_⟩
  · replace h13 := of_decide_eq_true h13
    refine ⟨_, rfl, by first | omega | (simp <;> omega), by first | omega | (simp <;> omega), ?_⟩
    refine ⟨i0, off + i0 * 8, rfl, by omega, by omega, ?_⟩
    refine ⟨⟨by first | omega | (simp <;> omega), by first | omega | (simp <;> omega)⟩, ?_⟩
    refine .inl ⟨5, [4], _, _, _, _, [_, _, _, _, _], rfl, i_field_plus_ok B E.2 (k := bz (sh v 0) i0) hp (by omega) (by simp) (by omega) (by omega) (by omega) (bz_vec_lt' hp hp2), rfl, ⟨⟨_, rfl, fun h => by first | rfl | cases h⟩, trivial⟩, rfl, rfl, ?_⟩
    refine ⟨((i0 + 1 : Nat) : Int), w64_id _ (by omega) (by omega), ?_⟩
    refine ⟨by omega, trivial, ⟨rfl, rfl, rfl, rfl, rfl, rfl, trivial⟩, ⟨rfl, rfl, rfl, rfl, ?_, trivial⟩, rfl⟩
    refine blk_by ?_
    rw [pl_vec0 hp hp2, sh_zero]
    refine vec_congr fun y _ => cg_of_eq ?_
    simp only [sm, bz_sh]
  · replace h13 := of_decide_eq_false h13
    have e0 : 8 = i0 := by omega
    subst e0
    refine ⟨⟨by first | omega | (simp <;> omega), by first | omega | (simp <;> omega)⟩, ?_⟩
    refine ⟨⟨rfl, by first | omega | (simp <;> omega), by first | omega | (simp <;> omega)⟩, ?_⟩   -- sta ['.t', 6] ['.t', 26] 8
    refine ⟨rfl, ⟨by first | omega | (simp <;> omega), by first | omega | (simp <;> omega)⟩, [], ?_, rfl, ⟨rfl, trivial⟩, rfl, rfl⟩
    refine one_ag (out_vec.trans (vec_congr fun y _ => cg_of_eq ?_))
    refine sm_ext hm fun i h1 h2 => ?_
    rw [hv i h1 h2, Int.zero_mul]

theorem i_Hopf_counit_ok (B : Bs P ρ) (E : E_i_Hopf_counit P ρ) {p n : Int} {f v : By} (hp : 1 ≤ p) (hp2 : p ≤ 256) :
    CallOK P ρ 111 [.pt 0 0, .ag [] 8 v] [⟨true, .by [p, n] 1106 f⟩] (.one (.i .i64 (sm 8 (fun j => bz f (522 + j) * bz v j) % p))) [⟨true, .by [p, n] 1106 f⟩] := by
  refine call_of_vc B.fn B.mo E.1 rfl rfl ?_
  refine ⟨1, rfl, ?_⟩
  refine ⟨2, [0], _, _, _, _, [_, _], rfl, i_Hopf_field_ok B E.2.1 , rfl, ⟨⟨_, rfl, fun h => by first | rfl | cases h⟩, trivial⟩, rfl, rfl, rfl, ?_⟩
  refine ⟨⟨by first | omega | (simp <;> omega), by first | omega | (simp <;> omega)⟩, ?_⟩
  refine ⟨⟨by first | omega | (simp <;> omega), by first | omega | (simp <;> omega)⟩, ?_⟩
  refine .inl ⟨2, [], _, _, _, _, [_, _], rfl, i_field_dot_ok B E.2.2 hp (by omega), rfl, trivial, rfl, rfl, ?_⟩
  refine ⟨rfl, [], ?_, rfl, ⟨rfl, trivial⟩, rfl, rfl⟩
  rw [sh_zero]
  rfl

theorem i_Algebra_product_ok (B : Bs P ρ) (E : E_i_Algebra_product P ρ) {n : Nat} {p : Int} {f v w : By} (hp : 1 ≤ p) (hp2 : p ≤ 256) (hn : n ≤ 8) :
    CallOK P ρ 104 [.pt 0 0, .ag [] 8 v, .ag [] 8 w] [⟨true, .by [p, (n : Int)] 522 f⟩] (.one (.ag [] 8 (vec 8 p (prd n f 10 v w)))) [⟨true, .by [p, (n : Int)] 522 f⟩] := by
  refine call_of_vc B.fn B.mo E.1 rfl rfl ?_
  refine ⟨1, rfl, ?_⟩
  refine ⟨2, rfl, ?_⟩
  refine ⟨3, rfl, ?_⟩
  refine .inl ⟨4, [0], _, _, _, _, [_, _, _, _], rfl, i_Algebra_field_ok B E.2.1 , rfl, ⟨⟨_, rfl, fun h => by first | rfl | cases h⟩, trivial⟩, rfl, rfl, ?_⟩
  refine ⟨4, rfl, ?_⟩
  refine ⟨5, rfl, ?_⟩
  refine ⟨⟨rfl, by first | omega | (simp <;> omega), by first | omega | (simp <;> omega)⟩, ?_⟩   -- sta ['.t', 8] ['.t', 13] 8
  refine .inl ⟨(fun a0 a15 b0 b1 b2 b3 b4 i0 => St.mk [(0, a0), (4, .one (.pt 1 0)), (5, .one (.pt 2 0)), (6, .one (.pt 3 0)), (7, .one (.pt 4 0)), (8, .one (.pt 5 0)), (15, a15), (16, .one (.i .i64 ((i0 : Nat) : Int)))] [b0, b1, b2, b3, b4, Blk.mk false (.by [] 8 (vec 8 p fun k => sm i0 fun i => sm n fun j => bz v i * bz w j * bz f (10 + i * 64 + j * 8 + k)))]) _ _ _ _ _ _ _ , fun i0 => True, n, trivial, ⟨⟨rfl, rfl, rfl, rfl, rfl, rfl, rfl, rfl, trivial⟩, ⟨rfl, rfl, rfl, rfl, rfl, ?_, trivial⟩, rfl⟩, fun i0 hi0 _ => ?_⟩
  · refine blk_by ?_
    rw [z_sta]
    exact vec_0.symm
  refine ⟨fun h17 => ?_, fun h17 => ?_⟩
  · replace h17 := of_decide_eq_true h17
    refine ⟨i0, i0, rfl, by omega, by omega, ?_⟩
    refine ⟨⟨by first | omega | (simp <;> omega), by first | omega | (simp <;> omega)⟩, ?_⟩
    refine ⟨fun h22 => ?_, fun h22 => ?_⟩
    · replace h22 := eq_of_beq h22
      have z0 : bz v i0 = 0 := by have := u_eq0.1 h22; simpa [bz] using this
      refine ⟨((i0 + 1 : Nat) : Int), w64_id _ (by omega) (by omega), ?_⟩
      refine ⟨by omega, trivial, ⟨rfl, rfl, rfl, rfl, rfl, rfl, rfl, rfl, trivial⟩, ⟨rfl, rfl, rfl, rfl, rfl, ?_, trivial⟩, rfl⟩
      refine blk_by (vec_congr fun y _ => cg_of_eq ?_)
      show sm i0 _ + sm n _ = sm i0 _
      rw [sm_zero (n := n) fun j _ => by rw [z0, Int.zero_mul, Int.zero_mul], Int.add_zero]
    · replace h22 := ne_of_beq_false h22
      refine .inl ⟨(fun a0 a9 a15 a16 a24 b0 b1 b2 b3 b4 i1 => St.mk [(0, a0), (4, .one (.pt 1 0)), (5, .one (.pt 2 0)), (6, .one (.pt 3 0)), (7, .one (.pt 4 0)), (8, .one (.pt 5 0)), (9, a9), (15, a15), (16, a16), (24, a24), (25, .one (.i .i64 ((i1 : Nat) : Int)))] [b0, b1, b2, b3, b4, Blk.mk false (.by [] 8 (vec 8 p fun k => sm i0 (fun i => sm n fun j => bz v i * bz w j * bz f (10 + i * 64 + j * 8 + k)) + sm i1 fun j => bz v i0 * bz w j * bz f (10 + i0 * 64 + j * 8 + k)))]) _ _ _ _ _ _ _ _ _ _ , fun i1 => True, n, trivial, ⟨⟨rfl, rfl, rfl, rfl, rfl, rfl, rfl, rfl, rfl, rfl, rfl, trivial⟩, ⟨rfl, rfl, rfl, rfl, rfl, ?_, trivial⟩, rfl⟩, fun i1 hi1 _ => ?_⟩
      · refine blk_by (vec_congr fun y _ => cg_of_eq ?_)
        simp only [sm, Int.add_zero]
      refine ⟨fun h26 => ?_, fun h26 => ?_⟩
      · replace h26 := of_decide_eq_true h26
        refine ⟨i0, i0, rfl, by omega, by omega, ?_⟩
        refine ⟨⟨by first | omega | (simp <;> omega), by first | omega | (simp <;> omega)⟩, ?_⟩
        refine ⟨i1, i1, rfl, by omega, by omega, ?_⟩
        refine ⟨⟨by first | omega | (simp <;> omega), by first | omega | (simp <;> omega)⟩, ?_⟩
        have q2 := bz2 v w i0 i1
        refine ⟨bz v i0 * bz w i1, w64_id (bz v i0 * bz w i1) (by omega) (by omega), ?_⟩
        refine ⟨i0, 10 + i0 * 64, rfl, by omega, by omega, ?_⟩
        refine ⟨i1, 10 + i0 * 64 + i1 * 8, rfl, by omega, by omega, ?_⟩
        refine ⟨⟨by first | omega | (simp <;> omega), by first | omega | (simp <;> omega)⟩, ?_⟩
        refine .inl ⟨6, [5], _, _, _, _, [_, _, _, _, _, _], rfl, i_field_plus_ok B E.2.2 hp (by omega) (by simp) (by omega) (by omega) (by omega) (bz_vec_lt' hp hp2), rfl, ⟨⟨_, rfl, fun h => by first | rfl | cases h⟩, trivial⟩, rfl, rfl, ?_⟩
        refine ⟨((i1 + 1 : Nat) : Int), w64_id _ (by omega) (by omega), ?_⟩
        refine ⟨by omega, trivial, ⟨rfl, rfl, rfl, rfl, rfl, rfl, rfl, rfl, rfl, rfl, rfl, trivial⟩, ⟨rfl, rfl, rfl, rfl, rfl, ?_, trivial⟩, rfl⟩
        refine blk_by ?_
        rw [pl_vec0 hp hp2]
        refine vec_congr fun y _ => cg_of_eq ?_
        simp only [sm, bz_sh, Int.add_assoc]
      · replace h26 := of_decide_eq_false h26
        have e1 : n = i1 := by omega
        subst e1
        refine ⟨((i0 + 1 : Nat) : Int), w64_id _ (by omega) (by omega), ?_⟩
        refine ⟨by omega, trivial, ⟨rfl, rfl, rfl, rfl, rfl, rfl, rfl, rfl, trivial⟩, ⟨rfl, rfl, rfl, rfl, rfl, ?_, trivial⟩, rfl⟩
        exact blk_by (vec_congr fun y _ => cg_of_eq rfl)
  · replace h17 := of_decide_eq_false h17
    have e0 : n = i0 := by omega
    subst e0
    refine ⟨⟨by first | omega | (simp <;> omega), by first | omega | (simp <;> omega)⟩, ?_⟩
    refine ⟨⟨rfl, by first | omega | (simp <;> omega), by first | omega | (simp <;> omega)⟩, ?_⟩   -- sta ['.t', 6] ['.t', 49] 8
    refine ⟨rfl, ⟨by first | omega | (simp <;> omega), by first | omega | (simp <;> omega)⟩, [], ?_, rfl, ⟨rfl, trivial⟩, rfl, rfl⟩
    exact one_ag out_vec

end Hf
namespace Hf
open Go Classical
variable {P : Program} {ρ : Nat → FuncId}
theorem i_Hopf_product_ok (B : Bs P ρ) (E : E_i_Hopf_product P ρ) {n : Nat} {p : Int} {f v w : By} (hp : 1 ≤ p) (hp2 : p ≤ 256) (hn : n ≤ 8) :
    CallOK P ρ 73 [.pt 0 0, .ag [] 8 v, .ag [] 8 w] [⟨true, .by [p, (n : Int)] 1106 f⟩] (.one (.ag [] 8 (vec 8 p (prd n f 10 v w)))) [⟨true, .by [p, (n : Int)] 1106 f⟩] := by
  refine call_of_vc B.fn B.mo E.1 rfl rfl ?_
  refine ⟨1, rfl, ?_⟩
  refine ⟨2, rfl, ?_⟩
  refine ⟨3, rfl, ?_⟩
  refine .inl ⟨4, [0], _, _, _, _, [_, _, _, _], rfl, i_Hopf_field_ok B E.2.1 , rfl, ⟨⟨_, rfl, fun h => by first | rfl | cases h⟩, trivial⟩, rfl, rfl, ?_⟩
  refine ⟨4, rfl, ?_⟩
  refine ⟨5, rfl, ?_⟩
  refine ⟨⟨rfl, by first | omega | (simp <;> omega), by first | omega | (simp <;> omega)⟩, ?_⟩   -- sta ['.t', 8] ['.t', 13] 8
  refine .inl ⟨(fun a0 a15 b0 b1 b2 b3 b4 i0 => St.mk [(0, a0), (4, .one (.pt 1 0)), (5, .one (.pt 2 0)), (6, .one (.pt 3 0)), (7, .one (.pt 4 0)), (8, .one (.pt 5 0)), (15, a15), (16, .one (.i .i64 ((i0 : Nat) : Int)))] [b0, b1, b2, b3, b4, Blk.mk false (.by [] 8 (vec 8 p fun k => sm i0 fun i => sm n fun j => bz v i * bz w j * bz f (10 + i * 64 + j * 8 + k)))]) _ _ _ _ _ _ _ , fun i0 => True, n, trivial, ⟨⟨rfl, rfl, rfl, rfl, rfl, rfl, rfl, rfl, trivial⟩, ⟨rfl, rfl, rfl, rfl, rfl, ?_, trivial⟩, rfl⟩, fun i0 hi0 _ => ?_⟩
  · refine blk_by ?_
    rw [z_sta]
    exact vec_0.symm
  refine ⟨fun h17 => ?_, fun h17 => ?_⟩
  · replace h17 := of_decide_eq_true h17
    refine ⟨i0, i0, rfl, by omega, by omega, ?_⟩
    refine ⟨⟨by first | omega | (simp <;> omega), by first | omega | (simp <;> omega)⟩, ?_⟩
    refine ⟨fun h22 => ?_, fun h22 => ?_⟩
    · replace h22 := eq_of_beq h22
      have z0 : bz v i0 = 0 := by have := u_eq0.1 h22; simpa [bz] using this
      refine ⟨((i0 + 1 : Nat) : Int), w64_id _ (by omega) (by omega), ?_⟩
      refine ⟨by omega, trivial, ⟨rfl, rfl, rfl, rfl, rfl, rfl, rfl, rfl, trivial⟩, ⟨rfl, rfl, rfl, rfl, rfl, ?_, trivial⟩, rfl⟩
      refine blk_by (vec_congr fun y _ => cg_of_eq ?_)
      show sm i0 _ + sm n _ = sm i0 _
      rw [sm_zero (n := n) fun j _ => by rw [z0, Int.zero_mul, Int.zero_mul], Int.add_zero]
    · replace h22 := ne_of_beq_false h22
      refine .inl ⟨(fun a0 a9 a15 a16 a24 b0 b1 b2 b3 b4 i1 => St.mk [(0, a0), (4, .one (.pt 1 0)), (5, .one (.pt 2 0)), (6, .one (.pt 3 0)), (7, .one (.pt 4 0)), (8, .one (.pt 5 0)), (9, a9), (15, a15), (16, a16), (24, a24), (25, .one (.i .i64 ((i1 : Nat) : Int)))] [b0, b1, b2, b3, b4, Blk.mk false (.by [] 8 (vec 8 p fun k => sm i0 (fun i => sm n fun j => bz v i * bz w j * bz f (10 + i * 64 + j * 8 + k)) + sm i1 fun j => bz v i0 * bz w j * bz f (10 + i0 * 64 + j * 8 + k)))]) _ _ _ _ _ _ _ _ _ _ , fun i1 => True, n, trivial, ⟨⟨rfl, rfl, rfl, rfl, rfl, rfl, rfl, rfl, rfl, rfl, rfl, trivial⟩, ⟨rfl, rfl, rfl, rfl, rfl, ?_, trivial⟩, rfl⟩, fun i1 hi1 _ => ?_⟩
      · refine blk_by (vec_congr fun y _ => cg_of_eq ?_)
        simp only [sm, Int.add_zero]
      refine ⟨fun h26 => ?_, fun h26 => ?_⟩
      · replace h26 := of_decide_eq_true h26
        refine ⟨i0, i0, rfl, by omega, by omega, ?_⟩
        refine ⟨⟨by first | omega | (simp <;> omega), by first | omega | (simp <;> omega)⟩, ?_⟩
        refine ⟨i1, i1, rfl, by omega, by omega, ?_⟩
        refine ⟨⟨by first | omega | (simp <;> omega), by first | omega | (simp <;> omega)⟩, ?_⟩
        have q2 := bz2 v w i0 i1
        refine ⟨bz v i0 * bz w i1, w64_id (bz v i0 * bz w i1) (by omega) (by omega), ?_⟩
        refine ⟨i0, 10 + i0 * 64, rfl, by omega, by omega, ?_⟩
        refine ⟨i1, 10 + i0 * 64 + i1 * 8, rfl, by omega, by omega, ?_⟩
        refine ⟨⟨by first | omega | (simp <;> omega), by first | omega | (simp <;> omega)⟩, ?_⟩
        refine .inl ⟨6, [5], _, _, _, _, [_, _, _, _, _, _], rfl, i_field_plus_ok B E.2.2 hp (by omega) (by simp) (by omega) (by omega) (by omega) (bz_vec_lt' hp hp2), rfl, ⟨⟨_, rfl, fun h => by first | rfl | cases h⟩, trivial⟩, rfl, rfl, ?_⟩
        refine ⟨((i1 + 1 : Nat) : Int), w64_id _ (by omega) (by omega), ?_⟩
        refine ⟨by omega, trivial, ⟨rfl, rfl, rfl, rfl, rfl, rfl, rfl, rfl, rfl, rfl, rfl, trivial⟩, ⟨rfl, rfl, rfl, rfl, rfl, ?_, trivial⟩, rfl⟩
        refine blk_by ?_
        rw [pl_vec0 hp hp2]
        refine vec_congr fun y _ => cg_of_eq ?_
        simp only [sm, bz_sh, Int.add_assoc]
      · replace h26 := of_decide_eq_false h26
        have e1 : n = i1 := by omega
        subst e1
        refine ⟨((i0 + 1 : Nat) : Int), w64_id _ (by omega) (by omega), ?_⟩
        refine ⟨by omega, trivial, ⟨rfl, rfl, rfl, rfl, rfl, rfl, rfl, rfl, trivial⟩, ⟨rfl, rfl, rfl, rfl, rfl, ?_, trivial⟩, rfl⟩
        exact blk_by (vec_congr fun y _ => cg_of_eq rfl)
  · replace h17 := of_decide_eq_false h17
    have e0 : n = i0 := by omega
    subst e0
    refine ⟨⟨by first | omega | (simp <;> omega), by first | omega | (simp <;> omega)⟩, ?_⟩
    refine ⟨⟨rfl, by first | omega | (simp <;> omega), by first | omega | (simp <;> omega)⟩, ?_⟩   -- sta ['.t', 6] ['.t', 49] 8
    refine ⟨rfl, ⟨by first | omega | (simp <;> omega), by first | omega | (simp <;> omega)⟩, [], ?_, rfl, ⟨rfl, trivial⟩, rfl, rfl⟩
    exact one_ag out_vec

theorem i_Hopf_coproduct_ok (B : Bs P ρ) (E : E_i_Hopf_coproduct P ρ) {n : Nat} {p : Int} {f v : By} (hp : 1 ≤ p) (hp2 : p ≤ 256) (hn : n ≤ 8) (hv : ∀ i, n ≤ i → i < 8 → bz v i = 0) :
    CallOK P ρ 58 [.pt 0 0, .ag [] 8 v] [⟨true, .by [p, (n : Int)] 1106 f⟩] (.one (.ag [] 64 (vec 64 p (cop n f 530 v)))) [⟨true, .by [p, (n : Int)] 1106 f⟩] := by
  refine call_of_vc B.fn B.mo E.1 rfl rfl ?_
  refine ⟨1, rfl, ?_⟩
  refine ⟨2, rfl, ?_⟩
  refine .inl ⟨3, [0], _, _, _, _, [_, _, _], rfl, i_Hopf_field_ok B E.2.1 , rfl, ⟨⟨_, rfl, fun h => by first | rfl | cases h⟩, trivial⟩, rfl, rfl, ?_⟩
  refine ⟨3, rfl, ?_⟩
  refine ⟨4, rfl, ?_⟩
  refine ⟨⟨rfl, by first | omega | (simp <;> omega), by first | omega | (simp <;> omega)⟩, ?_⟩   -- sta ['.t', 6] ['.t', 12] 64
  refine ⟨⟨by first | omega | (simp <;> omega), by first | omega | (simp <;> omega)⟩, ?_⟩
  refine .inl ⟨(fun a0 a13 b0 b1 b2 b3 i0 => St.mk [(0, a0), (4, .one (.pt 2 0)), (5, .one (.pt 3 0)), (6, .one (.pt 4 0)), (13, a13), (14, .one (.i .i64 ((i0 : Nat) : Int)))] [b0, b1, b2, b3, Blk.mk false (.by [] 64 (vec 64 p fun y => if y / 8 < n then sm i0 fun i => bz v i * bz f (530 + i * 64 + y) else 0))]) _ _ _ _ _ _ , fun i0 => True, 8, trivial, ⟨⟨rfl, rfl, rfl, rfl, rfl, rfl, trivial⟩, ⟨rfl, rfl, rfl, rfl, ?_, trivial⟩, rfl⟩, fun i0 hi0 _ => ?_⟩
  · refine blk_by ?_
    rw [z_sta]
    exact vec_zero fun k hk => by simp [sm]
  have q0 := bz_nn (sh v 0) i0
  have q1 := bz_le (sh v 0) i0
  refine ⟨fun h15 => ?_, fun h15 => ?_⟩
  · replace h15 := of_decide_eq_true h15
    refine ⟨_, rfl, by first | omega | (simp <;> omega), by first | omega | (simp <;> omega), ?_⟩
    refine .inl ⟨(fun a0 a7 a8 a13 a14 b0 b1 b2 b3 i1 => St.mk [(0, a0), (4, .one (.pt 2 0)), (5, .one (.pt 3 0)), (6, .one (.pt 4 0)), (7, a7), (8, a8), (9, .one (.i .i64 ((i1 : Nat) : Int))), (13, a13), (14, a14)] [b0, b1, b2, b3, Blk.mk false (.by [] 64 (vec 64 p fun y => (if y / 8 < n then sm i0 fun i => bz v i * bz f (530 + i * 64 + y) else 0) + if y / 8 < i1 then bz v i0 * bz f (530 + i0 * 64 + y) else 0))]) _ _ _ _ _ _ _ _ _ , fun i1 => True, n, trivial, ⟨⟨rfl, rfl, rfl, rfl, rfl, rfl, rfl, rfl, rfl, trivial⟩, ⟨rfl, rfl, rfl, rfl, ?_, trivial⟩, rfl⟩, fun i1 hi1 _ => ?_⟩
    · refine blk_by (vec_congr fun y _ => cg_of_eq ?_)
      simp
    refine ⟨fun h20 => ?_, fun h20 => ?_⟩
    · replace h20 := bne_t h20
      refine brB_t ?_
      refine brB_t ?_
      refine brB_t ?_
      refine brB_t ?_
      refine ⟨fun h25 => ?_, fun h25 => ?_⟩
      · replace h25 := of_decide_eq_true h25
        refine ⟨i1, i1 * 8, rfl, by omega, by omega, ?_⟩
        refine ⟨i0, 530 + i0 * 64, rfl, by omega, by omega, ?_⟩
        refine ⟨i1, 530 + i0 * 64 + i1 * 8, rfl, by omega, by omega, ?_⟩
        refine ⟨⟨by first | omega | (simp <;> omega), by first | omega | (simp <;> omega)⟩, ?_⟩
        refine .inl ⟨5, [4], _, _, _, _, [_, _, _, _, _], rfl, i_field_plus_ok B E.2.2 (k := bz (sh v 0) i0) hp (by omega) (by simp) (by omega) (by omega) (by omega) (fun _ _ _ => bz_vec_lt hp hp2), rfl, ⟨⟨_, rfl, fun h => by first | rfl | cases h⟩, trivial⟩, rfl, rfl, ?_⟩
        refine ⟨((i1 + 1 : Nat) : Int), w64_id _ (by omega) (by omega), ?_⟩
        refine ⟨by omega, trivial, ⟨rfl, rfl, rfl, rfl, rfl, rfl, rfl, rfl, rfl, trivial⟩, ⟨rfl, rfl, rfl, rfl, ?_, trivial⟩, rfl⟩
        refine blk_by ?_
        rw [pl_vec hp hp2 (by omega)]
        refine vec_congr fun y hy => cg_of_eq ?_
        rw [sh_zero, Int.add_assoc]
        congr 1
        by_cases e1 : i1 * 8 ≤ y ∧ y < i1 * 8 + 8
        · rw [if_pos (by omega), if_neg (by omega), if_pos e1, bz_sh, Int.zero_add, show 530 + i0 * 64 + i1 * 8 + (y - i1 * 8) = 530 + i0 * 64 + y by omega]
        · rw [if_neg e1, Int.add_zero]
          by_cases e2 : y / 8 < i1
          · rw [if_pos (by omega), if_pos e2]
          · rw [if_neg (by omega), if_neg e2]
      · replace h25 := of_decide_eq_false h25
        have e1 : n = i1 := by omega
        subst e1
        refine ⟨((i0 + 1 : Nat) : Int), w64_id _ (by omega) (by omega), ?_⟩
        refine ⟨by omega, trivial, ⟨rfl, rfl, rfl, rfl, rfl, rfl, trivial⟩, ⟨rfl, rfl, rfl, rfl, ?_, trivial⟩, rfl⟩
        refine blk_by (vec_congr fun y hy => cg_of_eq ?_)
        by_cases e1 : y / 8 < n
        · rw [if_pos e1, if_pos e1, if_pos e1]; rfl
        · rw [if_neg e1, if_neg e1, if_neg e1]; rfl
    · replace h20 := bne_f h20
      refine brB_f ?_
      refine brB_f ?_
      refine brB_f ?_
      refine brB_f ?_
      refine brB_f ?_
      refine ⟨((i0 + 1 : Nat) : Int), w64_id _ (by omega) (by omega), ?_⟩
      refine ⟨by omega, trivial, ⟨rfl, rfl, rfl, rfl, rfl, rfl, trivial⟩, ⟨rfl, rfl, rfl, rfl, ?_, trivial⟩, rfl⟩
      refine blk_by (vec_congr fun y hy => cg_of_eq ?_)
      have z0 : bz v i0 = 0 := by have := u_eq0.1 h20; simpa [bz] using this
      simp only [z0, Int.zero_mul, sm, Int.add_zero, ite_self]
  · replace h15 := of_decide_eq_false h15
    have e0 : 8 = i0 := by omega
    subst e0
    refine ⟨⟨by first | omega | (simp <;> omega), by first | omega | (simp <;> omega)⟩, ?_⟩
    refine ⟨⟨rfl, by first | omega | (simp <;> omega), by first | omega | (simp <;> omega)⟩, ?_⟩   -- sta ['.t', 4] ['.t', 43] 64
    refine ⟨rfl, ⟨by first | omega | (simp <;> omega), by first | omega | (simp <;> omega)⟩, [], ?_, rfl, ⟨rfl, trivial⟩, rfl, rfl⟩
    refine one_ag (out_vec.trans (vec_congr fun y _ => cg_of_eq ?_))
    show (if y / 8 < n then _ else _) = if y / 8 < n then _ else _
    rw [sm_ext hn fun i h1 h2 => by rw [hv i h1 h2, Int.zero_mul]]

end Hf
namespace Hf
open Go
def eqA : At → At → Prop
  | .ag hd n f, b => ∃ g, b = .ag hd n g ∧ ∀ x, hd.length ≤ x → x < n → f x = g x
  | a, b => a = b
def eqL : List At → List At → Prop
  | [], [] => True
  | a :: l, b :: m => eqA a b ∧ eqL l m
  | _, _ => False
def eqS : Sv → Sv → Prop
  | .one a, .one b => eqA a b
  | .tup l, .tup m => eqL l m
  | _, _ => False
def eqK : Bk → Bk → Prop
  | .by hd n f, b => ∃ g, b = .by hd n g ∧ ∀ x, hd.length ≤ x → x < n → f x = g x
  | a, b => a = b
def eqH : List Blk → List Blk → Prop
  | [], [] => True
  | a :: l, b :: m => (a.ro = b.ro ∧ eqK a.c b.c) ∧ eqH l m
  | _, _ => False
section
variable {P : Program} {ρ : Nat → FuncId} {σ : Nat → Nat}
theorem cells_eq {hd : List Int} {n : Nat} {f g : By} (h : ∀ x, hd.length ≤ x → x < n → f x = g x) : cellsOf hd n f = cellsOf hd n g := by
  unfold cellsOf
  congr 1
  apply List.map_congr_left
  intro x hx
  rw [List.mem_range] at hx
  by_cases hl : hd.length ≤ x
  · rw [cel_by hl, cel_by hl, h x hl hx]
  · have e : hd[x]? = some (hd[x]'(by omega)) := by simp [show x < hd.length by omega]
    rw [cel_hd e, cel_hd e]
theorem ren_eq : ∀ {a b : At}, eqA a b → ren ρ σ a = ren ρ σ b
  | .ag hd n f, b, ⟨g, e, h⟩ => by subst e; simp only [ren]; rw [cells_eq h]
  | .i _ _, _, h | .u _, _, h | .b _, _, h | .pt _ _, _, h | .np, _, h | .sl _ _ _ _, _, h | .sn, _, h | .fn _ _ _, _, h | .ac _, _, h => by cases h; rfl
theorem lt_eq {m : Nat} : ∀ {a b : At}, eqA a b → a.lt m = b.lt m
  | .ag hd n f, b, ⟨g, e, h⟩ => by subst e; rfl
  | .i _ _, _, h | .u _, _, h | .b _, _, h | .pt _ _, _, h | .np, _, h | .sl _ _ _ _, _, h | .sn, _, h | .fn _ _ _, _, h | .ac _, _, h => by cases h; rfl
theorem renL_eq : ∀ {l m : List At}, eqL l m → l.map (ren ρ σ) = m.map (ren ρ σ)
  | [], [], _ => rfl
  | a :: l, b :: m, h => by simp only [List.map_cons]; rw [ren_eq h.1, renL_eq h.2]
theorem ltL_eq {k : Nat} : ∀ {l m : List At}, eqL l m → l.all (·.lt k) = m.all (·.lt k)
  | [], [], _ => rfl
  | a :: l, b :: m, h => by simp only [List.all_cons]; rw [lt_eq h.1, ltL_eq h.2]
theorem renS_eq : ∀ {a b : Sv}, eqS a b → renS ρ σ a = renS ρ σ b
  | .one a, .one b, h => ren_eq h
  | .tup l, .tup m, h => by simp only [renS]; rw [renL_eq h]
theorem ltS_eq {k : Nat} : ∀ {a b : Sv}, eqS a b → a.lt k = b.lt k
  | .one a, .one b, h => lt_eq h
  | .tup l, .tup m, h => ltL_eq h
theorem cellsB_eq : ∀ {a b : Bk}, eqK a b → cellsB ρ σ a = cellsB ρ σ b
  | .by hd n f, b, ⟨g, e, h⟩ => by subst e; exact cells_eq h
  | .vr _, _, h | .rw _, _, h | .gs _ _, _, h | .fo _ _, _, h => by cases h; rfl
theorem frz_eq : ∀ {a b : Bk}, eqK a b → frz a = frz b
  | .by hd n f, b, ⟨g, e, h⟩ => by subst e; rfl
  | .vr _, _, h | .rw _, _, h | .gs _ _, _, h | .fo _ _, _, h => by cases h; rfl
theorem ltK_eq {m : Nat} : ∀ {a b : Bk}, eqK a b → a.lt m = b.lt m
  | .by hd n f, b, ⟨g, e, h⟩ => by subst e; rfl
  | .vr _, _, h | .rw _, _, h | .gs _ _, _, h | .fo _ _, _, h => by cases h; rfl
theorem eqH_len : ∀ {H G : List Blk}, eqH H G → H.length = G.length
  | [], [], _ => rfl
  | _ :: _, _ :: _, h => by simp [eqH_len h.2]
theorem eqH_get : ∀ {H G : List Blk} {k : Nat} {B : Blk}, eqH H G → G[k]? = some B → ∃ A, H[k]? = some A ∧ A.ro = B.ro ∧ eqK A.c B.c
  | a :: l, b :: m, 0, B, h, e => by
    simp at e; subst e
    exact ⟨a, rfl, h.1⟩
  | a :: l, b :: m, k + 1, B, h, e => by
    rw [List.getElem?_cons_succ] at e ⊢
    exact eqH_get h.2 e
  | [], [], _, _, _, e => by simp at e
theorem CallOK.conv {f : Nat} {as as2 : List At} {H H' H2 : List Blk} {v v2 : Sv} (h : CallOK P ρ f as H v H') (ha : eqL as as2) (hv : eqS v v2) (hH : eqH H' H2) : CallOK P ρ f as2 H v2 H2 := by
  intro σ w hh
  have := h σ w hh
  rw [renL_eq ha] at this
  refine this.mono ?_
  rintro e w' ⟨σ', rfl, hs, hl⟩
  refine ⟨σ', by rw [renS_eq hv], ⟨⟨?_, ?_, ?_⟩, hs.k, by rw [← eqH_len hH]; exact hs.len, hs.same, ?_, ?_⟩, by rw [← eqH_len hH, ← ltS_eq hv]; exact hl⟩
  · intro k B hB
    obtain ⟨A, h1, h2, h3⟩ := eqH_get hH hB
    obtain ⟨T, e⟩ := hs.h.at_ k A h1
    exact ⟨T, by rw [e, cellsB_eq h3, frz_eq h3]⟩
  · intro j k B hjk hk hB hro
    obtain ⟨A, h1, h2, h3⟩ := eqH_get hH hB
    exact hs.h.sep j k A hjk (by rw [eqH_len hH]; exact hk) h1 (by rw [h2]; exact hro)
  · intro k B hB
    obtain ⟨A, h1, h2, h3⟩ := eqH_get hH hB
    rw [← ltK_eq h3, ← eqH_len hH]
    exact hs.h.clo k A h1
  · intro k B B' e e'
    obtain ⟨A, h1, h2, h3⟩ := eqH_get hH e'
    rw [← h2]; exact hs.rof k B A e h1
  · intro k h1 h2
    exact hs.fresh k h1 (by rw [eqH_len hH]; exact h2)
theorem eqA_rfl : ∀ {a : At}, eqA a a
  | .ag _ _ f => ⟨f, rfl, fun _ _ _ => rfl⟩
  | .i _ _ | .u _ | .b _ | .pt _ _ | .np | .sl _ _ _ _ | .sn | .fn _ _ _ | .ac _ => rfl
theorem eqL_rfl : ∀ {l : List At}, eqL l l
  | [] => trivial
  | _ :: _ => ⟨eqA_rfl, eqL_rfl⟩
theorem eqS_rfl : ∀ {a : Sv}, eqS a a
  | .one _ => eqA_rfl
  | .tup _ => eqL_rfl
theorem eqK_rfl : ∀ {a : Bk}, eqK a a
  | .by _ _ f => ⟨f, rfl, fun _ _ _ => rfl⟩
  | .vr _ | .rw _ | .gs _ _ | .fo _ _ => rfl
theorem eqH_rfl : ∀ {l : List Blk}, eqH l l
  | [] => trivial
  | _ :: _ => ⟨⟨rfl, eqK_rfl⟩, eqH_rfl⟩
end
end Hf
namespace Hf
open Go Classical
variable {P : Program} {ρ : Nat → FuncId}
/-- a prime up to 31 -/
def Pr (p : Int) : Prop := 2 ≤ p ∧ p ≤ 31 ∧ ∀ k : Int, 2 ≤ k → k < p → p % k ≠ 0
def Shp (p n : Int) : Prop := Pr p ∧ 1 ≤ n ∧ n ≤ 8
/-- a vector of n numbers below p, at o -/
def Vec (p n : Int) (f : By) (o : Nat) : Prop := ∀ k : Nat, k < 8 → bz f (o + k) < p ∧ (n ≤ k → bz f (o + k) = 0)
def Lin (p n size : Int) (f : By) (o : Nat) : Prop := ∀ i : Nat, i < 8 → Vec p size f (o + i * 8) ∧ (n ≤ i → ∀ k : Nat, k < 8 → bz f (o + i * 8 + k) = 0)
def Tab (p n : Int) (f : By) (o : Nat) : Prop := ∀ i : Nat, i < 8 → Lin p n n f (o + i * 64) ∧ (n ≤ i → ∀ k : Nat, k < 64 → bz f (o + i * 64 + k) = 0)
theorem dec_f {q : Prop} [Decidable q] (h : ¬ q) : false = decide q := (decide_eq_false h).symm
theorem dec_t {q : Prop} [Decidable q] (h : q) : true = decide q := (decide_eq_true h).symm
theorem bz_eq0 {f : By} {k : Nat} : bz f k = 0 ↔ f k = 0 := u_eq0.symm
theorem small_pr {p i : Int} (h1 : 2 ≤ p) (h2 : p ≤ 31) (hi : 2 ≤ i) (hi2 : i ≤ 7) (hsq : p < i * i) (h : ∀ k : Int, 2 ≤ k → k < i → p % k ≠ 0) : ∀ k : Int, 2 ≤ k → k < p → p % k ≠ 0 := by
  intro k hk hkp e
  -- p = k * q
  obtain ⟨q, hq⟩ := Int.dvd_of_emod_eq_zero e
  by_cases hki : k < i
  · exact h k hk hki e
  · have hq1 : 2 ≤ q := by
      rcases Int.lt_or_le q 2 with hq2 | hq2
      · have : q ≤ 1 := by omega
        have h3 : k * q ≤ k * 1 := Int.mul_le_mul_of_nonneg_left this (by omega)
        omega
      · exact hq2
    have hqi : q < i := by
      rcases Int.lt_or_le q i with h3 | h3
      · exact h3
      · have h4 : i * i ≤ k * q := Int.mul_le_mul (by omega) h3 (by omega) (by omega)
        omega
    have : p % q = 0 := by rw [hq]; exact Int.mul_emod_left _ _
    exact h q hq1 hqi this

theorem i_IsPrime_ok (B : Bs P ρ) (E : E_i_IsPrime P ρ) {p : Int} :
    CallOK P ρ 93 [.i .i64 p] [] (.one (.b (decide (Pr p)))) [] := by
  refine call_of_vc B.fn B.mo E rfl rfl ?_
  refine ⟨fun h6 => ?_, fun h6 => ?_⟩
  · replace h6 := of_decide_eq_true h6
    refine brB_t ?_
    refine brB_t ?_
    refine brB_t ?_
    refine ⟨rfl, [], ?_, rfl, trivial, rfl, rfl⟩
    exact one_b (dec_f fun h => by have := h.1; omega)
  · replace h6 := of_decide_eq_false h6
    refine brB_f ?_
    refine brB_f ?_
    refine ⟨fun h9 => ?_, fun h9 => ?_⟩
    · replace h9 := of_decide_eq_true h9
      refine ⟨rfl, [], ?_, rfl, trivial, rfl, rfl⟩
      exact one_b (dec_f fun h => by have := h.2.1; omega)
    · replace h9 := of_decide_eq_false h9
      refine .inl ⟨(fun a0 i0 => St.mk [(0, a0), (3, .one (.i .i64 ((2 + i0 : Nat) : Int)))] []) _ , fun i0 => ∀ k : Int, 2 ≤ k → k < ((2 + i0 : Nat) : Int) → p % k ≠ 0, 5, fun _ _ => by omega, ⟨⟨rfl, rfl, trivial⟩, trivial, rfl⟩, fun i0 hi0 hF0 => ?_⟩
      have hsq : (((2 + i0 : Nat) : Int)) * ((2 + i0 : Nat) : Int) = 4 + 4 * i0 + i0 * i0 := by
        have : ((2 + i0 : Nat) : Int) = 2 + i0 := by omega
        rw [this, Int.add_mul, Int.mul_add, Int.mul_add]; omega
      have hi5 : i0 = 0 ∨ i0 = 1 ∨ i0 = 2 ∨ i0 = 3 ∨ i0 = 4 ∨ i0 = 5 := by omega
      refine ⟨_, w64_id _ ?_ ?_, ?_⟩
      · rcases hi5 with rfl | rfl | rfl | rfl | rfl | rfl <;> decide
      · rcases hi5 with rfl | rfl | rfl | rfl | rfl | rfl <;> decide
      refine ⟨fun h14 => ?_, fun h14 => ?_⟩
      · replace h14 := of_decide_eq_true h14
        refine ⟨by omega, _, rfl, ?_⟩
        refine ⟨fun h20 => ?_, fun h20 => ?_⟩
        · replace h20 := eq_of_beq h20
          rw [Int.tmod_eq_emod_of_nonneg (by omega)] at h20
          refine ⟨rfl, [], ?_, rfl, trivial, rfl, rfl⟩
          refine one_b (dec_f fun h => h.2.2 _ (by omega) ?_ h20)
          rcases hi5 with rfl | rfl | rfl | rfl | rfl | rfl <;> simp at h14 ⊢ <;> omega
        · replace h20 := ne_of_beq_false h20
          rw [Int.tmod_eq_emod_of_nonneg (by omega)] at h20
          refine ⟨((2 + i0 + 1 : Nat) : Int), w64_id _ (by omega) (by omega), ?_⟩
          refine ⟨by rcases hi5 with rfl | rfl | rfl | rfl | rfl | rfl <;> simp at h14 ⊢ <;> omega, ?_, ⟨rfl, rfl, trivial⟩, trivial, rfl⟩
          intro k hk hk2
          by_cases e : k = ((2 + i0 : Nat) : Int)
          · rw [e]; exact h20
          · exact hF0 k hk (by omega)
      · replace h14 := of_decide_eq_false h14
        refine ⟨rfl, [], ?_, rfl, trivial, rfl, rfl⟩
        exact one_b (dec_t ⟨by omega, by omega, small_pr (i := ((2 + i0 : Nat) : Int)) (by omega) (by omega) (by omega) (by omega) (by omega) hF0⟩)

theorem i_in_ok (B : Bs P ρ) (E : E_i_in P ρ) {x a b : Int} :
    CallOK P ρ 94 [.i .i64 x, .i .i64 a, .i .i64 b] [] (.one (.b (decide (a ≤ x ∧ x ≤ b)))) [] := by
  refine call_of_vc B.fn B.mo E rfl rfl ?_
  refine ⟨fun h10 => ?_, fun h10 => ?_⟩
  · replace h10 := of_decide_eq_true h10
    refine brB_t ?_
    refine brB_t ?_
    refine brB_t ?_
    refine ⟨rfl, [], ?_, rfl, trivial, rfl, rfl⟩
    refine one_b ?_
    by_cases h : x ≤ b
    · rw [decide_eq_true h, decide_eq_true (⟨h10, h⟩ : a ≤ x ∧ x ≤ b)]
    · rw [decide_eq_false h, decide_eq_false (fun q : a ≤ x ∧ x ≤ b => h q.2)]
  · replace h10 := of_decide_eq_false h10
    refine brB_f ?_
    refine brB_f ?_
    refine brB_f ?_
    refine ⟨rfl, [], ?_, rfl, trivial, rfl, rfl⟩
    exact one_b (dec_f fun q => h10 q.1)

theorem i_IsVector_ok (B : Bs P ρ) (E : E_i_IsVector P ρ) {p n : Int} {v : By} :
    CallOK P ρ 92 [.i .i64 p, .i .i64 n, .ag [] 8 v] [] (.one (.b (decide (Shp p n ∧ Vec p n v 0)))) [] := by
  refine call_of_vc B.fn B.mo E.1 rfl rfl ?_
  refine ⟨0, rfl, ?_⟩
  refine .inl ⟨1, [], _, _, _, _, [_], rfl, i_IsPrime_ok B E.2.1 , rfl, trivial, rfl, rfl, ?_⟩
  refine ⟨fun h12 => ?_, fun h12 => ?_⟩
  · skip
    refine brB_t ?_
    refine brB_t ?_
    refine brB_t ?_
    refine brB_t ?_
    refine ⟨rfl, [], ?_, rfl, trivial, rfl, rfl⟩
    refine one_b (dec_f fun q => ?_)
    rw [decide_eq_true q.1.1] at h12; cases h12
  · skip
    have hpr : Pr p := by
      by_cases q : Pr p
      · exact q
      · rw [decide_eq_false q] at h12; cases h12
    refine brB_f ?_
    refine .inl ⟨1, [], _, _, _, _, [_], rfl, i_in_ok B E.2.2 , rfl, trivial, rfl, rfl, ?_⟩
    refine brB_f ?_
    refine brB_f ?_
    refine ⟨fun h16 => ?_, fun h16 => ?_⟩
    · skip
      refine ⟨rfl, [], ?_, rfl, trivial, rfl, rfl⟩
      refine one_b (dec_f fun q => ?_)
      rw [decide_eq_true ⟨q.1.2.1, q.1.2.2⟩] at h16; cases h16
    · skip
      have hn : 1 ≤ n ∧ n ≤ 8 := by
        by_cases q : 1 ≤ n ∧ n ≤ 8
        · exact q
        · rw [decide_eq_false q] at h16; cases h16
      refine ⟨⟨by first | omega | (simp <;> omega), by first | omega | (simp <;> omega)⟩, ?_⟩
      refine .inl ⟨(fun a0 a1 a17 b0 i0 => St.mk [(0, a0), (1, a1), (17, a17), (18, .one (.i .i64 ((i0 : Nat) : Int)))] [b0]) _ _ _ _ , fun i0 => ∀ k : Nat, k < i0 → bz v k < p ∧ (n ≤ k → bz v k = 0), 8, fun _ _ => by omega, ⟨⟨rfl, rfl, rfl, rfl, trivial⟩, ⟨rfl, trivial⟩, rfl⟩, fun i0 hi0 hF0 => ?_⟩
      refine ⟨fun h19 => ?_, fun h19 => ?_⟩
      · replace h19 := of_decide_eq_true h19
        refine ⟨_, rfl, by first | omega | (simp <;> omega), by first | omega | (simp <;> omega), ?_⟩
        refine ⟨fun h26 => ?_, fun h26 => ?_⟩
        · replace h26 := of_decide_eq_true h26
          refine brB_t ?_
          refine brB_t ?_
          refine brB_t ?_
          refine brB_t ?_
          refine brB_t ?_
          refine brB_t ?_
          refine ⟨rfl, [], ?_, rfl, trivial, rfl, rfl⟩
          exact one_b (dec_f fun q => by have := (q.2 i0 (by omega)).1; rw [Nat.zero_add] at this; simp [bz, sh] at this h26; omega)
        · replace h26 := of_decide_eq_false h26
          refine brB_f ?_
          refine brB_f ?_
          refine brB_f ?_
          refine ⟨fun h30 => ?_, fun h30 => ?_⟩
          · replace h30 := of_decide_eq_true h30
            refine brB_t ?_
            refine brB_f ?_
            refine brB_t ?_
            refine brB_f ?_
            refine ⟨fun h34 => ?_, fun h34 => ?_⟩
            · replace h34 := bne_t h34
              refine ⟨rfl, [], ?_, rfl, trivial, rfl, rfl⟩
              exact one_b (dec_f fun q => by have := (q.2 i0 (by omega)).2 (by omega); rw [Nat.zero_add, bz_eq0] at this; simp [sh] at h34; exact h34 this)
            · replace h34 := bne_f h34
              refine ⟨((i0 + 1 : Nat) : Int), w64_id _ (by omega) (by omega), ?_⟩
              refine ⟨by omega, ?_, ⟨rfl, rfl, rfl, rfl, trivial⟩, ⟨rfl, trivial⟩, rfl⟩
              intro k hk
              by_cases e : k = i0
              · subst e
                simp [bz, sh] at h26 h34 ⊢
                exact ⟨h26, fun _ => by rw [h34]; rfl⟩
              · exact hF0 k (by omega)
          · replace h30 := of_decide_eq_false h30
            refine brB_f ?_
            refine brB_f ?_
            refine brB_f ?_
            refine brB_f ?_
            refine brB_f ?_
            refine ⟨((i0 + 1 : Nat) : Int), w64_id _ (by omega) (by omega), ?_⟩
            refine ⟨by omega, ?_, ⟨rfl, rfl, rfl, rfl, trivial⟩, ⟨rfl, trivial⟩, rfl⟩
            intro k hk
            by_cases e : k = i0
            · subst e
              simp [bz, sh] at h26 ⊢
              exact ⟨h26, fun q => by omega⟩
            · exact hF0 k (by omega)
      · replace h19 := of_decide_eq_false h19
        have e0 : 8 = i0 := by omega
        subst e0
        refine ⟨rfl, [], ?_, rfl, trivial, rfl, rfl⟩
        exact one_b (dec_t ⟨⟨hpr, hn⟩, fun k hk => by rw [Nat.zero_add]; exact hF0 k hk⟩)

end Hf
namespace Hf
open Go Classical
variable {P : Program} {ρ : Nat → FuncId}
theorem dec_elim_t {q : Prop} [Decidable q] (h : decide q = true) : q := of_decide_eq_true h
theorem dec_elim_t' {q : Prop} [Decidable q] (h : decide q = false) : ¬ q := of_decide_eq_false h
theorem not_t {b : Bool} (h : (!b) = true) : b = false := by simpa using h
theorem not_f {b : Bool} (h : (!b) = false) : b = true := by simpa using h
theorem eqB_z {n o : Nat} {f : By} : eqB n (sh f o) (fun _ => 0) = true ↔ ∀ k : Nat, k < n → bz f (o + k) = 0 := by
  rw [eqB_iff]
  exact ⟨fun h k hk => bz_eq0.2 (h k hk), fun h k hk => bz_eq0.1 (h k hk)⟩
theorem Vec_sh {p n : Int} {f : By} {a o : Nat} : Vec p n (sh f a) o ↔ Vec p n f (a + o) := by
  unfold Vec
  simp only [bz_sh, Nat.add_assoc]
theorem spl_sh {f g : By} {n a : Nat} : eqB n (sh (spl g 0 n (sh f a)) 0) (fun _ => 0) = eqB n (sh f a) (fun _ => 0) := by
  rw [Bool.eq_iff_iff, eqB_iff, eqB_iff]
  refine ⟨fun h k hk => ?_, fun h k hk => ?_⟩
  · have := h k hk
    rw [sh_zero] at this
    simp only [spl] at this
    rw [if_pos (by omega)] at this
    exact this
  · rw [sh_zero]
    simp only [spl]
    rw [if_pos (by omega)]
    exact h k hk
theorem Vec_spl {p n : Int} {f g : By} {a : Nat} : Vec p n (sh (spl g 0 8 (sh f a)) 0) 0 ↔ Vec p n f a := by
  unfold Vec
  simp only [sh_zero]
  have e : ∀ k, k < 8 → bz (spl g 0 8 (sh f a)) (0 + k) = bz f (a + k) := by
    intro k hk
    simp only [bz, spl]
    rw [if_pos (by omega)]
    simp [sh]
  exact ⟨fun h k hk => by rw [← e k hk]; exact h k hk, fun h k hk => by rw [e k hk]; exact h k hk⟩

theorem i_isLinear_ok (B : Bs P ρ) (E : E_i_isLinear P ρ) {p n size : Int} {hd : List Int} {N off : Nat} {f : By} (ho : hd.length ≤ off) (hN : off + 64 ≤ N) :
    CallOK P ρ 83 [.i .i64 p, .i .i64 n, .i .i64 size, .pt 0 off] [⟨true, .by hd N f⟩] (.one (.b (decide (Shp p size ∧ Lin p n size f off)))) [⟨true, .by hd N f⟩] := by
  refine call_of_vc B.fn B.mo E.1 rfl rfl ?_
  refine .inl ⟨(fun a0 a1 a2 a11 b0 i0 => St.mk [(0, a0), (1, a1), (2, a2), (11, a11), (12, .one (.i .i64 ((i0 : Nat) : Int)))] [b0]) _ _ _ _ _ , fun i0 => ∀ i : Nat, i < i0 → (Shp p size ∧ Vec p size f (off + i * 8)) ∧ (n ≤ i → ∀ k : Nat, k < 8 → bz f (off + i * 8 + k) = 0), 8, fun _ _ => by omega, ⟨⟨rfl, rfl, rfl, rfl, rfl, trivial⟩, ⟨rfl, trivial⟩, rfl⟩, fun i0 hi0 hF0 => ?_⟩
  refine ⟨fun h13 => ?_, fun h13 => ?_⟩
  · replace h13 := of_decide_eq_true h13
    have hV : ∀ g : By, Vec p size (sh (spl g 0 8 (sh f (off + i0 * 8))) 0) 0 ↔ Vec p size f (off + i0 * 8) := fun g => Vec_spl
    refine ⟨_, off + i0 * 8, rfl, by omega, by omega, ?_⟩
    refine ⟨⟨by first | omega | (simp <;> omega), by first | omega | (simp <;> omega)⟩, ?_⟩
    refine ⟨1, rfl, ?_⟩
    refine ⟨⟨rfl, by first | omega | (simp <;> omega), by first | omega | (simp <;> omega)⟩, ?_⟩   -- sta ['.t', 10] ['.t', 17] 8
    refine ⟨⟨by first | omega | (simp <;> omega), by first | omega | (simp <;> omega)⟩, ?_⟩
    refine .inl ⟨2, [], _, _, _, _, [_, _], rfl, i_IsVector_ok B E.2 , rfl, trivial, rfl, rfl, ?_⟩
    refine ⟨fun h23 => ?_, fun h23 => ?_⟩
    · skip
      have h23' := dec_elim_t' (not_t h23)
      refine brB_t ?_
      refine brB_t ?_
      refine brB_t ?_
      refine brB_t ?_
      refine brB_t ?_
      refine brB_t ?_
      refine ⟨rfl, [], ?_, rfl, ⟨rfl, trivial⟩, rfl, rfl⟩
      exact one_b (dec_f fun q => h23' ⟨q.1, (hV _).2 (q.2 i0 (by omega)).1⟩)
    · skip
      have h23' := dec_elim_t (not_f h23)
      rw [hV] at h23'
      refine brB_f ?_
      refine brB_f ?_
      refine brB_f ?_
      refine ⟨fun h27 => ?_, fun h27 => ?_⟩
      · replace h27 := of_decide_eq_true h27
        refine ⟨⟨by first | omega | (simp <;> omega), by first | omega | (simp <;> omega)⟩, ?_⟩
        refine brB_t ?_
        refine brB_t ?_
        refine brB_f ?_
        refine brB_t ?_
        refine brB_f ?_
        refine ⟨fun h32 => ?_, fun h32 => ?_⟩
        · skip
          have h32' := not_t h32
          refine ⟨rfl, [], ?_, rfl, ⟨rfl, trivial⟩, rfl, rfl⟩
          refine one_b (dec_f fun q => ?_)
          have := eqB_z.2 ((q.2 i0 (by omega)).2 (by omega))
          erw [spl_sh] at h32
          rw [this] at h32; cases h32
        · skip
          have h32' := not_f h32
          refine ⟨((i0 + 1 : Nat) : Int), w64_id _ (by omega) (by omega), ?_⟩
          refine ⟨by omega, ?_, ⟨rfl, rfl, rfl, rfl, rfl, trivial⟩, ⟨rfl, trivial⟩, rfl⟩
          intro i hi
          by_cases e : i = i0
          · subst e
            refine ⟨h23', fun _ => ?_⟩
            erw [spl_sh] at h32
            exact eqB_z.1 (by simpa using h32)
          · exact hF0 i (by omega)
      · replace h27 := of_decide_eq_false h27
        refine brB_f ?_
        refine brB_f ?_
        refine brB_f ?_
        refine brB_f ?_
        refine brB_f ?_
        refine brB_f ?_
        refine ⟨((i0 + 1 : Nat) : Int), w64_id _ (by omega) (by omega), ?_⟩
        refine ⟨by omega, ?_, ⟨rfl, rfl, rfl, rfl, rfl, trivial⟩, ⟨rfl, trivial⟩, rfl⟩
        intro i hi
        by_cases e : i = i0
        · subst e
          exact ⟨h23', fun q => by omega⟩
        · exact hF0 i (by omega)
  · replace h13 := of_decide_eq_false h13
    have e0 : 8 = i0 := by omega
    subst e0
    refine ⟨rfl, [], ?_, rfl, ⟨rfl, trivial⟩, rfl, rfl⟩
    exact one_b (dec_t ⟨(hF0 0 (by omega)).1.1, fun i hi => ⟨(hF0 i hi).1.2, (hF0 i hi).2⟩⟩)

theorem i_isTable_ok (B : Bs P ρ) (E : E_i_isTable P ρ) {p n : Int} {hd : List Int} {N off : Nat} {f : By} (ho : hd.length ≤ off) (hN : off + 512 ≤ N) :
    CallOK P ρ 102 [.i .i64 p, .i .i64 n, .pt 0 off] [⟨true, .by hd N f⟩] (.one (.b (decide (Shp p n ∧ Tab p n f off)))) [⟨true, .by hd N f⟩] := by
  refine call_of_vc B.fn B.mo E.1 rfl rfl ?_
  refine .inl ⟨(fun a0 a1 a2 b0 i0 => St.mk [(0, a0), (1, a1), (2, a2), (8, .one (.i .i64 ((i0 : Nat) : Int)))] [b0]) _ _ _ _ , fun i0 => ∀ i : Nat, i < i0 → (Shp p n ∧ Lin p n n f (off + i * 64)) ∧ (n ≤ i → ∀ k : Nat, k < 64 → bz f (off + i * 64 + k) = 0), 8, fun _ _ => by omega, ⟨⟨rfl, rfl, rfl, rfl, trivial⟩, ⟨rfl, trivial⟩, rfl⟩, fun i0 hi0 hF0 => ?_⟩
  refine ⟨fun h9 => ?_, fun h9 => ?_⟩
  · replace h9 := of_decide_eq_true h9
    have ho' : hd.length ≤ off + i0 * 64 := by omega
    have hN' : off + i0 * 64 + 64 ≤ N := by omega
    refine ⟨_, off + i0 * 64, rfl, by omega, by omega, ?_⟩
    refine .inl ⟨1, [0], _, _, _, _, [_], rfl, i_isLinear_ok B E.2 ho' hN', rfl, ⟨⟨_, rfl, fun h => by first | rfl | cases h⟩, trivial⟩, rfl, rfl, ?_⟩
    refine ⟨fun h20 => ?_, fun h20 => ?_⟩
    · skip
      have h20' := dec_elim_t' (not_t h20)
      refine brB_t ?_
      refine brB_t ?_
      refine brB_t ?_
      refine brB_t ?_
      refine brB_t ?_
      refine brB_t ?_
      refine ⟨rfl, [], ?_, rfl, ⟨rfl, trivial⟩, rfl, rfl⟩
      exact one_b (dec_f fun q => h20' ⟨q.1, (q.2 i0 (by omega)).1⟩)
    · skip
      have h20' := dec_elim_t (not_f h20)
      refine brB_f ?_
      refine brB_f ?_
      refine brB_f ?_
      refine ⟨fun h24 => ?_, fun h24 => ?_⟩
      · replace h24 := of_decide_eq_true h24
        refine brB_t ?_
        refine brB_t ?_
        refine brB_t ?_
        refine ⟨_, off + i0 * 64, rfl, by omega, by omega, ?_⟩
        refine brB_t ?_
        refine ⟨⟨by first | omega | (simp <;> omega), by first | omega | (simp <;> omega)⟩, ?_⟩
        refine brB_t ?_
        refine brB_t ?_
        refine brB_f ?_
        refine brB_t ?_
        refine brB_f ?_
        refine ⟨fun h33 => ?_, fun h33 => ?_⟩
        · skip
          have h33' := not_t h33
          refine ⟨rfl, [], ?_, rfl, ⟨rfl, trivial⟩, rfl, rfl⟩
          refine one_b (dec_f fun q => ?_)
          have := eqB_z.2 ((q.2 i0 (by omega)).2 (by omega))
          erw [this] at h33; cases h33
        · skip
          have h33' := not_f h33
          refine ⟨((i0 + 1 : Nat) : Int), w64_id _ (by omega) (by omega), ?_⟩
          refine ⟨by omega, ?_, ⟨rfl, rfl, rfl, rfl, trivial⟩, ⟨rfl, trivial⟩, rfl⟩
          intro i hi
          by_cases e : i = i0
          · subst e
            refine ⟨h20', fun _ => ?_⟩
            exact eqB_z.1 (by simpa using h33)
          · exact hF0 i (by omega)
      · replace h24 := of_decide_eq_false h24
        refine brB_f ?_
        refine brB_f ?_
        refine brB_f ?_
        refine brB_f ?_
        refine brB_f ?_
        refine brB_f ?_
        refine brB_f ?_
        refine brB_f ?_
        refine brB_f ?_
        refine brB_f ?_
        refine ⟨((i0 + 1 : Nat) : Int), w64_id _ (by omega) (by omega), ?_⟩
        refine ⟨by omega, ?_, ⟨rfl, rfl, rfl, rfl, trivial⟩, ⟨rfl, trivial⟩, rfl⟩
        intro i hi
        by_cases e : i = i0
        · subst e
          exact ⟨h20', fun q => by omega⟩
        · exact hF0 i (by omega)
  · replace h9 := of_decide_eq_false h9
    have e0 : 8 = i0 := by omega
    subst e0
    refine ⟨rfl, [], ?_, rfl, ⟨rfl, trivial⟩, rfl, rfl⟩
    exact one_b (dec_t ⟨(hF0 0 (by omega)).1.1, fun i hi => ⟨(hF0 i hi).1.2, (hF0 i hi).2⟩⟩)

theorem i_Algebra_isShaped_ok (B : Bs P ρ) (E : E_i_Algebra_isShaped P ρ) {p n : Int} {f : By} :
    CallOK P ρ 81 [.pt 0 0] [⟨true, .by [p, n] 522 f⟩] (.one (.b (decide (Shp p n ∧ Vec p n f 2 ∧ Tab p n f 10)))) [⟨true, .by [p, n] 522 f⟩] := by
  refine call_of_vc B.fn B.mo E.1 rfl rfl ?_
  refine ⟨⟨by first | omega | (simp <;> omega), by first | omega | (simp <;> omega)⟩, ?_⟩
  refine ⟨1, [], _, _, _, _, [_], rfl, i_IsVector_ok B E.2.1 , rfl, trivial, rfl, rfl, rfl, ?_⟩
  refine ⟨fun h16 => ?_, fun h16 => ?_⟩
  · skip
    have h16' := dec_elim_t h16
    refine brB_t ?_
    refine brB_t ?_
    refine brB_t ?_
    refine brB_t ?_
    refine brB_t ?_
    refine brB_t ?_
    refine brB_t ?_
    refine brB_t ?_
    refine brB_t ?_
    refine brB_t ?_
    refine brB_t ?_
    refine .inl ⟨1, [0], _, _, _, _, [_], rfl, i_isTable_ok B E.2.2 (by simp) (by omega), rfl, ⟨⟨_, rfl, fun h => by first | rfl | cases h⟩, trivial⟩, rfl, rfl, ?_⟩
    refine brB_t ?_
    refine ⟨rfl, [], ?_, rfl, ⟨rfl, trivial⟩, rfl, rfl⟩
    refine one_b (decide_eq_decide.2 ?_)
    exact ⟨fun q => ⟨q.1, Vec_sh.1 h16'.2, q.2⟩, fun q => ⟨q.1, q.2.2⟩⟩
  · skip
    have h16' := dec_elim_t' h16
    refine brB_f ?_
    refine brB_f ?_
    refine brB_f ?_
    refine brB_f ?_
    refine brB_f ?_
    refine brB_f ?_
    refine brB_f ?_
    refine brB_f ?_
    refine brB_f ?_
    refine brB_f ?_
    refine brB_f ?_
    refine brB_f ?_
    refine ⟨rfl, [], ?_, rfl, ⟨rfl, trivial⟩, rfl, rfl⟩
    exact one_b (dec_f fun q => h16' ⟨q.1, Vec_sh.2 q.2.1⟩)

theorem i_Coalgebra_isShaped_ok (B : Bs P ρ) (E : E_i_Coalgebra_isShaped P ρ) {p n : Int} {f : By} :
    CallOK P ρ 82 [.pt 0 0] [⟨true, .by [p, n] 522 f⟩] (.one (.b (decide (Shp p n ∧ Vec p n f 2 ∧ Tab p n f 10)))) [⟨true, .by [p, n] 522 f⟩] := by
  refine call_of_vc B.fn B.mo E.1 rfl rfl ?_
  refine ⟨⟨by first | omega | (simp <;> omega), by first | omega | (simp <;> omega)⟩, ?_⟩
  refine ⟨1, [], _, _, _, _, [_], rfl, i_IsVector_ok B E.2.1 , rfl, trivial, rfl, rfl, rfl, ?_⟩
  refine ⟨fun h16 => ?_, fun h16 => ?_⟩
  · skip
    have h16' := dec_elim_t h16
    refine brB_t ?_
    refine brB_t ?_
    refine brB_t ?_
    refine brB_t ?_
    refine brB_t ?_
    refine brB_t ?_
    refine brB_t ?_
    refine brB_t ?_
    refine brB_t ?_
    refine brB_t ?_
    refine brB_t ?_
    refine .inl ⟨1, [0], _, _, _, _, [_], rfl, i_isTable_ok B E.2.2 (by simp) (by omega), rfl, ⟨⟨_, rfl, fun h => by first | rfl | cases h⟩, trivial⟩, rfl, rfl, ?_⟩
    refine brB_t ?_
    refine ⟨rfl, [], ?_, rfl, ⟨rfl, trivial⟩, rfl, rfl⟩
    refine one_b (decide_eq_decide.2 ?_)
    exact ⟨fun q => ⟨q.1, Vec_sh.1 h16'.2, q.2⟩, fun q => ⟨q.1, q.2.2⟩⟩
  · skip
    have h16' := dec_elim_t' h16
    refine brB_f ?_
    refine brB_f ?_
    refine brB_f ?_
    refine brB_f ?_
    refine brB_f ?_
    refine brB_f ?_
    refine brB_f ?_
    refine brB_f ?_
    refine brB_f ?_
    refine brB_f ?_
    refine brB_f ?_
    refine brB_f ?_
    refine ⟨rfl, [], ?_, rfl, ⟨rfl, trivial⟩, rfl, rfl⟩
    exact one_b (dec_f fun q => h16' ⟨q.1, Vec_sh.2 q.2.1⟩)

end Hf
namespace Hf
open Go Classical
variable {P : Program} {ρ : Nat → FuncId}
def algR (f : By) : By := spl (spl (fun _ => 0) 2 8 (sh f 2)) 10 512 (sh f 10)
def coaR (f : By) : By := spl (spl (fun _ => 0) 2 8 (sh f 522)) 10 512 (sh f 530)
theorem algR_eq {f : By} {x : Nat} (h1 : 2 ≤ x) (h2 : x < 522) : algR f x = f x := by
  simp only [algR, spl, sh]
  by_cases h : 10 ≤ x
  · rw [if_pos (by omega), show 10 + (x - 10) = x by omega]
  · rw [if_neg (by omega), if_pos (by omega), show 2 + (x - 2) = x by omega]
theorem coaR_eq {f : By} {x : Nat} (h1 : 2 ≤ x) (h2 : x < 522) : coaR f x = sh f 520 x := by
  simp only [coaR, spl, sh]
  by_cases h : 10 ≤ x
  · rw [if_pos (by omega), show 530 + (x - 10) = 520 + x by omega]
  · rw [if_neg (by omega), if_pos (by omega), show 522 + (x - 2) = 520 + x by omega]

theorem i_Hopf_algebra_raw_ok (B : Bs P ρ) (E : E_i_Hopf_algebra P ρ) {p n : Int} {f : By} :
    CallOK P ρ 36 [.pt 0 0] [⟨true, .by [p, n] 1106 f⟩] (.one (.pt 1 0)) [⟨true, .by [p, n] 1106 f⟩, ⟨false, .by [p, n] 522 (algR f)⟩] := by
  refine call_of_vc B.fn B.mo E rfl rfl ?_
  refine ⟨⟨by first | omega | (simp <;> omega), by first | omega | (simp <;> omega)⟩, ?_⟩
  refine ⟨⟨by first | omega | (simp <;> omega), by first | omega | (simp <;> omega)⟩, ?_⟩
  refine ⟨1, rfl, ?_⟩
  exact ⟨rfl, [1], rfl, rfl, ⟨rfl, rfl, trivial⟩, rfl, rfl⟩

theorem i_Hopf_coalgebra_raw_ok (B : Bs P ρ) (E : E_i_Hopf_coalgebra P ρ) {p n : Int} {f : By} :
    CallOK P ρ 39 [.pt 0 0] [⟨true, .by [p, n] 1106 f⟩] (.one (.pt 1 0)) [⟨true, .by [p, n] 1106 f⟩, ⟨false, .by [p, n] 522 (coaR f)⟩] := by
  refine call_of_vc B.fn B.mo E rfl rfl ?_
  refine ⟨⟨by first | omega | (simp <;> omega), by first | omega | (simp <;> omega)⟩, ?_⟩
  refine ⟨⟨by first | omega | (simp <;> omega), by first | omega | (simp <;> omega)⟩, ?_⟩
  refine ⟨1, rfl, ?_⟩
  exact ⟨rfl, [1], rfl, rfl, ⟨rfl, rfl, trivial⟩, rfl, rfl⟩

theorem i_Hopf_algebra_ok (B : Bs P ρ) (E : E_i_Hopf_algebra P ρ) {p n : Int} {f : By} :
    CallOK P ρ 36 [.pt 0 0] [⟨true, .by [p, n] 1106 f⟩] (.one (.pt 1 0)) [⟨true, .by [p, n] 1106 f⟩, ⟨false, .by [p, n] 522 f⟩] :=
  (i_Hopf_algebra_raw_ok B E).conv eqL_rfl eqS_rfl ⟨⟨rfl, eqK_rfl⟩, ⟨rfl, _, rfl, fun _ h1 h2 => algR_eq h1 h2⟩, trivial⟩
theorem i_Hopf_coalgebra_ok (B : Bs P ρ) (E : E_i_Hopf_coalgebra P ρ) {p n : Int} {f : By} :
    CallOK P ρ 39 [.pt 0 0] [⟨true, .by [p, n] 1106 f⟩] (.one (.pt 1 0)) [⟨true, .by [p, n] 1106 f⟩, ⟨false, .by [p, n] 522 (sh f 520)⟩] :=
  (i_Hopf_coalgebra_raw_ok B E).conv eqL_rfl eqS_rfl ⟨⟨rfl, eqK_rfl⟩, ⟨rfl, _, rfl, fun _ h1 h2 => coaR_eq h1 h2⟩, trivial⟩
/-- the shape of a Hopf table -/
def HShp (p n : Int) (f : By) : Prop := Shp p n ∧ Vec p n f 2 ∧ Tab p n f 10 ∧ Vec p n f 522 ∧ Tab p n f 530 ∧ Lin p n n f 1042
theorem Lin_sh {p n m : Int} {f : By} {a o : Nat} : Lin p n m (sh f a) o ↔ Lin p n m f (a + o) := by
  unfold Lin
  simp only [bz_sh, Vec_sh, Nat.add_assoc]
theorem Tab_sh {p n : Int} {f : By} {a o : Nat} : Tab p n (sh f a) o ↔ Tab p n f (a + o) := by
  unfold Tab
  simp only [bz_sh, Lin_sh, Nat.add_assoc]

theorem i_Hopf_isShaped_ok (B : Bs P ρ) (E : E_i_Hopf_isShaped P ρ) {p n : Int} {f : By} :
    CallOK P ρ 67 [.pt 0 0] [⟨true, .by [p, n] 1106 f⟩] (.one (.b (decide (HShp p n f)))) [⟨true, .by [p, n] 1106 f⟩] := by
  refine call_of_vc B.fn B.mo E.1 rfl rfl ?_
  refine .inl ⟨1, [0], _, _, _, _, [_, _], rfl, i_Hopf_algebra_ok B E.2.1 , rfl, ⟨⟨_, rfl, fun h => by first | rfl | cases h⟩, trivial⟩, rfl, rfl, ?_⟩
  refine .inl ⟨2, [1], _, _, _, _, [_, _], rfl, i_Algebra_isShaped_ok B E.2.2.1 , rfl, ⟨⟨_, rfl, fun h => by first | rfl | cases h⟩, trivial⟩, rfl, rfl, ?_⟩
  refine ⟨fun h6 => ?_, fun h6 => ?_⟩
  · skip
    have h6' := dec_elim_t h6
    refine brB_t ?_
    refine .inl ⟨2, [0], _, _, _, _, [_, _, _], rfl, i_Hopf_coalgebra_ok B E.2.2.2.1 , rfl, ⟨⟨_, rfl, fun h => by first | rfl | cases h⟩, trivial⟩, rfl, rfl, ?_⟩
    refine brB_t ?_
    refine .inl ⟨3, [2], _, _, _, _, [_, _, _], rfl, i_Coalgebra_isShaped_ok B E.2.2.2.2.1 , rfl, ⟨⟨_, rfl, fun h => by first | rfl | cases h⟩, trivial⟩, rfl, rfl, ?_⟩
    refine brB_t ?_
    refine ⟨fun h11 => ?_, fun h11 => ?_⟩
    · skip
      have h11' := dec_elim_t h11
      refine brB_t ?_
      refine brB_t ?_
      refine brB_t ?_
      refine brB_t ?_
      refine brB_t ?_
      refine brB_t ?_
      refine brB_t ?_
      refine brB_t ?_
      refine brB_t ?_
      refine brB_t ?_
      refine brB_t ?_
      refine brB_t ?_
      refine brB_t ?_
      refine brB_t ?_
      refine brB_t ?_
      refine .inl ⟨3, [0], _, _, _, _, [_, _, _], rfl, i_isLinear_ok B E.2.2.2.2.2 (by simp) (by omega), rfl, ⟨⟨_, rfl, fun h => by first | rfl | cases h⟩, trivial⟩, rfl, rfl, ?_⟩
      refine brB_t ?_
      refine ⟨rfl, [], ?_, rfl, ⟨rfl, trivial⟩, rfl, rfl⟩
      refine one_b (decide_eq_decide.2 ?_)
      exact ⟨fun q => ⟨q.1, h6'.2.1, h6'.2.2, (Vec_sh (a := 520) (o := 2)).1 h11'.2.1, (Tab_sh (a := 520) (o := 10)).1 h11'.2.2, q.2⟩, fun q => ⟨q.1, q.2.2.2.2.2⟩⟩
    · skip
      have h11' := dec_elim_t' h11
      refine brB_f ?_
      refine brB_f ?_
      refine brB_f ?_
      refine brB_f ?_
      refine brB_f ?_
      refine brB_f ?_
      refine brB_f ?_
      refine brB_f ?_
      refine brB_f ?_
      refine brB_f ?_
      refine brB_f ?_
      refine brB_f ?_
      refine brB_f ?_
      refine brB_f ?_
      refine brB_f ?_
      refine brB_f ?_
      refine ⟨rfl, [], ?_, rfl, ⟨rfl, trivial⟩, rfl, rfl⟩
      exact one_b (dec_f fun q => h11' ⟨q.1, (Vec_sh (a := 520) (o := 2)).2 q.2.2.2.1, (Tab_sh (a := 520) (o := 10)).2 q.2.2.2.2.1⟩)
  · skip
    have h6' := dec_elim_t' h6
    refine brB_f ?_
    refine brB_f ?_
    refine brB_f ?_
    refine brB_f ?_
    refine brB_f ?_
    refine brB_f ?_
    refine brB_f ?_
    refine brB_f ?_
    refine brB_f ?_
    refine brB_f ?_
    refine brB_f ?_
    refine brB_f ?_
    refine brB_f ?_
    refine brB_f ?_
    refine brB_f ?_
    refine brB_f ?_
    refine brB_f ?_
    refine brB_f ?_
    refine brB_f ?_
    refine brB_f ?_
    refine ⟨rfl, [], ?_, rfl, ⟨rfl, trivial⟩, rfl, rfl⟩
    exact one_b (dec_f fun q => h6' ⟨q.1, q.2.1, q.2.2.1⟩)

end Hf
namespace Hf
open Go Classical
variable {P : Program} {ρ : Nat → FuncId}
theorem neB_t {n : Nat} {f g : By} (h : (!eqB n f g) = true) : ¬ ∀ x, x < n → f x = g x := fun q => by
  rw [eqB_iff.2 q] at h; cases h
theorem neB_f {n : Nat} {f g : By} (h : (!eqB n f g) = false) : ∀ x, x < n → f x = g x := eqB_iff.1 (by simpa using h)
theorem vec_ext {N : Nat} {p : Int} {a : Nat → Int} {g : By} (hg : ∀ x, N ≤ x → g x = 0) (h : ∀ x, x < N → vec N p a x = g x) : vec N p a = g := by
  funext x
  by_cases hx : x < N
  · exact h x hx
  · rw [vec_out (by omega), hg x (by omega)]
theorem bas_out {i : Nat} (hi : i < 8) : ∀ x, 8 ≤ x → bas i x = 0 := fun x hx => by simp only [bas]; rw [if_neg (by omega)]
theorem bas_cp {i : Nat} (hi : i < 8) : sh (spl (fun _ => 0) 0 8 (bas i)) 0 = bas i := by
  rw [sh_zero]; exact z_spl _ _ (bas_out hi)
/-- the first three for which something is bad -/
def Fst (n : Nat) (bad : Nat → Nat → Nat → Prop) (i j k : Nat) : Prop :=
  (i < n ∧ j < n ∧ k < n ∧ bad i j k) ∧ (∀ i', i' < i → ∀ j, j < n → ∀ k, k < n → ¬ bad i' j k) ∧ (∀ j', j' < j → ∀ k, k < n → ¬ bad i j' k) ∧ ∀ k', k' < k → ¬ bad i j k'
theorem least {q : Nat → Prop} (h : ∃ i, q i) : ∃ i, q i ∧ ∀ j, j < i → ¬ q j := by
  obtain ⟨i, hi⟩ := h
  induction i using Nat.strongRecOn with
  | _ i ih =>
    by_cases h2 : ∃ j, j < i ∧ q j
    · obtain ⟨j, hj, hq⟩ := h2; exact ih j hj hq
    · exact ⟨i, hi, fun j hj hq => h2 ⟨j, hj, hq⟩⟩
theorem Fst_ex {n : Nat} {bad : Nat → Nat → Nat → Prop} (h : ¬ ∀ i j k, i < n → j < n → k < n → ¬ bad i j k) : ∃ i j k, Fst n bad i j k := by
  simp only [Classical.not_forall, Classical.not_not] at h
  obtain ⟨i, j, k, h1, h2, h3, h4⟩ := h
  obtain ⟨i, ⟨hi, j, hj, k, hk, hb⟩, mi⟩ := least (q := fun i => i < n ∧ ∃ j, j < n ∧ ∃ k, k < n ∧ bad i j k) ⟨i, h1, j, h2, k, h3, h4⟩
  obtain ⟨j, ⟨hj, k, hk, hb⟩, mj⟩ := least (q := fun j => j < n ∧ ∃ k, k < n ∧ bad i j k) ⟨j, hj, k, hk, hb⟩
  obtain ⟨k, ⟨hk, hb⟩, mk⟩ := least (q := fun k => k < n ∧ bad i j k) ⟨k, hk, hb⟩
  exact ⟨i, j, k, ⟨hi, hj, hk, hb⟩, fun i' h1 j' h2 k' h3 h4 => mi i' h1 ⟨by omega, j', h2, k', h3, h4⟩, fun j' h2 k' h3 h4 => mj j' h2 ⟨by omega, k', h3, h4⟩, fun k' h3 h4 => mk k' h3 ⟨by omega, h4⟩⟩
theorem Fst_un {n : Nat} {bad : Nat → Nat → Nat → Prop} {i j k a b c : Nat} (h : Fst n bad i j k) (g : Fst n bad a b c) : i = a ∧ j = b ∧ k = c := by
  obtain ⟨⟨h1, h2, h3, h4⟩, h5, h6, h7⟩ := h
  obtain ⟨⟨g1, g2, g3, g4⟩, g5, g6, g7⟩ := g
  have e1 : i = a := by
    rcases Nat.lt_trichotomy i a with e | e | e
    · exact (g5 i e j h2 k h3 h4).elim
    · exact e
    · exact (h5 a e b g2 c g3 g4).elim
  subst e1
  have e2 : j = b := by
    rcases Nat.lt_trichotomy j b with e | e | e
    · exact (g6 j e k h3 h4).elim
    · exact e
    · exact (h6 b e c g3 g4).elim
  subst e2
  have e3 : k = c := by
    rcases Nat.lt_trichotomy k c with e | e | e
    · exact (g7 k e h4).elim
    · exact e
    · exact (h7 c e g4).elim
  exact ⟨rfl, rfl, e3⟩
/-- associativity at i, j, k -/
def Aso (p : Int) (n : Nat) (f : By) (i j k : Nat) : Prop :=
  vec 8 p (prd n f 10 (sh f (10 + i * 64 + j * 8)) (bas k)) = vec 8 p (prd n f 10 (bas i) (sh f (10 + j * 64 + k * 8)))
def Uni (p : Int) (n : Nat) (f : By) (i : Nat) : Prop :=
  vec 8 p (prd n f 10 (sh f 2) (bas i)) = bas i ∧ vec 8 p (prd n f 10 (bas i) (sh f 2)) = bas i
def AShp (p n : Int) (f : By) : Prop := Shp p n ∧ Vec p n f 2 ∧ Tab p n f 10
def Alg (p n : Int) (f : By) : Prop := AShp p n f ∧ (∀ i : Nat, (i : Int) < n → Uni p n.toNat f i) ∧ ∀ i j k : Nat, i < n.toNat → j < n.toNat → k < n.toNat → Aso p n.toNat f i j k

theorem i_Algebra_fault_t_ok (B : Bs P ρ) (E : E_i_Algebra_fault P ρ) {n : Nat} {p : Int} {f : By} (hp : 1 ≤ p) (hp2 : p ≤ 256) (hn : n ≤ 8) (hA : ∀ i j k : Nat, i < n → j < n → k < n → Aso p n f i j k) :
    CallOK P ρ 105 [.pt 0 0] [⟨true, .by [p, (n : Int)] 522 f⟩] (.one .sn) [⟨true, .by [p, (n : Int)] 522 f⟩] := by
  refine call_of_vc B.fn B.mo E.1 rfl rfl ?_
  refine .inl ⟨(fun a0 a3 a11 b0 i0 => St.mk [(0, a0), (3, a3), (11, a11), (12, .one (.i .i64 ((i0 : Nat) : Int)))] [b0]) _ _ _ _ , fun i0 => True, n, trivial, ⟨⟨rfl, rfl, rfl, rfl, trivial⟩, ⟨rfl, trivial⟩, rfl⟩, fun i0 hi0 _ => ?_⟩
  refine ⟨fun h13 => ?_, fun h13 => ?_⟩
  · replace h13 := of_decide_eq_true h13
    refine .inl ⟨(fun a0 a3 a4 a11 a12 a15 b0 i1 => St.mk [(0, a0), (3, a3), (4, a4), (11, a11), (12, a12), (15, a15), (16, .one (.i .i64 ((i1 : Nat) : Int)))] [b0]) _ _ _ _ _ _ _ , fun i1 => True, n, trivial, ⟨⟨rfl, rfl, rfl, rfl, rfl, rfl, rfl, trivial⟩, ⟨rfl, trivial⟩, rfl⟩, fun i1 hi1 _ => ?_⟩
    refine ⟨fun h17 => ?_, fun h17 => ?_⟩
    · replace h17 := of_decide_eq_true h17
      refine .inl ⟨(fun a0 a3 a4 a5 a11 a12 a15 a16 a19 b0 i2 => St.mk [(0, a0), (3, a3), (4, a4), (5, a5), (11, a11), (12, a12), (15, a15), (16, a16), (19, a19), (20, .one (.i .i64 ((i2 : Nat) : Int)))] [b0]) _ _ _ _ _ _ _ _ _ _ , fun i2 => True, n, trivial, ⟨⟨rfl, rfl, rfl, rfl, rfl, rfl, rfl, rfl, rfl, rfl, trivial⟩, ⟨rfl, trivial⟩, rfl⟩, fun i2 hi2 _ => ?_⟩
      refine ⟨fun h21 => ?_, fun h21 => ?_⟩
      · replace h21 := of_decide_eq_true h21
        refine ⟨i0, 10 + i0 * 64, rfl, by omega, by omega, ?_⟩
        refine ⟨i1, 10 + i0 * 64 + i1 * 8, rfl, by omega, rfl, ?_⟩
        refine ⟨⟨by first | omega | (simp <;> omega), by first | omega | (simp <;> omega)⟩, ?_⟩
        refine ⟨1, [], _, _, _, _, [_], rfl, i_basis_ok B E.2.1 (i := i2) (by omega), rfl, trivial, rfl, rfl, rfl, ?_⟩
        refine ⟨1, [0], _, _, _, _, [_], rfl, i_Algebra_product_ok B E.2.2 hp hp2 hn, rfl, ⟨⟨_, rfl, fun h => by first | rfl | cases h⟩, trivial⟩, rfl, rfl, rfl, ?_⟩
        refine ⟨1, [], _, _, _, _, [_], rfl, i_basis_ok B E.2.1 (i := i0) (by omega), rfl, trivial, rfl, rfl, rfl, ?_⟩
        refine ⟨i1, 10 + i1 * 64, rfl, by omega, by omega, ?_⟩
        refine ⟨i2, 10 + i1 * 64 + i2 * 8, rfl, by omega, rfl, ?_⟩
        refine ⟨⟨by first | omega | (simp <;> omega), by first | omega | (simp <;> omega)⟩, ?_⟩
        refine .inl ⟨1, [0], _, _, _, _, [_], rfl, i_Algebra_product_ok B E.2.2 hp hp2 hn, rfl, ⟨⟨_, rfl, fun h => by first | rfl | cases h⟩, trivial⟩, rfl, rfl, ?_⟩
        refine ⟨fun h47 => ?_, fun h47 => ?_⟩
        · skip
          have q := hA i0 i1 i2 (by omega) (by omega) (by omega)
          exact (neB_t h47 fun x _ => congrFun q x).elim
          skip
        · skip
          refine ⟨((i2 + 1 : Nat) : Int), w64_id _ (by omega) (by omega), ?_⟩
          exact ⟨by omega, trivial, ⟨rfl, rfl, rfl, rfl, rfl, rfl, rfl, rfl, rfl, rfl, trivial⟩, ⟨rfl, trivial⟩, rfl⟩
      · replace h21 := of_decide_eq_false h21
        have e2 : n = i2 := by omega
        subst e2
        refine ⟨((i1 + 1 : Nat) : Int), w64_id _ (by omega) (by omega), ?_⟩
        exact ⟨by omega, trivial, ⟨rfl, rfl, rfl, rfl, rfl, rfl, rfl, trivial⟩, ⟨rfl, trivial⟩, rfl⟩
    · replace h17 := of_decide_eq_false h17
      have e1 : n = i1 := by omega
      subst e1
      refine ⟨((i0 + 1 : Nat) : Int), w64_id _ (by omega) (by omega), ?_⟩
      exact ⟨by omega, trivial, ⟨rfl, rfl, rfl, rfl, trivial⟩, ⟨rfl, trivial⟩, rfl⟩
  · replace h13 := of_decide_eq_false h13
    have e0 : n = i0 := by omega
    subst e0
    exact ⟨rfl, [], rfl, rfl, ⟨rfl, trivial⟩, rfl, rfl⟩

theorem i_Algebra_fault_f_ok (B : Bs P ρ) (E : E_i_Algebra_fault P ρ) {n : Nat} {p : Int} {f : By} {a b c : Nat} (hp : 1 ≤ p) (hp2 : p ≤ 256) (hn : n ≤ 8) (hA : Fst n (fun i j k => ¬ Aso p n f i j k) a b c) :
    CallOK P ρ 105 [.pt 0 0] [⟨true, .by [p, (n : Int)] 522 f⟩] (.one (.sl 1 0 3 3)) [⟨true, .by [p, (n : Int)] 522 f⟩, ⟨false, .rw [.i .i64 (a : Int), .i .i64 (b : Int), .i .i64 (c : Int)]⟩] := by
  refine call_of_vc B.fn B.mo E.1 rfl rfl ?_
  refine .inl ⟨(fun a0 a3 a11 b0 i0 => St.mk [(0, a0), (3, a3), (11, a11), (12, .one (.i .i64 ((i0 : Nat) : Int)))] [b0]) _ _ _ _ , fun i0 => ∀ i, i < i0 → ∀ j, j < n → ∀ k, k < n → Aso p n f i j k, n, fun _ _ => by omega, ⟨⟨rfl, rfl, rfl, rfl, trivial⟩, ⟨rfl, trivial⟩, rfl⟩, fun i0 hi0 hF0 => ?_⟩
  refine ⟨fun h13 => ?_, fun h13 => ?_⟩
  · replace h13 := of_decide_eq_true h13
    refine .inl ⟨(fun a0 a3 a4 a11 a12 a15 b0 i1 => St.mk [(0, a0), (3, a3), (4, a4), (11, a11), (12, a12), (15, a15), (16, .one (.i .i64 ((i1 : Nat) : Int)))] [b0]) _ _ _ _ _ _ _ , fun i1 => ∀ j, j < i1 → ∀ k, k < n → Aso p n f i0 j k, n, fun _ _ => by omega, ⟨⟨rfl, rfl, rfl, rfl, rfl, rfl, rfl, trivial⟩, ⟨rfl, trivial⟩, rfl⟩, fun i1 hi1 hF1 => ?_⟩
    refine ⟨fun h17 => ?_, fun h17 => ?_⟩
    · replace h17 := of_decide_eq_true h17
      refine .inl ⟨(fun a0 a3 a4 a5 a11 a12 a15 a16 a19 b0 i2 => St.mk [(0, a0), (3, a3), (4, a4), (5, a5), (11, a11), (12, a12), (15, a15), (16, a16), (19, a19), (20, .one (.i .i64 ((i2 : Nat) : Int)))] [b0]) _ _ _ _ _ _ _ _ _ _ , fun i2 => ∀ k, k < i2 → Aso p n f i0 i1 k, n, fun _ _ => by omega, ⟨⟨rfl, rfl, rfl, rfl, rfl, rfl, rfl, rfl, rfl, rfl, trivial⟩, ⟨rfl, trivial⟩, rfl⟩, fun i2 hi2 hF2 => ?_⟩
      refine ⟨fun h21 => ?_, fun h21 => ?_⟩
      · replace h21 := of_decide_eq_true h21
        refine ⟨i0, 10 + i0 * 64, rfl, by omega, by omega, ?_⟩
        refine ⟨i1, 10 + i0 * 64 + i1 * 8, rfl, by omega, rfl, ?_⟩
        refine ⟨⟨by first | omega | (simp <;> omega), by first | omega | (simp <;> omega)⟩, ?_⟩
        refine ⟨1, [], _, _, _, _, [_], rfl, i_basis_ok B E.2.1 (i := i2) (by omega), rfl, trivial, rfl, rfl, rfl, ?_⟩
        refine ⟨1, [0], _, _, _, _, [_], rfl, i_Algebra_product_ok B E.2.2 hp hp2 hn, rfl, ⟨⟨_, rfl, fun h => by first | rfl | cases h⟩, trivial⟩, rfl, rfl, rfl, ?_⟩
        refine ⟨1, [], _, _, _, _, [_], rfl, i_basis_ok B E.2.1 (i := i0) (by omega), rfl, trivial, rfl, rfl, rfl, ?_⟩
        refine ⟨i1, 10 + i1 * 64, rfl, by omega, by omega, ?_⟩
        refine ⟨i2, 10 + i1 * 64 + i2 * 8, rfl, by omega, rfl, ?_⟩
        refine ⟨⟨by first | omega | (simp <;> omega), by first | omega | (simp <;> omega)⟩, ?_⟩
        refine .inl ⟨1, [0], _, _, _, _, [_], rfl, i_Algebra_product_ok B E.2.2 hp hp2 hn, rfl, ⟨⟨_, rfl, fun h => by first | rfl | cases h⟩, trivial⟩, rfl, rfl, ?_⟩
        refine ⟨fun h47 => ?_, fun h47 => ?_⟩
        · skip
          have q : ¬ Aso p n f i0 i1 i2 := fun q => neB_t h47 fun x _ => congrFun q x
          have q2 : Fst n (fun i j k => ¬ Aso p n f i j k) i0 i1 i2 := ⟨⟨by omega, by omega, by omega, q⟩, fun i h1 j h2 k h3 => Classical.not_not.2 (hF0 i h1 j h2 k h3), fun j h2 k h3 => Classical.not_not.2 (hF1 j h2 k h3), fun k h3 => Classical.not_not.2 (hF2 k h3)⟩
          have q3 := Fst_un hA q2
          refine ⟨1, rfl, ?_⟩
          refine ⟨rfl, [1], rfl, rfl, ⟨rfl, ?_, trivial⟩, rfl, rfl⟩
          show some (Blk.mk false (.rw [.i .i64 (i0 : Int), .i .i64 (i1 : Int), .i .i64 (i2 : Int)])) = some (Blk.mk false (.rw [.i .i64 (a : Int), .i .i64 (b : Int), .i .i64 (c : Int)]))
          rw [q3.1, q3.2.1, q3.2.2]
        · skip
          have q : Aso p n f i0 i1 i2 := vec_ext (fun x hx => vec_out hx) (neB_f h47)
          refine ⟨((i2 + 1 : Nat) : Int), w64_id _ (by omega) (by omega), ?_⟩
          refine ⟨by omega, ?_, ⟨rfl, rfl, rfl, rfl, rfl, rfl, rfl, rfl, rfl, rfl, trivial⟩, ⟨rfl, trivial⟩, rfl⟩
          intro k hk
          by_cases e : k = i2
          · subst e; exact q
          · exact hF2 k (by omega)
      · replace h21 := of_decide_eq_false h21
        have e2 : n = i2 := by omega
        subst e2
        refine ⟨((i1 + 1 : Nat) : Int), w64_id _ (by omega) (by omega), ?_⟩
        refine ⟨by omega, ?_, ⟨rfl, rfl, rfl, rfl, rfl, rfl, rfl, trivial⟩, ⟨rfl, trivial⟩, rfl⟩
        intro j hj k hk
        by_cases e : j = i1
        · subst e; exact hF2 k hk
        · exact hF1 j (by omega) k hk
    · replace h17 := of_decide_eq_false h17
      have e1 : n = i1 := by omega
      subst e1
      refine ⟨((i0 + 1 : Nat) : Int), w64_id _ (by omega) (by omega), ?_⟩
      refine ⟨by omega, ?_, ⟨rfl, rfl, rfl, rfl, trivial⟩, ⟨rfl, trivial⟩, rfl⟩
      intro i hi j hj k hk
      by_cases e : i = i0
      · subst e; exact hF1 j hj k hk
      · exact hF0 i (by omega) j hj k hk
  · replace h13 := of_decide_eq_false h13
    have e0 : n = i0 := by omega
    subst e0
    exact (hA.1.2.2.2 (hF0 a hA.1.1 b hA.1.2.1 c hA.1.2.2.1)).elim

end Hf
namespace Hf
open Go Classical
variable {P : Program} {ρ : Nat → FuncId}
theorem AShp.p1 {p n : Int} {f : By} (h : AShp p n f) : 1 ≤ p ∧ p ≤ 31 ∧ 1 ≤ n ∧ n ≤ 8 := ⟨by have := h.1.1.1; omega, h.1.1.2.1, h.1.2.1, h.1.2.2⟩

theorem i_IsAlgebra_s_ok (B : Bs P ρ) (E : E_i_IsAlgebra P ρ) {n : Int} {p : Int} {f : By} (hS : ¬ AShp p n f) :
    CallOK P ρ 103 [.ag [p, n] 522 f] [] (.one (.b false)) [] := by
  refine call_of_vc B.fn B.mo E.1 rfl rfl ?_
  refine ⟨0, rfl, ?_⟩
  refine .inl ⟨1, [0], _, _, _, _, [_], rfl, i_Algebra_isShaped_ok B E.2.1 , rfl, ⟨⟨_, rfl, fun h => by first | rfl | cases h⟩, trivial⟩, rfl, rfl, ?_⟩
  refine ⟨fun h6 => ?_, fun h6 => ?_⟩
  · skip
    exact ⟨rfl, [], rfl, rfl, trivial, rfl, rfl⟩
  · skip
    have q : Shp p n ∧ Vec p n f 2 ∧ Tab p n f 10 := dec_elim_t (not_f h6)
    exact (hS q).elim

theorem i_IsAlgebra_t_ok (B : Bs P ρ) (E : E_i_IsAlgebra P ρ) {n : Nat} {p : Int} {f : By} (hS : AShp p n f) (hA : ∀ i j k : Nat, i < n → j < n → k < n → Aso p n f i j k) :
    CallOK P ρ 103 [.ag [p, (n : Int)] 522 f] [] (.one (.b (decide (∀ i, i < n → Uni p n f i)))) [] := by
  refine call_of_vc B.fn B.mo E.1 rfl rfl ?_
  refine ⟨0, rfl, ?_⟩
  refine .inl ⟨1, [0], _, _, _, _, [_], rfl, i_Algebra_isShaped_ok B E.2.1 , rfl, ⟨⟨_, rfl, fun h => by first | rfl | cases h⟩, trivial⟩, rfl, rfl, ?_⟩
  refine ⟨fun h6 => ?_, fun h6 => ?_⟩
  · skip
    have q : ¬ (Shp p n ∧ Vec p n f 2 ∧ Tab p n f 10) := dec_elim_t' (not_t h6)
    exact (q hS).elim
  · skip
    have hb := hS.p1
    refine .inl ⟨(fun a8 b0 i0 => St.mk [(1, .one (.pt 0 0)), (8, a8), (9, .one (.i .i64 ((i0 : Nat) : Int)))] [b0]) _ _ , fun i0 => ∀ i, i < i0 → Uni p n f i, n, fun _ _ => by omega, ⟨⟨rfl, rfl, rfl, trivial⟩, ⟨rfl, trivial⟩, rfl⟩, fun i0 hi0 hF0 => ?_⟩
    refine ⟨fun h10 => ?_, fun h10 => ?_⟩
    · replace h10 := of_decide_eq_true h10
      refine .inl ⟨1, [], _, _, _, _, [_], rfl, i_basis_ok B E.2.2.1 (i := i0) (by omega), rfl, trivial, rfl, rfl, ?_⟩
      refine ⟨1, rfl, ?_⟩
      refine ⟨⟨rfl, by first | omega | (simp <;> omega), by first | omega | (simp <;> omega)⟩, ?_⟩   -- sta ['.t', 4] ['.t', 13] 8
      refine ⟨⟨by first | omega | (simp <;> omega), by first | omega | (simp <;> omega)⟩, ?_⟩
      refine ⟨⟨by first | omega | (simp <;> omega), by first | omega | (simp <;> omega)⟩, ?_⟩
      refine ⟨2, [0], _, _, _, _, [_, _], rfl, i_Algebra_product_ok B E.2.2.2.1 (by omega) (by omega) (by omega), rfl, ⟨⟨_, rfl, fun h => by first | rfl | cases h⟩, trivial⟩, rfl, rfl, rfl, ?_⟩
      refine ⟨⟨by first | omega | (simp <;> omega), by first | omega | (simp <;> omega)⟩, ?_⟩
      refine ⟨fun h20 => ?_, fun h20 => ?_⟩
      · skip
        have z20 := neB_t h20
        rw [bas_cp (by omega)] at z20
        refine brB_t ?_
        refine brB_t ?_
        refine brB_t ?_
        refine brB_t ?_
        refine brB_t ?_
        refine brB_t ?_
        refine brB_t ?_
        refine ⟨rfl, [], ?_, rfl, trivial, rfl, rfl⟩
        exact one_b (dec_f fun q => z20 fun x _ => congrFun (q i0 (by omega)).1 x)
      · skip
        have z20 := neB_f h20
        rw [bas_cp (by omega)] at z20
        refine ⟨⟨by first | omega | (simp <;> omega), by first | omega | (simp <;> omega)⟩, ?_⟩
        refine brB_f ?_
        refine brB_f ?_
        refine ⟨⟨by first | omega | (simp <;> omega), by first | omega | (simp <;> omega)⟩, ?_⟩
        refine brB_f ?_
        refine ⟨2, [0], _, _, _, _, [_, _], rfl, i_Algebra_product_ok B E.2.2.2.1 (by omega) (by omega) (by omega), rfl, ⟨⟨_, rfl, fun h => by first | rfl | cases h⟩, trivial⟩, rfl, rfl, rfl, ?_⟩
        refine brB_f ?_
        refine ⟨⟨by first | omega | (simp <;> omega), by first | omega | (simp <;> omega)⟩, ?_⟩
        refine brB_f ?_
        refine brB_f ?_
        refine ⟨fun h27 => ?_, fun h27 => ?_⟩
        · skip
          have z27 := neB_t h27
          rw [bas_cp (by omega)] at z27
          refine ⟨rfl, [], ?_, rfl, trivial, rfl, rfl⟩
          exact one_b (dec_f fun q => z27 fun x _ => congrFun (q i0 (by omega)).2 x)
        · skip
          have z27 := neB_f h27
          rw [bas_cp (by omega)] at z27
          refine ⟨((i0 + 1 : Nat) : Int), w64_id _ (by omega) (by omega), ?_⟩
          refine ⟨by omega, ?_, ⟨rfl, rfl, rfl, trivial⟩, ⟨rfl, trivial⟩, rfl⟩
          intro k hk
          by_cases e : k = i0
          · subst e
            exact ⟨vec_ext (bas_out (by omega)) z20, vec_ext (bas_out (by omega)) z27⟩
          · exact hF0 k (by omega)
    · replace h10 := of_decide_eq_false h10
      have e0 : n = i0 := by omega
      subst e0
      refine .inl ⟨1, [0], _, _, _, _, [_], rfl, i_Algebra_fault_t_ok B E.2.2.2.2 (by omega) (by omega) (by omega) hA, rfl, ⟨⟨_, rfl, fun h => by first | rfl | cases h⟩, trivial⟩, rfl, rfl, ?_⟩
      refine ⟨rfl, [], ?_, rfl, trivial, rfl, rfl⟩
      exact one_b (dec_t hF0)

theorem i_IsAlgebra_f_ok (B : Bs P ρ) (E : E_i_IsAlgebra P ρ) {n : Nat} {p : Int} {f : By} {a b c : Nat} (hS : AShp p n f) (hA : Fst n (fun i j k => ¬ Aso p n f i j k) a b c) :
    CallOK P ρ 103 [.ag [p, (n : Int)] 522 f] [] (.one (.b false)) [] := by
  refine call_of_vc B.fn B.mo E.1 rfl rfl ?_
  refine ⟨0, rfl, ?_⟩
  refine .inl ⟨1, [0], _, _, _, _, [_], rfl, i_Algebra_isShaped_ok B E.2.1 , rfl, ⟨⟨_, rfl, fun h => by first | rfl | cases h⟩, trivial⟩, rfl, rfl, ?_⟩
  refine ⟨fun h6 => ?_, fun h6 => ?_⟩
  · skip
    have q : ¬ (Shp p n ∧ Vec p n f 2 ∧ Tab p n f 10) := dec_elim_t' (not_t h6)
    exact (q hS).elim
  · skip
    have hb := hS.p1
    refine .inl ⟨(fun a8 b0 i0 => St.mk [(1, .one (.pt 0 0)), (8, a8), (9, .one (.i .i64 ((i0 : Nat) : Int)))] [b0]) _ _ , fun i0 => True, n, trivial, ⟨⟨rfl, rfl, rfl, trivial⟩, ⟨rfl, trivial⟩, rfl⟩, fun i0 hi0 _ => ?_⟩
    refine ⟨fun h10 => ?_, fun h10 => ?_⟩
    · replace h10 := of_decide_eq_true h10
      refine .inl ⟨1, [], _, _, _, _, [_], rfl, i_basis_ok B E.2.2.1 (i := i0) (by omega), rfl, trivial, rfl, rfl, ?_⟩
      refine ⟨1, rfl, ?_⟩
      refine ⟨⟨rfl, by first | omega | (simp <;> omega), by first | omega | (simp <;> omega)⟩, ?_⟩   -- sta ['.t', 4] ['.t', 13] 8
      refine ⟨⟨by first | omega | (simp <;> omega), by first | omega | (simp <;> omega)⟩, ?_⟩
      refine ⟨⟨by first | omega | (simp <;> omega), by first | omega | (simp <;> omega)⟩, ?_⟩
      refine ⟨2, [0], _, _, _, _, [_, _], rfl, i_Algebra_product_ok B E.2.2.2.1 (by omega) (by omega) (by omega), rfl, ⟨⟨_, rfl, fun h => by first | rfl | cases h⟩, trivial⟩, rfl, rfl, rfl, ?_⟩
      refine ⟨⟨by first | omega | (simp <;> omega), by first | omega | (simp <;> omega)⟩, ?_⟩
      refine ⟨fun h20 => ?_, fun h20 => ?_⟩
      · skip
        refine brB_t ?_
        refine brB_t ?_
        refine brB_t ?_
        refine brB_t ?_
        refine brB_t ?_
        refine brB_t ?_
        refine brB_t ?_
        exact ⟨rfl, [], rfl, rfl, trivial, rfl, rfl⟩
      · skip
        refine ⟨⟨by first | omega | (simp <;> omega), by first | omega | (simp <;> omega)⟩, ?_⟩
        refine brB_f ?_
        refine brB_f ?_
        refine ⟨⟨by first | omega | (simp <;> omega), by first | omega | (simp <;> omega)⟩, ?_⟩
        refine brB_f ?_
        refine ⟨2, [0], _, _, _, _, [_, _], rfl, i_Algebra_product_ok B E.2.2.2.1 (by omega) (by omega) (by omega), rfl, ⟨⟨_, rfl, fun h => by first | rfl | cases h⟩, trivial⟩, rfl, rfl, rfl, ?_⟩
        refine brB_f ?_
        refine ⟨⟨by first | omega | (simp <;> omega), by first | omega | (simp <;> omega)⟩, ?_⟩
        refine brB_f ?_
        refine brB_f ?_
        refine ⟨fun h27 => ?_, fun h27 => ?_⟩
        · skip
          exact ⟨rfl, [], rfl, rfl, trivial, rfl, rfl⟩
        · skip
          refine ⟨((i0 + 1 : Nat) : Int), w64_id _ (by omega) (by omega), ?_⟩
          exact ⟨by omega, trivial, ⟨rfl, rfl, rfl, trivial⟩, ⟨rfl, trivial⟩, rfl⟩
    · replace h10 := of_decide_eq_false h10
      have e0 : n = i0 := by omega
      subst e0
      refine .inl ⟨1, [0], _, _, _, _, [_, _], rfl, i_Algebra_fault_f_ok B E.2.2.2.2 (by omega) (by omega) (by omega) hA, rfl, ⟨⟨_, rfl, fun h => by first | rfl | cases h⟩, trivial⟩, rfl, rfl, ?_⟩
      exact ⟨rfl, [], rfl, rfl, trivial, rfl, rfl⟩

theorem i_IsAlgebra_ok (B : Bs P ρ) (E : E_i_IsAlgebra P ρ) {n : Int} {p : Int} {f : By} :
    CallOK P ρ 103 [.ag [p, n] 522 f] [] (.one (.b (decide (Alg p n f)))) [] := by
  by_cases hS : AShp p n f
  · obtain ⟨m, rfl⟩ : ∃ m : Nat, n = (m : Int) := ⟨n.toNat, by have := hS.1.2.1; omega⟩
    by_cases hA : ∀ i j k : Nat, i < m → j < m → k < m → Aso p m f i j k
    · have e : decide (Alg p m f) = decide (∀ i, i < m → Uni p m f i) :=
        decide_eq_decide.2 ⟨fun q i hi => q.2.1 i (by omega), fun q => ⟨hS, fun i hi => q i (by omega), hA⟩⟩
      rw [e]; exact i_IsAlgebra_t_ok B E hS hA
    · have hA' := hA
      rw [decide_eq_false fun q : Alg p m f => hA q.2.2]
      obtain ⟨a, b, c, h⟩ := Fst_ex (n := m) (bad := fun i j k => ¬ Aso p m f i j k) (fun q => hA fun i j k h1 h2 h3 => Classical.not_not.1 (q i j k h1 h2 h3))
      exact i_IsAlgebra_f_ok B E hS h
  · rw [decide_eq_false fun q : Alg p n f => hS q.1]
    exact i_IsAlgebra_s_ok B E hS
end Hf
namespace Hf
open Go Classical
variable {P : Program} {ρ : Nat → FuncId}
theorem qd {a b : Nat} (h : a ≤ 4611686018427387904) : w64 ((a : Int).tdiv (b : Int)) = ((a / b : Nat) : Int) := by
  have : (a : Int).tdiv (b : Int) = ((a / b : Nat) : Int) := rfl
  rw [this]
  have := Nat.div_le_self a b
  generalize a / b = q at *
  exact w64_id _ (by omega) (by omega)
theorem rm {a b : Nat} : (a : Int).tmod (b : Int) = ((a % b : Nat) : Int) := rfl
theorem ml {a b : Nat} (h : a * b ≤ 4611686018427387904) : w64 ((a : Int) * (b : Int)) = ((a * b : Nat) : Int) := by
  rw [← Int.natCast_mul]; exact w64_id _ (by omega) (by omega)
theorem pw {n : Nat} (h : n ≤ 8) : n * n ≤ 64 ∧ n * n * n ≤ 512 ∧ n * n * n * n ≤ 4096 := by
  have h1 : n * n ≤ 8 * 8 := Nat.mul_le_mul h h
  have h2 : n * n * n ≤ 64 * 8 := Nat.mul_le_mul h1 h
  have h3 : n * n * n * n ≤ 512 * 8 := Nat.mul_le_mul h2 h
  omega
theorem dig {n t : Nat} (h : t < n * n * n * n) : 0 < n ∧ t / (n * n * n) < n ∧ t / (n * n) % n < n ∧ t / n % n < n ∧ t % n < n := by
  have h0 : 0 < n := by
    rcases Nat.eq_zero_or_pos n with e | e
    · subst e; simp at h
    · exact e
  exact ⟨h0, Nat.div_lt_of_lt_mul h, Nat.mod_lt _ h0, Nat.mod_lt _ h0, Nat.mod_lt _ h0⟩
def coL (m : Nat) (f : By) (i j k l : Nat) : Int := sm m fun a => bz f (10 + i * 64 + a * 8 + l) * bz f (10 + a * 64 + j * 8 + k)
def coR (m : Nat) (f : By) (i j k l : Nat) : Int := sm m fun a => bz f (10 + i * 64 + j * 8 + a) * bz f (10 + a * 64 + k * 8 + l)
/-- coassociativity at i, j, k, l -/
def Coa (p : Int) (n : Nat) (f : By) (i j k l : Nat) : Prop := coL n f i j k l % p = coR n f i j k l % p
def CoaT (p : Int) (n : Nat) (f : By) (t : Nat) : Prop := Coa p n f (t / (n * n * n)) (t / (n * n) % n) (t / n % n) (t % n)
theorem coL_bd {m : Nat} {f : By} {i j k l : Nat} : 0 ≤ coL m f i j k l ∧ coL m f i j k l ≤ m * 65025 := sm_bd fun a _ => bz2 f f _ _
theorem coR_bd {m : Nat} {f : By} {i j k l : Nat} : 0 ≤ coR m f i j k l ∧ coR m f i j k l ≤ m * 65025 := sm_bd fun a _ => bz2 f f _ _
/-- the counit at i -/
def cuL (n : Nat) (f : By) (i x : Nat) : Int := sm n fun j => bz f (2 + j) * bz f (10 + i * 64 + j * 8 + x)
def cuR (n : Nat) (f : By) (i j : Nat) : Int := sm n fun k => bz f (2 + k) * bz f (10 + i * 64 + j * 8 + k)
def Cou (p : Int) (n : Nat) (f : By) (i : Nat) : Prop := vec 8 p (cuL n f i) = bas i ∧ vec n p (cuR n f i) = bas i
def CShp (p n : Int) (f : By) : Prop := Shp p n ∧ Vec p n f 2 ∧ Tab p n f 10
def Cog (p n : Int) (f : By) : Prop := CShp p n f ∧ (∀ i : Nat, i < n.toNat → Cou p n.toNat f i) ∧ ∀ t : Nat, t < n.toNat * n.toNat * n.toNat * n.toNat → CoaT p n.toNat f t
theorem upd_vec {p : Int} {X : Nat → Int} {a : Nat} {v : UInt8} (h : v = byt (X a % p)) : upd (vec a p X) a v = vec (a + 1) p X := by
  funext x
  simp only [upd, vec]
  by_cases e : x = a
  · subst e; rw [if_pos rfl, if_pos (by omega), h]
  · rw [if_neg e]
    by_cases h2 : x < a
    · rw [if_pos h2, if_pos (by omega)]
    · rw [if_neg h2, if_neg (by omega)]
theorem i_Coalgebra_isFault_ok (B : Bs P ρ) (E : E_i_Coalgebra_isFault P ρ) {n : Nat} {p : Int} {f : By} {i j k l : Nat} (hp : 1 ≤ p) (hp2 : p ≤ 256) (hn : n ≤ 8) (hi : i < 8) (hj : j < 8) (hk : k < 8) (hl : l < 8) :
    CallOK P ρ 119 [.pt 0 0, .i .i64 (i : Int), .i .i64 (j : Int), .i .i64 (k : Int), .i .i64 (l : Int)] [⟨true, .by [p, (n : Int)] 522 f⟩] (.one (.b (decide (¬ Coa p n f i j k l)))) [⟨true, .by [p, (n : Int)] 522 f⟩] := by
  refine call_of_vc B.fn B.mo E.1 rfl rfl ?_
  refine .inl ⟨1, [0], _, _, _, _, [_], rfl, i_Coalgebra_field_ok B E.2 , rfl, ⟨⟨_, rfl, fun h => by first | rfl | cases h⟩, trivial⟩, rfl, rfl, ?_⟩
  refine ⟨1, rfl, ?_⟩
  refine .inl ⟨(fun a0 a1 a2 a3 a4 a18 b0 b1 i0 => St.mk [(0, a0), (1, a1), (2, a2), (3, a3), (4, a4), (11, .one (.pt 1 0)), (12, .one (.i .i64 (coL i0 f i j k l))), (13, .one (.i .i64 (coR i0 f i j k l))), (18, a18), (19, .one (.i .i64 ((i0 : Nat) : Int)))] [b0, b1]) _ _ _ _ _ _ _ _ , fun i0 => True, n, trivial, ⟨⟨rfl, rfl, rfl, rfl, rfl, rfl, rfl, rfl, rfl, rfl, trivial⟩, ⟨rfl, rfl, trivial⟩, rfl⟩, fun i0 hi0 _ => ?_⟩
  refine ⟨fun h20 => ?_, fun h20 => ?_⟩
  · replace h20 := of_decide_eq_true h20
    have q1 := bz2 f f (10 + i * 64 + i0 * 8 + l) (10 + i0 * 64 + j * 8 + k)
    have q2 := bz2 f f (10 + i * 64 + j * 8 + i0) (10 + i0 * 64 + k * 8 + l)
    have q3 := coL_bd (m := i0) (f := f) (i := i) (j := j) (k := k) (l := l)
    have q4 := coR_bd (m := i0) (f := f) (i := i) (j := j) (k := k) (l := l)
    refine ⟨i, 10 + i * 64, rfl, by omega, by omega, ?_⟩
    refine ⟨i0, 10 + i * 64 + i0 * 8, rfl, by omega, by omega, ?_⟩
    refine ⟨l, 10 + i * 64 + i0 * 8 + l, rfl, by omega, by omega, ?_⟩
    refine ⟨⟨by first | omega | (simp <;> omega), by first | omega | (simp <;> omega)⟩, ?_⟩
    refine ⟨i0, 10 + i0 * 64, rfl, by omega, by omega, ?_⟩
    refine ⟨j, 10 + i0 * 64 + j * 8, rfl, by omega, by omega, ?_⟩
    refine ⟨k, 10 + i0 * 64 + j * 8 + k, rfl, by omega, by omega, ?_⟩
    refine ⟨⟨by first | omega | (simp <;> omega), by first | omega | (simp <;> omega)⟩, ?_⟩
    refine ⟨bz f (10 + i * 64 + i0 * 8 + l) * bz f (10 + i0 * 64 + j * 8 + k), w64_id (bz f (10 + i * 64 + i0 * 8 + l) * bz f (10 + i0 * 64 + j * 8 + k)) (by omega) (by omega), ?_⟩
    refine ⟨coL i0 f i j k l + bz f (10 + i * 64 + i0 * 8 + l) * bz f (10 + i0 * 64 + j * 8 + k), w64_id (coL i0 f i j k l + bz f (10 + i * 64 + i0 * 8 + l) * bz f (10 + i0 * 64 + j * 8 + k)) (by omega) (by omega), ?_⟩
    refine ⟨i, 10 + i * 64, rfl, by omega, by omega, ?_⟩
    refine ⟨j, 10 + i * 64 + j * 8, rfl, by omega, by omega, ?_⟩
    refine ⟨i0, 10 + i * 64 + j * 8 + i0, rfl, by omega, by omega, ?_⟩
    refine ⟨⟨by first | omega | (simp <;> omega), by first | omega | (simp <;> omega)⟩, ?_⟩
    refine ⟨i0, 10 + i0 * 64, rfl, by omega, by omega, ?_⟩
    refine ⟨k, 10 + i0 * 64 + k * 8, rfl, by omega, by omega, ?_⟩
    refine ⟨l, 10 + i0 * 64 + k * 8 + l, rfl, by omega, by omega, ?_⟩
    refine ⟨⟨by first | omega | (simp <;> omega), by first | omega | (simp <;> omega)⟩, ?_⟩
    refine ⟨bz f (10 + i * 64 + j * 8 + i0) * bz f (10 + i0 * 64 + k * 8 + l), w64_id (bz f (10 + i * 64 + j * 8 + i0) * bz f (10 + i0 * 64 + k * 8 + l)) (by omega) (by omega), ?_⟩
    refine ⟨coR i0 f i j k l + bz f (10 + i * 64 + j * 8 + i0) * bz f (10 + i0 * 64 + k * 8 + l), w64_id (coR i0 f i j k l + bz f (10 + i * 64 + j * 8 + i0) * bz f (10 + i0 * 64 + k * 8 + l)) (by omega) (by omega), ?_⟩
    refine ⟨((i0 + 1 : Nat) : Int), w64_id _ (by omega) (by omega), ?_⟩
    exact ⟨by omega, trivial, ⟨rfl, rfl, rfl, rfl, rfl, rfl, rfl, rfl, rfl, rfl, trivial⟩, ⟨rfl, rfl, trivial⟩, rfl⟩
  · replace h20 := of_decide_eq_false h20
    have e0 : n = i0 := by omega
    subst e0
    refine ⟨by first | omega | (simp <;> omega), _, rfl, ?_⟩
    refine ⟨by first | omega | (simp <;> omega), _, rfl, ?_⟩
    refine ⟨rfl, [], ?_, rfl, ⟨rfl, trivial⟩, rfl, rfl⟩
    refine one_b ?_
    rw [Int.tmod_eq_emod_of_nonneg coL_bd.1, Int.tmod_eq_emod_of_nonneg coR_bd.1]
    by_cases q : Coa p n f i j k l
    · rw [decide_eq_false (fun h => h q)]
      have : coL n f i j k l % p = coR n f i j k l % p := q
      simp [this]
    · rw [decide_eq_true q]
      have : ¬ coL n f i j k l % p = coR n f i j k l % p := q
      simp [this]

theorem i_Coalgebra_fault_t_ok (B : Bs P ρ) (E : E_i_Coalgebra_fault P ρ) {n : Nat} {p : Int} {f : By} (hp : 1 ≤ p) (hp2 : p ≤ 256) (hn : n ≤ 8) (hA : ∀ t : Nat, t < n * n * n * n → CoaT p n f t) :
    CallOK P ρ 108 [.pt 0 0] [⟨true, .by [p, (n : Int)] 522 f⟩] (.one .sn) [⟨true, .by [p, (n : Int)] 522 f⟩] := by
  refine call_of_vc B.fn B.mo E.1 rfl rfl ?_
  have hpw := pw hn
  refine ⟨((n * n : Nat) : Int), ml (by omega), ?_⟩
  refine ⟨((n * n * n : Nat) : Int), ml (by omega), ?_⟩
  refine ⟨((n * n * n * n : Nat) : Int), ml (by omega), ?_⟩
  refine .inl ⟨(fun a0 a3 a19 b0 i0 => St.mk [(0, a0), (3, a3), (19, a19), (20, .one (.i .i64 ((i0 : Nat) : Int)))] [b0]) _ _ _ _ , fun i0 => True, n * n * n * n, trivial, ⟨⟨rfl, rfl, rfl, rfl, trivial⟩, ⟨rfl, trivial⟩, rfl⟩, fun i0 hi0 _ => ?_⟩
  refine ⟨fun h21 => ?_, fun h21 => ?_⟩
  · replace h21 := of_decide_eq_true h21
    have hlt : i0 < n * n * n * n := by omega
    have hd := dig hlt
    refine ⟨((n * n : Nat) : Int), ml (by omega), ?_⟩
    refine ⟨((n * n * n : Nat) : Int), ml (by omega), ?_⟩
    refine ⟨by have : n * n * n ≠ 0 := Nat.ne_of_gt (Nat.mul_pos (Nat.mul_pos hd.1 hd.1) hd.1); omega, ((i0 / (n * n * n) : Nat) : Int), qd (by omega), ?_⟩
    refine ⟨((n * n : Nat) : Int), ml (by omega), ?_⟩
    refine ⟨by have : n * n ≠ 0 := Nat.ne_of_gt (Nat.mul_pos hd.1 hd.1); omega, ((i0 / (n * n) : Nat) : Int), qd (by omega), ?_⟩
    refine ⟨by omega, ((i0 / (n * n) % n : Nat) : Int), rm, ?_⟩
    refine ⟨by omega, ((i0 / n : Nat) : Int), qd (by omega), ?_⟩
    refine ⟨by omega, ((i0 / n % n : Nat) : Int), rm, ?_⟩
    refine ⟨by omega, ((i0 % n : Nat) : Int), rm, ?_⟩
    refine .inl ⟨1, [0], _, _, _, _, [_], rfl, i_Coalgebra_isFault_ok B E.2 hp hp2 hn (i := i0 / (n * n * n)) (j := i0 / (n * n) % n) (k := i0 / n % n) (l := i0 % n) (by omega) (by omega) (by omega) (by omega), rfl, ⟨⟨_, rfl, fun h => by first | rfl | cases h⟩, trivial⟩, rfl, rfl, ?_⟩
    refine ⟨fun h50 => ?_, fun h50 => ?_⟩
    · skip
      exact (dec_elim_t h50 (hA i0 hlt)).elim
    · skip
      refine ⟨((i0 + 1 : Nat) : Int), w64_id _ (by omega) (by omega), ?_⟩
      exact ⟨by omega, trivial, ⟨rfl, rfl, rfl, rfl, trivial⟩, ⟨rfl, trivial⟩, rfl⟩
  · replace h21 := of_decide_eq_false h21
    have e0 : n * n * n * n = i0 := by omega
    exact ⟨rfl, [], rfl, rfl, ⟨rfl, trivial⟩, rfl, rfl⟩

theorem i_Coalgebra_fault_f_ok (B : Bs P ρ) (E : E_i_Coalgebra_fault P ρ) {n : Nat} {p : Int} {f : By} {a : Nat} (hp : 1 ≤ p) (hp2 : p ≤ 256) (hn : n ≤ 8) (ha : a < n * n * n * n) (hA : ¬ CoaT p n f a) (hL : ∀ t, t < a → CoaT p n f t) :
    CallOK P ρ 108 [.pt 0 0] [⟨true, .by [p, (n : Int)] 522 f⟩] (.one (.sl 1 0 4 4)) [⟨true, .by [p, (n : Int)] 522 f⟩, ⟨false, .rw [.i .i64 ((a / (n * n * n) : Nat) : Int), .i .i64 ((a / (n * n) % n : Nat) : Int), .i .i64 ((a / n % n : Nat) : Int), .i .i64 ((a % n : Nat) : Int)]⟩] := by
  refine call_of_vc B.fn B.mo E.1 rfl rfl ?_
  have hpw := pw hn
  refine ⟨((n * n : Nat) : Int), ml (by omega), ?_⟩
  refine ⟨((n * n * n : Nat) : Int), ml (by omega), ?_⟩
  refine ⟨((n * n * n * n : Nat) : Int), ml (by omega), ?_⟩
  refine .inl ⟨(fun a0 a3 a19 b0 i0 => St.mk [(0, a0), (3, a3), (19, a19), (20, .one (.i .i64 ((i0 : Nat) : Int)))] [b0]) _ _ _ _ , fun i0 => ∀ t, t < i0 → CoaT p n f t, n * n * n * n, fun _ _ => by omega, ⟨⟨rfl, rfl, rfl, rfl, trivial⟩, ⟨rfl, trivial⟩, rfl⟩, fun i0 hi0 hF0 => ?_⟩
  refine ⟨fun h21 => ?_, fun h21 => ?_⟩
  · replace h21 := of_decide_eq_true h21
    have hlt : i0 < n * n * n * n := by omega
    have hd := dig hlt
    refine ⟨((n * n : Nat) : Int), ml (by omega), ?_⟩
    refine ⟨((n * n * n : Nat) : Int), ml (by omega), ?_⟩
    refine ⟨by have : n * n * n ≠ 0 := Nat.ne_of_gt (Nat.mul_pos (Nat.mul_pos hd.1 hd.1) hd.1); omega, ((i0 / (n * n * n) : Nat) : Int), qd (by omega), ?_⟩
    refine ⟨((n * n : Nat) : Int), ml (by omega), ?_⟩
    refine ⟨by have : n * n ≠ 0 := Nat.ne_of_gt (Nat.mul_pos hd.1 hd.1); omega, ((i0 / (n * n) : Nat) : Int), qd (by omega), ?_⟩
    refine ⟨by omega, ((i0 / (n * n) % n : Nat) : Int), rm, ?_⟩
    refine ⟨by omega, ((i0 / n : Nat) : Int), qd (by omega), ?_⟩
    refine ⟨by omega, ((i0 / n % n : Nat) : Int), rm, ?_⟩
    refine ⟨by omega, ((i0 % n : Nat) : Int), rm, ?_⟩
    refine .inl ⟨1, [0], _, _, _, _, [_], rfl, i_Coalgebra_isFault_ok B E.2 hp hp2 hn (i := i0 / (n * n * n)) (j := i0 / (n * n) % n) (k := i0 / n % n) (l := i0 % n) (by omega) (by omega) (by omega) (by omega), rfl, ⟨⟨_, rfl, fun h => by first | rfl | cases h⟩, trivial⟩, rfl, rfl, ?_⟩
    refine ⟨fun h50 => ?_, fun h50 => ?_⟩
    · skip
      have q : ¬ CoaT p n f i0 := dec_elim_t h50
      have e : i0 = a := by
        rcases Nat.lt_trichotomy i0 a with e | e | e
        · exact (q (hL i0 e)).elim
        · exact e
        · exact (hA (hF0 a e)).elim
      refine ⟨1, rfl, ?_⟩
      refine ⟨rfl, [1], rfl, rfl, ⟨rfl, ?_, trivial⟩, rfl, rfl⟩
      show some (Blk.mk false (.rw [.i .i64 ((i0 / (n * n * n) : Nat) : Int), .i .i64 ((i0 / (n * n) % n : Nat) : Int), .i .i64 ((i0 / n % n : Nat) : Int), .i .i64 ((i0 % n : Nat) : Int)])) = some (Blk.mk false (.rw [.i .i64 ((a / (n * n * n) : Nat) : Int), .i .i64 ((a / (n * n) % n : Nat) : Int), .i .i64 ((a / n % n : Nat) : Int), .i .i64 ((a % n : Nat) : Int)]))
      rw [e]
    · skip
      have q : CoaT p n f i0 := Classical.not_not.1 (dec_elim_t' h50)
      refine ⟨((i0 + 1 : Nat) : Int), w64_id _ (by omega) (by omega), ?_⟩
      refine ⟨by omega, ?_, ⟨rfl, rfl, rfl, rfl, trivial⟩, ⟨rfl, trivial⟩, rfl⟩
      intro t ht
      by_cases e : t = i0
      · rw [e]; exact q
      · exact hF0 t (by omega)
  · replace h21 := of_decide_eq_false h21
    have e0 : n * n * n * n = i0 := by omega
    exact (hA (hF0 a (by omega))).elim

end Hf
namespace Hf
open Go Classical
variable {P : Program} {ρ : Nat → FuncId}
theorem sm_8n {n : Nat} {x : Nat → Int} (hn : n ≤ 8) (h : ∀ i, n ≤ i → i < 8 → x i = 0) : sm 8 x = sm n x := sm_ext hn h

theorem i_Coalgebra_isCounit_ok (B : Bs P ρ) (E : E_i_Coalgebra_isCounit P ρ) {n : Nat} {p : Int} {f : By} (hp : 1 ≤ p) (hp2 : p ≤ 256) (hn : n ≤ 8) (hv : ∀ i, n ≤ i → i < 8 → bz f (2 + i) = 0) :
    CallOK P ρ 107 [.pt 0 0] [⟨true, .by [p, (n : Int)] 522 f⟩] (.one (.b (decide (∀ i, i < n → Cou p n f i)))) [⟨true, .by [p, (n : Int)] 522 f⟩] := by
  refine call_of_vc B.fn B.mo E.1 rfl rfl ?_
  refine .inl ⟨1, [0], _, _, _, _, [_], rfl, i_Coalgebra_field_ok B E.2.1 , rfl, ⟨⟨_, rfl, fun h => by first | rfl | cases h⟩, trivial⟩, rfl, rfl, ?_⟩
  refine ⟨1, rfl, ?_⟩
  refine .inl ⟨(fun a0 a11 b0 b1 i0 => St.mk [(0, a0), (3, .one (.pt 1 0)), (11, a11), (12, .one (.i .i64 ((i0 : Nat) : Int)))] [b0, b1]) _ _ _ _ , fun i0 => ∀ i, i < i0 → Cou p n f i, n, fun _ _ => by omega, ⟨⟨rfl, rfl, rfl, rfl, trivial⟩, ⟨rfl, rfl, trivial⟩, rfl⟩, fun i0 hi0 hF0 => ?_⟩
  refine ⟨fun h13 => ?_, fun h13 => ?_⟩
  · replace h13 := of_decide_eq_true h13
    refine ⟨2, rfl, ?_⟩
    refine ⟨3, rfl, ?_⟩
    refine ⟨⟨rfl, by first | omega | (simp <;> omega), by first | omega | (simp <;> omega)⟩, ?_⟩   -- sta ['.t', 5] ['.t', 15] 8
    refine ⟨⟨rfl, by first | omega | (simp <;> omega), by first | omega | (simp <;> omega)⟩, ?_⟩   -- sta ['.t', 6] ['.t', 16] 8
    refine .inl ⟨(fun a0 a4 a11 a12 a18 b0 b1 i1 => St.mk [(0, a0), (3, .one (.pt 1 0)), (4, a4), (5, .one (.pt 2 0)), (6, .one (.pt 3 0)), (11, a11), (12, a12), (18, a18), (19, .one (.i .i64 ((i1 : Nat) : Int)))] [b0, b1, Blk.mk false (.by [] 8 (vec 8 p fun x => cuL i1 f i0 x)), Blk.mk false (.by [] 8 (vec i1 p (cuR n f i0)))]) _ _ _ _ _ _ _ , fun i1 => True, n, trivial, ⟨⟨rfl, rfl, rfl, rfl, rfl, rfl, rfl, rfl, rfl, trivial⟩, ⟨rfl, rfl, ?_, ?_, trivial⟩, rfl⟩, fun i1 hi1 _ => ?_⟩
    · refine blk_by ?_
      rw [z_sta]
      exact vec_0.symm
    · refine blk_by ?_
      rw [z_sta]
      rfl
    refine ⟨fun h20 => ?_, fun h20 => ?_⟩
    · replace h20 := of_decide_eq_true h20
      have q0 := bz_nn f (2 + i1)
      have q1 := bz_le f (2 + i1)
      refine ⟨i1, 2 + i1, rfl, by omega, by omega, ?_⟩
      refine ⟨⟨by first | omega | (simp <;> omega), by first | omega | (simp <;> omega)⟩, ?_⟩
      refine ⟨i0, 10 + i0 * 64, rfl, by omega, by omega, ?_⟩
      refine ⟨i1, 10 + i0 * 64 + i1 * 8, rfl, by omega, by omega, ?_⟩
      refine ⟨⟨by first | omega | (simp <;> omega), by first | omega | (simp <;> omega)⟩, ?_⟩
      refine .inl ⟨4, [2], _, _, _, _, [_, _, _, _], rfl, i_field_plus_ok B E.2.2.1 (k := bz f (2 + i1)) hp (by omega) (by simp) (by omega) (by omega) (by omega) (bz_vec_lt' hp hp2), rfl, ⟨⟨_, rfl, fun h => by first | rfl | cases h⟩, trivial⟩, rfl, rfl, ?_⟩
      refine ⟨⟨by first | omega | (simp <;> omega), by first | omega | (simp <;> omega)⟩, ?_⟩
      refine ⟨i0, 10 + i0 * 64, rfl, by omega, by omega, ?_⟩
      refine ⟨i1, 10 + i0 * 64 + i1 * 8, rfl, by omega, by omega, ?_⟩
      refine ⟨⟨by first | omega | (simp <;> omega), by first | omega | (simp <;> omega)⟩, ?_⟩
      refine ⟨4, [], _, _, _, _, [_, _, _, _], rfl, i_field_dot_ok B E.2.2.2.1 hp (by omega), rfl, trivial, rfl, rfl, rfl, ?_⟩
      refine ⟨i1, i1, rfl, by omega, by omega, ?_⟩
      refine ⟨⟨by first | omega | (simp <;> omega), by first | omega | (simp <;> omega)⟩, ?_⟩   -- st8 ['.t', 55] ['.t', 54]
      refine ⟨((i1 + 1 : Nat) : Int), w64_id _ (by omega) (by omega), ?_⟩
      refine ⟨by omega, trivial, ⟨rfl, rfl, rfl, rfl, rfl, rfl, rfl, rfl, rfl, trivial⟩, ⟨rfl, rfl, ?_, ?_, trivial⟩, rfl⟩
      · refine blk_by ?_
        rw [pl_vec0 hp hp2]
        exact vec_congr fun y _ => cg_of_eq rfl
      · refine blk_by (upd_vec ?_).symm
        congr 2
        exact sm_8n hn fun k h1 h2 => by rw [bz_sh, hv k h1 h2, Int.zero_mul]
    · replace h20 := of_decide_eq_false h20
      have e1 : n = i1 := by omega
      subst e1
      refine ⟨⟨by first | omega | (simp <;> omega), by first | omega | (simp <;> omega)⟩, ?_⟩
      refine ⟨4, [], _, _, _, _, [_, _, _, _], rfl, i_basis_ok B E.2.2.2.2 (i := i0) (by omega), rfl, trivial, rfl, rfl, rfl, ?_⟩
      refine ⟨fun h61 => ?_, fun h61 => ?_⟩
      · skip
        have z61 := neB_t h61
        rw [sh_zero] at z61
        refine brB_t ?_
        refine brB_t ?_
        refine brB_t ?_
        refine brB_t ?_
        refine brB_t ?_
        refine ⟨rfl, [], ?_, rfl, ⟨rfl, trivial⟩, rfl, rfl⟩
        exact one_b (dec_f fun q => z61 fun x _ => congrFun (q i0 (by omega)).1 x)
      · skip
        have z61 := neB_f h61
        rw [sh_zero] at z61
        refine ⟨⟨by first | omega | (simp <;> omega), by first | omega | (simp <;> omega)⟩, ?_⟩
        refine brB_f ?_
        refine brB_f ?_
        refine ⟨4, [], _, _, _, _, [_, _, _, _], rfl, i_basis_ok B E.2.2.2.2 (i := i0) (by omega), rfl, trivial, rfl, rfl, rfl, ?_⟩
        refine brB_f ?_
        refine brB_f ?_
        refine ⟨fun h66 => ?_, fun h66 => ?_⟩
        · skip
          have z66 := neB_t h66
          rw [sh_zero] at z66
          refine ⟨rfl, [], ?_, rfl, ⟨rfl, trivial⟩, rfl, rfl⟩
          exact one_b (dec_f fun q => z66 fun x _ => congrFun (q i0 (by omega)).2 x)
        · skip
          have z66 := neB_f h66
          rw [sh_zero] at z66
          refine ⟨((i0 + 1 : Nat) : Int), w64_id _ (by omega) (by omega), ?_⟩
          refine ⟨by omega, ?_, ⟨rfl, rfl, rfl, rfl, trivial⟩, ⟨rfl, rfl, trivial⟩, rfl⟩
          intro k hk
          by_cases e : k = i0
          · subst e
            refine ⟨vec_ext (bas_out (by omega)) z61, ?_⟩
            funext x
            by_cases hx : x < 8
            · exact z66 x hx
            · rw [vec_out (by omega), bas_out (by omega) x (by omega)]
          · exact hF0 k (by omega)
  · replace h13 := of_decide_eq_false h13
    have e0 : n = i0 := by omega
    subst e0
    refine ⟨rfl, [], ?_, rfl, ⟨rfl, trivial⟩, rfl, rfl⟩
    exact one_b (dec_t hF0)

theorem i_IsCoalgebra_s_ok (B : Bs P ρ) (E : E_i_IsCoalgebra P ρ) {n : Int} {p : Int} {f : By} (hS : ¬ CShp p n f) :
    CallOK P ρ 106 [.ag [p, n] 522 f] [] (.one (.b false)) [] := by
  refine call_of_vc B.fn B.mo E.1 rfl rfl ?_
  refine ⟨0, rfl, ?_⟩
  refine .inl ⟨1, [0], _, _, _, _, [_], rfl, i_Coalgebra_isShaped_ok B E.2.1 , rfl, ⟨⟨_, rfl, fun h => by first | rfl | cases h⟩, trivial⟩, rfl, rfl, ?_⟩
  refine ⟨fun h4 => ?_, fun h4 => ?_⟩
  · skip
    have q : Shp p n ∧ Vec p n f 2 ∧ Tab p n f 10 := dec_elim_t h4
    exact (hS q).elim
  · skip
    refine brB_f ?_
    refine brB_f ?_
    refine brB_f ?_
    refine brB_f ?_
    exact ⟨rfl, [], rfl, rfl, trivial, rfl, rfl⟩

theorem i_IsCoalgebra_t_ok (B : Bs P ρ) (E : E_i_IsCoalgebra P ρ) {n : Nat} {p : Int} {f : By} (hS : CShp p n f) (hA : ∀ t : Nat, t < n * n * n * n → CoaT p n f t) :
    CallOK P ρ 106 [.ag [p, (n : Int)] 522 f] [] (.one (.b (decide (∀ i, i < n → Cou p n f i)))) [] := by
  refine call_of_vc B.fn B.mo E.1 rfl rfl ?_
  refine ⟨0, rfl, ?_⟩
  refine .inl ⟨1, [0], _, _, _, _, [_], rfl, i_Coalgebra_isShaped_ok B E.2.1 , rfl, ⟨⟨_, rfl, fun h => by first | rfl | cases h⟩, trivial⟩, rfl, rfl, ?_⟩
  refine ⟨fun h4 => ?_, fun h4 => ?_⟩
  · skip
    have hb := AShp.p1 hS
    have hv : ∀ i, n ≤ i → i < 8 → bz f (2 + i) = 0 := fun i h1 h2 => (hS.2.1 i h2).2 (by omega)
    refine .inl ⟨1, [0], _, _, _, _, [_], rfl, i_Coalgebra_isCounit_ok B E.2.2.1 (by omega) (by omega) (by omega) hv, rfl, ⟨⟨_, rfl, fun h => by first | rfl | cases h⟩, trivial⟩, rfl, rfl, ?_⟩
    refine brB_t ?_
    refine ⟨fun h7 => ?_, fun h7 => ?_⟩
    · skip
      refine .inl ⟨1, [0], _, _, _, _, [_], rfl, i_Coalgebra_fault_t_ok B E.2.2.2 (by omega) (by omega) (by omega) hA, rfl, ⟨⟨_, rfl, fun h => by first | rfl | cases h⟩, trivial⟩, rfl, rfl, ?_⟩
      refine brB_t ?_
      refine brB_t ?_
      refine ⟨rfl, [], ?_, rfl, trivial, rfl, rfl⟩
      exact one_b h7.symm
    · skip
      refine brB_f ?_
      refine brB_f ?_
      refine ⟨rfl, [], ?_, rfl, trivial, rfl, rfl⟩
      exact one_b h7.symm
  · skip
    have q : ¬ (Shp p n ∧ Vec p n f 2 ∧ Tab p n f 10) := dec_elim_t' h4
    exact (q hS).elim

theorem i_IsCoalgebra_f_ok (B : Bs P ρ) (E : E_i_IsCoalgebra P ρ) {n : Nat} {p : Int} {f : By} {a : Nat} (hS : CShp p n f) (ha : a < n * n * n * n) (hA : ¬ CoaT p n f a) (hL : ∀ t, t < a → CoaT p n f t) :
    CallOK P ρ 106 [.ag [p, (n : Int)] 522 f] [] (.one (.b false)) [] := by
  refine call_of_vc B.fn B.mo E.1 rfl rfl ?_
  refine ⟨0, rfl, ?_⟩
  refine .inl ⟨1, [0], _, _, _, _, [_], rfl, i_Coalgebra_isShaped_ok B E.2.1 , rfl, ⟨⟨_, rfl, fun h => by first | rfl | cases h⟩, trivial⟩, rfl, rfl, ?_⟩
  refine ⟨fun h4 => ?_, fun h4 => ?_⟩
  · skip
    have hb := AShp.p1 hS
    have hv : ∀ i, n ≤ i → i < 8 → bz f (2 + i) = 0 := fun i h1 h2 => (hS.2.1 i h2).2 (by omega)
    refine .inl ⟨1, [0], _, _, _, _, [_], rfl, i_Coalgebra_isCounit_ok B E.2.2.1 (by omega) (by omega) (by omega) hv, rfl, ⟨⟨_, rfl, fun h => by first | rfl | cases h⟩, trivial⟩, rfl, rfl, ?_⟩
    refine brB_t ?_
    refine ⟨fun h7 => ?_, fun h7 => ?_⟩
    · skip
      refine .inl ⟨1, [0], _, _, _, _, [_, _], rfl, i_Coalgebra_fault_f_ok B E.2.2.2 (by omega) (by omega) (by omega) ha hA hL, rfl, ⟨⟨_, rfl, fun h => by first | rfl | cases h⟩, trivial⟩, rfl, rfl, ?_⟩
      refine brB_t ?_
      refine brB_t ?_
      exact ⟨rfl, [], rfl, rfl, trivial, rfl, rfl⟩
    · skip
      refine brB_f ?_
      refine brB_f ?_
      exact ⟨rfl, [], rfl, rfl, trivial, rfl, rfl⟩
  · skip
    have q : ¬ (Shp p n ∧ Vec p n f 2 ∧ Tab p n f 10) := dec_elim_t' h4
    exact (q hS).elim

theorem i_IsCoalgebra_ok (B : Bs P ρ) (E : E_i_IsCoalgebra P ρ) {n : Int} {p : Int} {f : By} :
    CallOK P ρ 106 [.ag [p, n] 522 f] [] (.one (.b (decide (Cog p n f)))) [] := by
  by_cases hS : CShp p n f
  · obtain ⟨m, rfl⟩ : ∃ m : Nat, n = (m : Int) := ⟨n.toNat, by have := hS.1.2.1; omega⟩
    by_cases hA : ∀ t : Nat, t < m * m * m * m → CoaT p m f t
    · have e : decide (Cog p m f) = decide (∀ i, i < m → Cou p m f i) :=
        decide_eq_decide.2 ⟨fun q i hi => q.2.1 i (by omega), fun q => ⟨hS, fun i hi => q i (by omega), hA⟩⟩
      rw [e]; exact i_IsCoalgebra_t_ok B E hS hA
    · rw [decide_eq_false fun q : Cog p m f => hA q.2.2]
      obtain ⟨a, ⟨h1, h2⟩, h3⟩ := least (q := fun t => t < m * m * m * m ∧ ¬ CoaT p m f t) (by
        simp only [Classical.not_forall] at hA
        obtain ⟨t, ht, h⟩ := hA
        exact ⟨t, ht, h⟩)
      exact i_IsCoalgebra_f_ok B E hS h1 h2 fun t ht => Classical.byContradiction fun q => h3 t ht ⟨by omega, q⟩
  · rw [decide_eq_false fun q : Cog p n f => hS q.1]
    exact i_IsCoalgebra_s_ok B E hS
end Hf
namespace Hf
open Go Classical
variable {P : Program} {ρ : Nat → FuncId}
theorem mvp_id {T : Nat → Nat} (h : ∀ k, T k = k) (p : Nat × Nat) : mvp T p = p := by simp [mvp, h]
theorem mva_id {T : Nat → Nat} (h : ∀ k, T k = k) : ∀ a : At, mva T a = a
  | .pt k off => by simp [mva, h]
  | .sl k off l c => by simp [mva, h]
  | .fn f a b => by
    have e : ∀ l : List (Nat × Nat), l.map (mvp T) = l := fun l => by
      induction l with
      | nil => rfl
      | cons x r ih => simp [mvp_id h, ih]
    simp [mva, e]
  | .i _ _ | .u _ | .b _ | .ag _ _ _ | .np | .sn | .ac _ => rfl
theorem map_id' {α : Type} {F : α → α} (h : ∀ a, F a = a) (l : List α) : l.map F = l := by
  induction l with
  | nil => rfl
  | cons x r ih => simp [h, ih]
theorem mvb_id {T : Nat → Nat} (h : ∀ k, T k = k) : ∀ b : Bk, mvb T b = b
  | .by _ _ _ => rfl
  | .gs _ _ => rfl
  | .fo _ _ => rfl
  | .vr a => by simp [mvb, mva_id h]
  | .rw l => by simp [mvb, map_id' (mva_id h)]

def roK : List Blk → List Blk → Prop
  | [], [] => True
  | B :: r, B' :: r' => (if B.ro = true then B' = B else B'.ro = false) ∧ roK r r'
  | _, _ => False
theorem roK_len : ∀ {H G : List Blk}, roK H G → G.length = H.length
  | [], [], _ => rfl
  | _ :: _, _ :: _, h => by simp [roK_len h.2]

theorem back_id {T : Nat → Nat} (h : ∀ k, T k = k) : ∀ {Bs Bs' pre : List Blk}, roK Bs Bs' → back T (List.range' pre.length Bs.length) Bs Bs' (pre ++ Bs) = pre ++ Bs'
  | [], [], pre, _ => by simp [back]
  | B :: r, B' :: r', pre, hr => by
    rw [List.length_cons, List.range'_succ]
    simp only [back]
    by_cases hb : B.ro = true
    · rw [if_pos hb]
      have e := hr.1
      rw [if_pos hb] at e
      subst e
      have := back_id h (pre := pre ++ [B']) hr.2
      simpa using this
    · rw [if_neg hb]
      have e := hr.1
      rw [if_neg hb] at e
      have := back_id h (pre := pre ++ [B']) hr.2
      have es : (pre ++ B :: r).set pre.length ⟨false, mvb T B'.c⟩ = (pre ++ [B']) ++ r := by
        rw [mvb_id h]
        have : (⟨false, B'.c⟩ : Blk) = B' := by rw [← e]
        rw [this]
        simp
      rw [es]
      simpa using this
theorem emb_id {T : Nat → Nat} (h : ∀ k, T k = k) : ∀ {Bs pre : List Blk}, emb T (pre ++ Bs) (List.range' pre.length Bs.length) Bs
  | [], pre => by simp [emb]
  | B :: r, pre => by
    rw [List.length_cons, List.range'_succ]
    simp only [emb]
    refine ⟨⟨B.ro, by rw [mvb_id h]; simp, fun h => h⟩, ?_⟩
    have := emb_id h (Bs := r) (pre := pre ++ [B])
    simpa using this
theorem apart_id : ∀ {Bs : List Blk} {i : Nat}, apart (List.range' i Bs.length) Bs = true
  | [], i => by simp [apart]
  | B :: r, i => by
    rw [List.length_cons, List.range'_succ]
    simp only [apart, Bool.and_eq_true, List.all_eq_true]
    refine ⟨fun p hp => ?_, apart_id⟩
    have := (List.of_mem_zip (a := p.1) (b := p.2) hp).1
    rw [List.mem_range'_1] at this
    simp only [Bool.or_eq_true, bne_iff_ne, ne_eq]
    exact .inr (by omega)

/-- a call to which all blocks are handed as they stand -/
theorem vcall_ids {as : List At} {H H' : List Blk} (hr : roK H H') : as = as.map (mva (tau (List.range' 0 H.length) H.length)) ∧ emb (tau (List.range' 0 H.length) H.length) H (List.range' 0 H.length) H ∧
    apart (List.range' 0 H.length) H = true ∧ back (tau (List.range' 0 H.length) H.length) (List.range' 0 H.length) H H' H ++ (H'.drop H.length).map (fun B => ⟨B.ro, mvb (tau (List.range' 0 H.length) H.length) B.c⟩) = H' := by
  have hT : ∀ k, tau (List.range' 0 H.length) H.length k = k := by
    intro k
    by_cases hk : k < H.length
    · rw [tau_lt (t := k) (by simp [hk])]
    · rw [tau_ge (by simp; omega)]; simp; omega
  refine ⟨(map_id' (mva_id hT) as).symm, emb_id hT (pre := []), apart_id, ?_⟩
  have := back_id hT (pre := []) hr
  simp only [List.nil_append, List.length_nil] at this
  rw [this, List.drop_of_length_le (by rw [roK_len hr]; omega)]
  simp

theorem mvp_fix {T : Nat → Nat} {m : Nat} (h : ∀ k, k < m → T k = k) : ∀ {l : List (Nat × Nat)}, l.all (fun p => decide (p.1 < m)) = true → l.map (mvp T) = l
  | [], _ => rfl
  | p :: r, e => by
    simp only [List.all_cons, Bool.and_eq_true, decide_eq_true_eq] at e
    rw [List.map_cons, mvp_fix h (l := r) e.2]
    simp [mvp, h _ e.1]
theorem mva_fix {T : Nat → Nat} {m : Nat} (h : ∀ k, k < m → T k = k) : ∀ {a : At}, a.lt m = true → mva T a = a
  | .pt k off, e => by simp only [At.lt, decide_eq_true_eq] at e; simp [mva, h k e]
  | .sl k off l c, e => by simp only [At.lt, decide_eq_true_eq] at e; simp [mva, h k e]
  | .fn f a b, e => by
    simp only [At.lt, Bool.and_eq_true] at e
    simp only [mva]
    rw [mvp_fix h e.1, mvp_fix h e.2]
  | .i _ _, _ | .u _, _ | .b _, _ | .ag _ _ _, _ | .np, _ | .sn, _ | .ac _, _ => rfl
theorem mvb_fix {T : Nat → Nat} {m : Nat} (h : ∀ k, k < m → T k = k) : ∀ {b : Bk}, b.lt m = true → mvb T b = b
  | .by _ _ _, _ => rfl
  | .gs _ _, _ => rfl
  | .fo _ _, _ => rfl
  | .vr a, e => by simp only [Bk.lt, Bool.and_eq_true] at e; simp [mvb, mva_fix h e.1]
  | .rw l, e => by
    simp only [Bk.lt, List.all_eq_true, Bool.and_eq_true] at e
    have : l.map (mva T) = l := by
      have : ∀ l : List At, (∀ a ∈ l, a.lt m = true) → l.map (mva T) = l := fun l => by
        induction l with
        | nil => intro _; rfl
        | cons x r ih => intro h2; rw [List.map_cons, ih fun a ha => h2 a (by simp [ha]), mva_fix h (h2 x (by simp))]
      exact this l fun a ha => (e a ha).1
    simp [mvb, this]
theorem leH_rfl : ∀ {l : List Blk}, leH l l
  | [] => trivial
  | _ :: _ => ⟨rfl, leH_rfl⟩

theorem i_pairs_ok (B : Bs P ρ) (E : E_i_pairs P ρ) {hd : List Int} {N off g c : Nat} {f : By} {caps : List (Nat × Nat)} {C : Nat → List Blk} (ho : hd.length ≤ off) (hN : off + 64 ≤ N)
    (hlen : ∀ t, t ≤ 64 → (C t).length = c) (hcaps : ∀ q ∈ caps, q.1 < c + 1) (hlt : ∀ t, t ≤ 64 → ∀ b ∈ C t, b.c.lt (c + 1) = true)
    (hst : ∀ j k, j < 8 → k < 8 → bz f (off + j * 8 + k) ≠ 0 → CallOK P ρ g ([.i .i64 (j : Int), .i .i64 (k : Int), .i .i64 (bz f (off + j * 8 + k))] ++ caps.map (fun p => .pt p.1 p.2)) (⟨true, .by hd N f⟩ :: C (j * 8 + k)) (.tup []) (⟨true, .by hd N f⟩ :: C (j * 8 + k + 1)))
    (hs0 : ∀ j k, j < 8 → k < 8 → bz f (off + j * 8 + k) = 0 → C (j * 8 + k + 1) = C (j * 8 + k))
    (hro : ∀ t, t < 64 → roK (C t) (C (t + 1))) :
    CallOK P ρ 60 [.pt 0 off, .fn g [] caps] (⟨true, .by hd N f⟩ :: C 0) (.tup []) (⟨true, .by hd N f⟩ :: C 64) := by
  have hclo : ∀ t, t ≤ 64 → ((⟨true, .by hd N f⟩ : Blk) :: C t).all (fun b => b.c.lt ((⟨true, .by hd N f⟩ : Blk) :: C t).length) = true := by
    intro t ht
    rw [List.all_eq_true]
    intro b hb
    rw [List.length_cons, hlen t ht]
    rcases List.mem_cons.1 hb with rfl | hb
    · rfl
    · exact hlt t ht b hb
  have hfn : (At.fn g [] caps).lt (c + 1) = true := by
    simp only [At.lt, List.all_nil, Bool.true_and, List.all_eq_true, decide_eq_true_eq]
    exact hcaps
  refine call_of_vc B.fn B.mo E rfl ?_ ?_
  · simp only [List.all_cons, List.all_nil, Bool.and_true, Bool.and_eq_true]
    refine ⟨by simp [At.lt], ?_⟩
    rw [List.length_cons, hlen 0 (by omega)]; exact hfn
  have hlen0 : ((⟨true, .by hd N f⟩ : Blk) :: C 0).length = c + 1 := by rw [List.length_cons, hlen 0 (by omega)]
  generalize hm : ((⟨true, .by hd N f⟩ : Blk) :: C 0).length = m at *
  subst hlen0
  have clo : ∀ (fr : List (Nat × Sv)) t, t ≤ 64 → fr.all (fun p => p.2.lt (c + 1)) = true → cloS (c + 1) ⟨fr, ⟨true, .by hd N f⟩ :: C t⟩ = true := by
    intro fr t ht hfr
    simp only [cloS, Bool.and_eq_true]
    refine ⟨⟨?_, ?_⟩, hclo t ht⟩
    · rw [List.length_cons, hlen t ht]; exact Nat.ble_eq_true_of_le (Nat.le_refl _)
    · rw [List.length_cons, hlen t ht]; exact hfr
  have hfr1 : (Sv.one (At.fn g [] caps)).lt (c + 1) = true := hfn
  refine .inl ⟨fun i0 => St.mk [(0, .one (.pt 0 off)), (1, .one (.fn g [] caps)), (7, .one (.i .i64 (i0 : Nat)))] (⟨true, .by hd N f⟩ :: C (i0 * 8)), fun _ => True, 8, trivial, ⟨⟨rfl, rfl, rfl, trivial⟩, ?_, ?_⟩, fun i0 hi0 _ => ?_⟩
  · show leH ((⟨true, .by hd N f⟩ : Blk) :: C (0 * 8)) (⟨true, .by hd N f⟩ :: C 0)
    rw [Nat.zero_mul]; exact leH_rfl
  · exact clo _ _ (by omega) (by simp [hfr1]; simp [Sv.lt, At.lt])
  refine ⟨fun h8 => ?_, fun h8 => ?_⟩
  · replace h8 := of_decide_eq_true h8
    refine ⟨i0, off + i0 * 8, rfl, by omega, by omega, ?_⟩
    refine ⟨⟨by omega, by omega⟩, ?_⟩
    refine .inl ⟨fun i1 => St.mk [(0, .one (.pt 0 off)), (1, .one (.fn g [] caps)), (4, .one (.i .i64 (i0 : Nat))), (7, .one (.i .i64 (i0 : Nat))), (14, .one (.ag [] 8 (sh f (off + i0 * 8)))), (15, .one (.i .i64 (i1 : Nat)))] (⟨true, .by hd N f⟩ :: C (i0 * 8 + i1)), fun _ => True, 8, trivial, ⟨⟨rfl, rfl, rfl, rfl, rfl, rfl, trivial⟩, ?_, ?_⟩, fun i1 hi1 _ => ?_⟩
    · exact leH_rfl
    · exact clo _ _ (by omega) (by simp [hfr1]; simp [Sv.lt, At.lt])
    refine ⟨fun h16 => ?_, fun h16 => ?_⟩
    · replace h16 := of_decide_eq_true h16
      refine ⟨i1, rfl, by omega, by omega, ?_⟩
      have hlast : ∀ t, t = i0 * 8 + i1 + 1 → le (c + 1) (St.mk [(0, .one (.pt 0 off)), (1, .one (.fn g [] caps)), (4, .one (.i .i64 (i0 : Nat))), (7, .one (.i .i64 (i0 : Nat))), (14, .one (.ag [] 8 (sh f (off + i0 * 8)))), (15, .one (.i .i64 ((i1 + 1 : Nat) : Int)))] (⟨true, .by hd N f⟩ :: C (i0 * 8 + (i1 + 1))))
          (St.mk [(0, .one (.pt 0 off)), (1, .one (.fn g [] caps)), (4, .one (.i .i64 (i0 : Nat))), (7, .one (.i .i64 (i0 : Nat))), (14, .one (.ag [] 8 (sh f (off + i0 * 8)))), (15, .one (.i .i64 ((i1 + 1 : Nat) : Int)))] (⟨true, .by hd N f⟩ :: C t)) := by
        intro t ht
        subst ht
        exact ⟨⟨rfl, rfl, rfl, rfl, rfl, rfl, trivial⟩, leH_rfl, clo _ _ (by omega) (by simp [hfr1]; simp [Sv.lt, At.lt])⟩
      refine ⟨fun h20 => ?_, fun h20 => ?_⟩
      · replace h20 := bne_t h20
        have hne : bz f (off + i0 * 8 + i1) ≠ 0 := fun h => h20 (u_eq0.2 h)
        have hrk : roK (⟨true, .by hd N f⟩ :: C (i0 * 8 + i1)) (⟨true, .by hd N f⟩ :: C (i0 * 8 + i1 + 1)) := ⟨by simp, hro _ (by omega)⟩
        obtain ⟨w1, w2, w3, w4⟩ := vcall_ids (as := [.i .i64 (i0 : Int), .i .i64 (i1 : Int), .i .i64 (bz f (off + i0 * 8 + i1))] ++ caps.map (fun p => .pt p.1 p.2)) hrk
        refine ⟨_, _, _, _, _, _, _, rfl, hst i0 i1 (by omega) (by omega) hne, w1, w2, w3, w4, ?_⟩
        refine ⟨((i1 + 1 : Nat) : Int), w64_id _ (by omega) (by omega), ?_⟩
        refine ⟨by omega, trivial, ?_⟩
        obtain ⟨-, q2, q3⟩ := hlast _ rfl
        exact ⟨⟨rfl, rfl, rfl, rfl, rfl, rfl, trivial⟩, q2, q3⟩
      · replace h20 := bne_f h20
        have hz : bz f (off + i0 * 8 + i1) = 0 := u_eq0.1 h20
        refine ⟨((i1 + 1 : Nat) : Int), w64_id _ (by omega) (by omega), ?_⟩
        obtain ⟨-, q2, q3⟩ := hlast _ rfl
        refine ⟨by omega, trivial, ⟨rfl, rfl, rfl, rfl, rfl, rfl, trivial⟩, ?_, q3⟩
        show leH (⟨true, .by hd N f⟩ :: C (i0 * 8 + (i1 + 1))) (⟨true, .by hd N f⟩ :: C (i0 * 8 + i1))
        rw [← hs0 i0 i1 (by omega) (by omega) hz]
        exact q2
    · replace h16 := of_decide_eq_false h16
      have e1 : i1 = 8 := by omega
      subst e1
      refine ⟨((i0 + 1 : Nat) : Int), w64_id _ (by omega) (by omega), ?_⟩
      refine ⟨by omega, trivial, ⟨rfl, rfl, rfl, trivial⟩, ?_, clo _ _ (by omega) (by simp [hfr1]; simp [Sv.lt, At.lt])⟩
      show leH ((⟨true, .by hd N f⟩ : Blk) :: C ((i0 + 1) * 8)) (⟨true, .by hd N f⟩ :: C (i0 * 8 + 8))
      rw [show (i0 + 1) * 8 = i0 * 8 + 8 by omega]
      exact leH_rfl
  · replace h8 := of_decide_eq_false h8
    have e0 : i0 = 8 := by omega
    subst e0
    have hlt64 := hclo 64 (by omega)
    refine ⟨rfl, [], rfl, rfl, ?_, rfl, ?_⟩
    · have e : ∀ (T : Nat → Nat), (∀ k, k < c + 1 → T k = k) → ∀ (n : Nat) (pre Bs : List Blk), pre.length = n → (∀ b ∈ Bs, b.c.lt (c + 1) = true) → sel T (pre ++ Bs) (List.range' n Bs.length) Bs := by
        intro T hT n pre Bs
        induction Bs generalizing n pre with
        | nil => intro _ _; simp [sel]
        | cons b r ih =>
          intro hp hb
          rw [List.length_cons, List.range'_succ]
          refine ⟨?_, ?_⟩
          · subst hp
            have : mvb T b.c = b.c := mvb_fix hT (hb b (by simp))
            rw [this]; simp
          · have := ih (n + 1) (pre ++ [b]) (by simp [hp]) fun x hx => hb x (by simp [hx])
            simpa using this
      have e2 := e (pk (c + 1) []) (fun k hk => by simp [pk, hk]) 0 [] (⟨true, .by hd N f⟩ :: C 64) rfl (by
        intro b hb
        rcases List.mem_cons.1 hb with rfl | hb
        · rfl
        · exact hlt 64 (by omega) b hb)
      rw [List.length_cons, hlen 64 (by omega)] at e2
      simpa [List.range_eq_range'] using e2
    · rw [List.all_eq_true] at hlt64 ⊢
      exact hlt64
end Hf
namespace Hf
open Go Classical
variable {P : Program} {ρ : Nat → FuncId}
def mu (f : By) (a b c : Nat) : Int := bz f (10 + a * 64 + b * 8 + c)

theorem i_Hopf_tensor_1_1_ok (B : Bs P ρ) (E : E_i_Hopf_tensor_1_1 P ρ) {n N0 : Nat} {hd0 : List Int} {p y : Int} {f f0 g0 : By} {X : Nat → Int} {l m j k : Nat} {x : Int} (hp : 1 ≤ p) (hp2 : p ≤ 256) (hl : l < 8) (hm : m < 8) (hj : j < 8) (hk : k < 8) (hx : 0 ≤ x) (hx2 : x ≤ 255) (hy : 0 ≤ y) (hy2 : y ≤ 255) :
    CallOK P ρ 122 [.i .i64 (l : Int), .i .i64 (m : Int), .i .i64 y, .pt 2 0, .pt 3 0, .pt 4 0, .pt 5 0, .pt 6 0, .pt 7 0] [⟨true, .by hd0 N0 f0⟩, ⟨true, .by [p, (n : Int)] 1106 f⟩, ⟨true, .vr (.pt 1 0)⟩, ⟨true, .vr (.i .i64 (j : Int))⟩, ⟨true, .by [p, (n : Int)] 2 g0⟩, ⟨false, .by [] 64 (vec 64 p X)⟩, ⟨true, .vr (.i .i64 x)⟩, ⟨true, .vr (.i .i64 (k : Int))⟩] (.tup []) [⟨true, .by hd0 N0 f0⟩, ⟨true, .by [p, (n : Int)] 1106 f⟩, ⟨true, .vr (.pt 1 0)⟩, ⟨true, .vr (.i .i64 (j : Int))⟩, ⟨true, .by [p, (n : Int)] 2 g0⟩, ⟨false, .by [] 64 (vec 64 p fun z => X z + x * y % p * mu f j l (z / 8) * mu f k m (z % 8))⟩, ⟨true, .vr (.i .i64 x)⟩, ⟨true, .vr (.i .i64 (k : Int))⟩] := by
  refine call_of_vc B.fn B.mo E.1 rfl rfl ?_
  have hxy := mul_bd (A := 255) (B := 255) (a := x) (b := y) (by omega) hx2 hy hy2
  have hxy0 : 0 ≤ x * y := Int.mul_nonneg hx hy
  have hr0 := Int.emod_nonneg (x * y) (show p ≠ 0 by omega)
  have hr1 := Int.emod_lt_of_pos (x * y) (show 0 < p by omega)
  refine ⟨j, 10 + j * 64, rfl, by omega, by omega, ?_⟩
  refine ⟨l, 10 + j * 64 + l * 8, rfl, by omega, by omega, ?_⟩
  refine ⟨⟨by first | omega | (simp <;> omega), by first | omega | (simp <;> omega)⟩, ?_⟩
  refine .inl ⟨(fun a1 a2 a3 a5 a6 a7 a8 a21 b0 b1 b2 b3 b4 b6 b7 i0 => St.mk [(1, a1), (2, a2), (3, a3), (5, a5), (6, a6), (7, a7), (8, a8), (21, a21), (22, .one (.i .i64 ((i0 : Nat) : Int)))] [b0, b1, b2, b3, b4, Blk.mk false (.by [] 64 (vec 64 p fun z => X z + if z / 8 < i0 then x * y % p * mu f j l (z / 8) * mu f k m (z % 8) else 0)), b6, b7]) _ _ _ _ _ _ _ _ _ _ _ _ _ _ _ , fun i0 => True, 8, trivial, ⟨⟨rfl, rfl, rfl, rfl, rfl, rfl, rfl, rfl, rfl, trivial⟩, ⟨rfl, rfl, rfl, rfl, rfl, ?_, rfl, rfl, trivial⟩, rfl⟩, fun i0 hi0 _ => ?_⟩
  · exact blk_by (vec_congr fun z _ => cg_of_eq (by simp))
  refine ⟨fun h23 => ?_, fun h23 => ?_⟩
  · replace h23 := of_decide_eq_true h23
    have hz0 := bz_nn (sh f (10 + j * 64 + l * 8)) i0
    have hz1 := bz_le (sh f (10 + j * 64 + l * 8)) i0
    have hq := mul_bd (A := 255) (B := 255) (a := x * y % p) (b := bz (sh f (10 + j * 64 + l * 8)) i0) (by omega) (by omega) hz0 hz1
    refine ⟨_, rfl, by first | omega | (simp <;> omega), by first | omega | (simp <;> omega), ?_⟩
    refine ⟨i0, i0 * 8, rfl, by omega, by omega, ?_⟩
    refine ⟨x * y, w64_id (x * y) (by omega) (by omega), ?_⟩
    refine ⟨by omega, x * y % p, Int.tmod_eq_emod_of_nonneg hxy0, ?_⟩
    refine ⟨x * y % p * bz (sh f (10 + j * 64 + l * 8)) i0, w64_id (x * y % p * bz (sh f (10 + j * 64 + l * 8)) i0) (by omega) (by omega), ?_⟩
    refine ⟨k, 10 + k * 64, rfl, by omega, by omega, ?_⟩
    refine ⟨m, 10 + k * 64 + m * 8, rfl, by omega, by omega, ?_⟩
    refine ⟨⟨by first | omega | (simp <;> omega), by first | omega | (simp <;> omega)⟩, ?_⟩
    refine .inl ⟨8, [5], _, _, _, _, [_, _, _, _, _, _, _, _], rfl, i_field_plus_ok B E.2 (k := x * y % p * bz (sh f (10 + j * 64 + l * 8)) i0) hp (by omega) (by simp) (by omega) (by omega) (by omega) (fun _ _ _ => bz_vec_lt hp hp2), rfl, ⟨⟨_, rfl, fun h => by first | rfl | cases h⟩, trivial⟩, rfl, rfl, ?_⟩
    refine ⟨((i0 + 1 : Nat) : Int), w64_id _ (by omega) (by omega), ?_⟩
    refine ⟨by omega, trivial, ⟨rfl, rfl, rfl, rfl, rfl, rfl, rfl, rfl, rfl, trivial⟩, ⟨rfl, rfl, rfl, rfl, rfl, ?_, rfl, rfl, trivial⟩, rfl⟩
    refine blk_by ?_
    rw [pl_vec hp hp2 (by omega)]
    refine vec_congr fun z hz => cg_of_eq ?_
    rw [Int.add_assoc]
    congr 1
    by_cases e1 : i0 * 8 ≤ z ∧ z < i0 * 8 + 8
    · rw [if_pos (by omega), if_neg (by omega), if_pos e1, Int.zero_add, bz_sh, bz_sh, show z / 8 = i0 by omega, show z - i0 * 8 = z % 8 by omega]; rfl
    · rw [if_neg e1, Int.add_zero]
      by_cases e2 : z / 8 < i0
      · rw [if_pos (by omega), if_pos e2]
      · rw [if_neg (by omega), if_neg e2]
  · replace h23 := of_decide_eq_false h23
    have e0 : 8 = i0 := by omega
    subst e0
    refine ⟨rfl, [], rfl, rfl, ⟨rfl, rfl, rfl, rfl, rfl, ?_, rfl, rfl, trivial⟩, rfl, rfl⟩
    refine congrArg some (blk_by (vec_congr fun z hz => cg_of_eq ?_))
    rw [if_pos (by omega)]

/-- the share of one number of a table in a product of tables -/
def ent (p : Int) (f fb : By) (off j k : Nat) (x : Int) (q z : Nat) : Int := x * bz fb (off + q) % p * mu f j (q / 8) (z / 8) * mu f k (q % 8) (z % 8)
def tnC (n : Nat) (p : Int) (f g0 fb : By) (off j k : Nat) (x : Int) (X : Nat → Int) (t : Nat) : List Blk :=
  [⟨true, .by [p, (n : Int)] 1106 f⟩, ⟨true, .vr (.pt 1 0)⟩, ⟨true, .vr (.i .i64 (j : Int))⟩, ⟨true, .by [p, (n : Int)] 2 g0⟩, ⟨false, .by [] 64 (vec 64 p fun z => X z + sm t fun q => ent p f fb off j k x q z)⟩, ⟨true, .vr (.i .i64 x)⟩, ⟨true, .vr (.i .i64 (k : Int))⟩]
theorem tn_inner (B : Bs P ρ) (E : E_i_Hopf_tensor_1 P ρ) {n N off j k : Nat} {p x : Int} {hd : List Int} {f g0 fb : By} {X : Nat → Int} (hp : 1 ≤ p) (hp2 : p ≤ 256) (hj : j < 8) (hk : k < 8) (hx : 0 ≤ x) (hx2 : x ≤ 255) (ho : hd.length ≤ off) (hN : off + 64 ≤ N) :
    CallOK P ρ 60 [.pt 0 off, .fn 122 [] [(2, 0), (3, 0), (4, 0), (5, 0), (6, 0), (7, 0)]] (⟨true, .by hd N fb⟩ :: tnC n p f g0 fb off j k x X 0) (.tup []) (⟨true, .by hd N fb⟩ :: tnC n p f g0 fb off j k x X 64) := by
  refine i_pairs_ok B E.2.2 (c := 7) (C := tnC n p f g0 fb off j k x X) ho hN (fun _ _ => rfl) (by simp) ?_ ?_ ?_ ?_
  · intro t _ b hb
    simp only [tnC, List.mem_cons, List.not_mem_nil, or_false] at hb
    rcases hb with rfl | rfl | rfl | rfl | rfl | rfl | rfl <;> rfl
  · intro l m hl hm _
    have h := i_Hopf_tensor_1_1_ok B E.2.1 (n := n) (N0 := N) (hd0 := hd) (f0 := fb) (f := f) (g0 := g0) (p := p) (y := bz fb (off + l * 8 + m)) (X := fun z => X z + sm (l * 8 + m) fun q => ent p f fb off j k x q z) (l := l) (m := m) (j := j) (k := k) (x := x) hp hp2 hl hm hj hk hx hx2 (bz_nn _ _) (bz_le _ _)
    have e : (vec 64 p fun z => (X z + sm (l * 8 + m) fun q => ent p f fb off j k x q z) + x * bz fb (off + l * 8 + m) % p * mu f j l (z / 8) * mu f k m (z % 8)) = vec 64 p fun z => X z + sm (l * 8 + m + 1) fun q => ent p f fb off j k x q z := by
      refine vec_congr fun z _ => cg_of_eq ?_
      have : ent p f fb off j k x (l * 8 + m) z = x * bz fb (off + l * 8 + m) % p * mu f j l (z / 8) * mu f k m (z % 8) := by
        unfold ent
        rw [show (l * 8 + m) / 8 = l by omega, show (l * 8 + m) % 8 = m by omega, show off + (l * 8 + m) = off + l * 8 + m by omega]
      simp only [sm]
      rw [this, Int.add_assoc]
    rw [e] at h
    exact h
  · intro l m hl hm hz
    unfold tnC
    have e : (vec 64 p fun z => X z + sm (l * 8 + m + 1) fun q => ent p f fb off j k x q z) = vec 64 p fun z => X z + sm (l * 8 + m) fun q => ent p f fb off j k x q z := by
      refine vec_congr fun z _ => cg_of_eq ?_
      have : ent p f fb off j k x (l * 8 + m) z = 0 := by
        unfold ent
        rw [show off + (l * 8 + m) = off + l * 8 + m by omega, hz]
        simp
      simp only [sm]
      rw [this, Int.add_zero]
    rw [e]
  · intro t _
    exact ⟨rfl, rfl, rfl, rfl, rfl, rfl, rfl, trivial⟩

theorem i_Hopf_tensor_1_ok (B : Bs P ρ) (E : E_i_Hopf_tensor_1 P ρ) {n N0 N off j k : Nat} {hd0 hd : List Int} {p x : Int} {f f0 fb g0 : By} {X : Nat → Int} (hp : 1 ≤ p) (hp2 : p ≤ 256) (hj : j < 8) (hk : k < 8) (hx : 0 ≤ x) (hx2 : x ≤ 255) (ho : hd.length ≤ off) (hN : off + 64 ≤ N) :
    CallOK P ρ 120 [.i .i64 (j : Int), .i .i64 (k : Int), .i .i64 x, .pt 3 0, .pt 4 0, .pt 5 0, .pt 6 0] [⟨true, .by hd0 N0 f0⟩, ⟨true, .by [p, (n : Int)] 1106 f⟩, ⟨true, .by hd N fb⟩, ⟨true, .vr (.pt 2 off)⟩, ⟨true, .vr (.pt 1 0)⟩, ⟨true, .by [p, (n : Int)] 2 g0⟩, ⟨false, .by [] 64 (vec 64 p X)⟩] (.tup []) [⟨true, .by hd0 N0 f0⟩, ⟨true, .by [p, (n : Int)] 1106 f⟩, ⟨true, .by hd N fb⟩, ⟨true, .vr (.pt 2 off)⟩, ⟨true, .vr (.pt 1 0)⟩, ⟨true, .by [p, (n : Int)] 2 g0⟩, ⟨false, .by [] 64 (vec 64 p fun z => X z + sm 64 fun q => ent p f fb off j k x q z)⟩] := by
  refine call_of_vc B.fn B.mo E.1 rfl rfl ?_
  have ein : vec 64 p X = vec 64 p fun z => X z + sm 0 fun q => ent p f fb off j k x q z := vec_congr fun z _ => cg_of_eq (by simp [sm])
  rw [ein]
  refine ⟨7, rfl, ?_⟩
  refine ⟨8, rfl, ?_⟩
  refine ⟨9, rfl, ?_⟩
  refine .inl ⟨10, [2, 1, 4, 7, 5, 6, 9, 8], _, _, _, _, [_, _, _, _, _, _, _, _, _, _], rfl, tn_inner B E (n := n) (f := f) (g0 := g0) (X := X) hp hp2 hj hk hx hx2 ho hN, rfl, ⟨⟨_, rfl, fun h => by first | rfl | cases h⟩, ⟨_, rfl, fun h => by first | rfl | cases h⟩, ⟨_, rfl, fun h => by first | rfl | cases h⟩, ⟨_, rfl, fun h => by first | rfl | cases h⟩, ⟨_, rfl, fun h => by first | rfl | cases h⟩, ⟨_, rfl, fun h => by first | rfl | cases h⟩, ⟨_, rfl, fun h => by first | rfl | cases h⟩, ⟨_, rfl, fun h => by first | rfl | cases h⟩, trivial⟩, rfl, rfl, ?_⟩
  exact ⟨rfl, [], rfl, rfl, ⟨rfl, rfl, rfl, rfl, rfl, rfl, rfl, trivial⟩, rfl, rfl⟩

end Hf
namespace Hf
open Go Classical
variable {P : Program} {ρ : Nat → FuncId}
def tno (p : Int) (f fa fb : By) (oa ob : Nat) (q z : Nat) : Int := sm 64 fun q2 => ent p f fb ob (q / 8) (q % 8) (bz fa (oa + q)) q2 z
def toC (n N : Nat) (hd : List Int) (p : Int) (f g0 fa fb : By) (oa ob t : Nat) : List Blk :=
  [⟨true, .by [p, (n : Int)] 1106 f⟩, ⟨true, .by hd N fb⟩, ⟨true, .vr (.pt 2 ob)⟩, ⟨true, .vr (.pt 1 0)⟩, ⟨true, .by [p, (n : Int)] 2 g0⟩, ⟨false, .by [] 64 (vec 64 p fun z => sm t fun q => tno p f fa fb oa ob q z)⟩]
theorem tn_outer (B : Bs P ρ) (E : E_i_Hopf_tensor_1 P ρ) {n Na N oa ob : Nat} {p : Int} {hda hd : List Int} {f g0 fa fb : By} (hp : 1 ≤ p) (hp2 : p ≤ 256) (hoa : hda.length ≤ oa) (hNa : oa + 64 ≤ Na) (ho : hd.length ≤ ob) (hN : ob + 64 ≤ N) :
    CallOK P ρ 60 [.pt 0 oa, .fn 120 [] [(3, 0), (4, 0), (5, 0), (6, 0)]] (⟨true, .by hda Na fa⟩ :: toC n N hd p f g0 fa fb oa ob 0) (.tup []) (⟨true, .by hda Na fa⟩ :: toC n N hd p f g0 fa fb oa ob 64) := by
  refine i_pairs_ok B E.2.2 (c := 6) (C := toC n N hd p f g0 fa fb oa ob) hoa hNa (fun _ _ => rfl) (by simp) ?_ ?_ ?_ ?_
  · intro t _ b hb
    simp only [toC, List.mem_cons, List.not_mem_nil, or_false] at hb
    rcases hb with rfl | rfl | rfl | rfl | rfl | rfl <;> rfl
  · intro l m hl hm _
    have h := i_Hopf_tensor_1_ok B E (n := n) (N0 := Na) (N := N) (hd0 := hda) (hd := hd) (f0 := fa) (f := f) (fb := fb) (g0 := g0) (p := p) (x := bz fa (oa + l * 8 + m)) (X := fun z => sm (l * 8 + m) fun q => tno p f fa fb oa ob q z) (j := l) (k := m) (off := ob) hp hp2 hl hm (bz_nn _ _) (bz_le _ _) ho hN
    have e : (vec 64 p fun z => (sm (l * 8 + m) fun q => tno p f fa fb oa ob q z) + sm 64 fun q => ent p f fb ob l m (bz fa (oa + l * 8 + m)) q z) = vec 64 p fun z => sm (l * 8 + m + 1) fun q => tno p f fa fb oa ob q z := by
      refine vec_congr fun z _ => cg_of_eq ?_
      have : tno p f fa fb oa ob (l * 8 + m) z = sm 64 fun q => ent p f fb ob l m (bz fa (oa + l * 8 + m)) q z := by
        unfold tno
        rw [show (l * 8 + m) / 8 = l by omega, show (l * 8 + m) % 8 = m by omega, show oa + (l * 8 + m) = oa + l * 8 + m by omega]
      simp only [sm]
      rw [this]
      simp only [sm]
    rw [e] at h
    exact h
  · intro l m hl hm hz
    unfold toC
    have e : (vec 64 p fun z => sm (l * 8 + m + 1) fun q => tno p f fa fb oa ob q z) = vec 64 p fun z => sm (l * 8 + m) fun q => tno p f fa fb oa ob q z := by
      refine vec_congr fun z _ => cg_of_eq ?_
      have : tno p f fa fb oa ob (l * 8 + m) z = 0 := by
        unfold tno
        refine sm_zero fun q _ => ?_
        unfold ent
        rw [show oa + (l * 8 + m) = oa + l * 8 + m by omega, hz]
        simp
      simp only [sm]
      rw [this, Int.add_zero]
    rw [e]
  · intro t _
    exact ⟨rfl, rfl, rfl, rfl, rfl, rfl, trivial⟩

theorem i_Hopf_tensor_ok (B : Bs P ρ) (E : E_i_Hopf_tensor P ρ) {n Na N oa ob : Nat} {p : Int} {hda hd : List Int} {f fa fb : By} (hp : 1 ≤ p) (hp2 : p ≤ 256) (hoa : hda.length ≤ oa) (hNa : oa + 64 ≤ Na) (ho : hd.length ≤ ob) (hN : ob + 64 ≤ N) :
    CallOK P ρ 109 [.pt 0 0, .pt 1 oa, .pt 2 ob] [⟨true, .by [p, (n : Int)] 1106 f⟩, ⟨true, .by hda Na fa⟩, ⟨true, .by hd N fb⟩] (.one (.ag [] 64 (vec 64 p fun z => sm 64 fun q => tno p f fa fb oa ob q z))) [⟨true, .by [p, (n : Int)] 1106 f⟩, ⟨true, .by hda Na fa⟩, ⟨true, .by hd N fb⟩] := by
  refine call_of_vc B.fn B.mo E.1 rfl rfl ?_
  refine ⟨3, rfl, ?_⟩
  refine ⟨4, rfl, ?_⟩
  refine ⟨5, rfl, ?_⟩
  refine .inl ⟨6, [0], _, _, _, _, [_, _, _, _, _, _], rfl, i_Hopf_field_ok B E.2.1 , rfl, ⟨⟨_, rfl, fun h => by first | rfl | cases h⟩, trivial⟩, rfl, rfl, ?_⟩
  refine ⟨6, rfl, ?_⟩
  refine ⟨7, rfl, ?_⟩
  refine ⟨⟨rfl, by first | omega | (simp <;> omega), by first | omega | (simp <;> omega)⟩, ?_⟩
  have e0 : spl (fun _ => 0) 0 64 (fun _ => 0) = vec 64 p fun z => sm 0 fun q => tno p f fa fb oa ob q z := by
    rw [z_sta]
    exact (vec_zero fun _ _ => rfl).symm
  refine .inl ⟨8, [1, 0, 2, 4, 3, 6, 7], _, _, _, _, [_, _, _, _, _, _, _, _], rfl, tn_outer B E.2.2.1 (n := n) (f := f) (g0 := fun _ => 0) (fa := fa) (fb := fb) hp hp2 hoa hNa ho hN, rfl, ⟨⟨_, rfl, fun h => by first | rfl | cases h⟩, ⟨_, rfl, fun h => by first | rfl | cases h⟩, ⟨_, rfl, fun h => by first | rfl | cases h⟩, ⟨_, rfl, fun h => by first | rfl | cases h⟩, ⟨_, rfl, fun h => by first | rfl | cases h⟩, ⟨_, rfl, fun h => by first | rfl | cases h⟩, ⟨_, congrArg (fun g => some (Blk.mk false (.by [] 64 g))) e0, fun h => by first | rfl | cases h⟩, trivial⟩, rfl, rfl, ?_⟩
  refine ⟨⟨by first | omega | (simp <;> omega), by first | omega | (simp <;> omega)⟩, ?_⟩
  refine ⟨⟨rfl, by first | omega | (simp <;> omega), by first | omega | (simp <;> omega)⟩, ?_⟩   -- sta ['.t', 6] ['.t', 15] 64
  refine ⟨rfl, ⟨by first | omega | (simp <;> omega), by first | omega | (simp <;> omega)⟩, [], ?_, rfl, ⟨rfl, rfl, rfl, trivial⟩, rfl, rfl⟩
  exact one_ag out_vec

end Hf
namespace Hf
open Go Classical
variable {P : Program} {ρ : Nat → FuncId}
theorem HShp.b {p : Int} {n : Nat} {f : By} (h : HShp p n f) : 2 ≤ p ∧ p ≤ 31 ∧ 1 ≤ n ∧ n ≤ 8 := ⟨h.1.1.1, h.1.1.2.1, by have := h.1.2.1; omega, by have := h.1.2.2; omega⟩
theorem Tab.z {p : Int} {n : Nat} {f : By} {o i j k : Nat} (h : Tab p n f o) (hi : i < 8) (hj : j < 8) (hk : k < 8) (hz : n ≤ i ∨ n ≤ j ∨ n ≤ k) : bz f (o + i * 64 + j * 8 + k) = 0 := by
  obtain ⟨h1, h2⟩ := h i hi
  rcases hz with hz | hz | hz
  · have := h2 (by omega) (j * 8 + k) (by omega)
    rw [← Nat.add_assoc] at this; exact this
  · exact (h1 j hj).2 (by omega) k hk
  · exact ((h1 j hj).1 k hk).2 (by omega)
theorem HShp.unit {p : Int} {n : Nat} {f : By} (h : HShp p n f) {k : Nat} (h1 : n ≤ k) (h2 : k < 8) : bz f (2 + k) = 0 := (h.2.1 k h2).2 (by omega)
theorem HShp.cou {p : Int} {n : Nat} {f : By} (h : HShp p n f) {k : Nat} (h1 : n ≤ k) (h2 : k < 8) : bz f (522 + k) = 0 := (h.2.2.2.1 k h2).2 (by omega)
theorem HShp.mul {p : Int} {n : Nat} {f : By} (h : HShp p n f) {i j k : Nat} (hi : i < 8) (hj : j < 8) (hk : k < 8) (hz : n ≤ i ∨ n ≤ j ∨ n ≤ k) : bz f (10 + i * 64 + j * 8 + k) = 0 := h.2.2.1.z hi hj hk hz
theorem HShp.com {p : Int} {n : Nat} {f : By} (h : HShp p n f) {i j k : Nat} (hi : i < 8) (hj : j < 8) (hk : k < 8) (hz : n ≤ i ∨ n ≤ j ∨ n ≤ k) : bz f (530 + i * 64 + j * 8 + k) = 0 := h.2.2.2.2.1.z hi hj hk hz
theorem sm_app {x : Nat → Int} {a : Nat} : ∀ {b : Nat}, sm (a + b) x = sm a x + sm b fun k => x (a + k)
  | 0 => by simp [sm]
  | b + 1 => by rw [← Nat.add_assoc]; simp only [sm]; rw [sm_app, Int.add_assoc]
theorem sm_two {x : Nat → Int} {b : Nat} : ∀ {a : Nat}, sm (a * b) x = sm a fun j => sm b fun k => x (j * b + k)
  | 0 => by simp [sm]
  | a + 1 => by rw [Nat.add_mul, Nat.one_mul, sm_app, sm_two]; rfl
theorem sm_64 {x : Nat → Int} : sm 64 x = sm 8 fun j => sm 8 fun k => x (j * 8 + k) := sm_two (a := 8) (b := 8)
/-- four sums in another order -/
theorem sum4 {n : Nat} (hn : n ≤ 8) {X Y M1 M2 : Nat → Nat → Int} (hX : ∀ a c, a < 8 → c < 8 → n ≤ a ∨ n ≤ c → X a c = 0) (hY : ∀ a c, a < 8 → c < 8 → n ≤ a ∨ n ≤ c → Y a c = 0) :
    (sm 8 fun a => sm 8 fun c => sm 8 fun b => sm 8 fun d => X a c * Y b d * M1 a b * M2 c d) = sm n fun a => sm n fun b => M1 a b * sm n fun c => sm n fun d => X a c * Y b d * M2 c d := by
  have z1 : ∀ a c, a < 8 → c < 8 → n ≤ a ∨ n ≤ c → (sm 8 fun b => sm 8 fun d => X a c * Y b d * M1 a b * M2 c d) = 0 := fun a c ha hc h => by
    refine sm_zero fun b _ => sm_zero fun d _ => ?_
    rw [hX a c ha hc h]; simp
  rw [sm_8n (n := n) hn fun a h1 h2 => sm_zero fun c hc => z1 a c h2 hc (.inl h1)]
  refine sm_congr fun a ha => ?_
  rw [sm_8n (n := n) hn fun c h1 h2 => z1 a c (by omega) h2 (.inr h1)]
  have e1 : (sm n fun c => sm 8 fun b => sm 8 fun d => X a c * Y b d * M1 a b * M2 c d) = sm n fun c => sm n fun b => sm n fun d => X a c * Y b d * M1 a b * M2 c d := by
    refine sm_congr fun c _ => ?_
    have z2 : ∀ b d, b < 8 → d < 8 → n ≤ b ∨ n ≤ d → X a c * Y b d * M1 a b * M2 c d = 0 := fun b d hb hd h => by
      rw [hY b d hb hd h]; simp
    rw [sm_8n (n := n) hn fun b h1 h2 => sm_zero fun d hd => z2 b d h2 hd (.inl h1)]
    exact sm_congr fun b hb => sm_8n hn fun d h1 h2 => z2 b d (by omega) h2 (.inr h1)
  rw [e1, sm_swap]
  refine sm_congr fun b _ => ?_
  rw [← sm_mul]
  refine sm_congr fun c _ => ?_
  rw [← sm_mul]
  refine sm_congr fun d _ => ?_
  rw [Int.mul_comm (M1 a b), Int.mul_assoc, Int.mul_assoc, Int.mul_assoc, Int.mul_assoc]
  congr 2
  exact Int.mul_comm _ _
/-- the product of two tables: they stand at oa and ob -/
def tns (n : Nat) (f fa fb : By) (oa ob z : Nat) : Int := sm n fun a => sm n fun b => mu f a b (z / 8) * prd n f 10 (sh fa (oa + a * 8)) (sh fb (ob + b * 8)) (z % 8)
theorem tno_eq {n : Nat} {p : Int} {f fa fb : By} {oa ob z : Nat} (hn : n ≤ 8) (ha : ∀ a c, a < 8 → c < 8 → n ≤ a ∨ n ≤ c → bz fa (oa + a * 8 + c) = 0) (hb : ∀ a c, a < 8 → c < 8 → n ≤ a ∨ n ≤ c → bz fb (ob + a * 8 + c) = 0) :
    cg p (sm 64 fun q => tno p f fa fb oa ob q z) (tns n f fa fb oa ob z) := by
  have e1 : cg p (sm 64 fun q => tno p f fa fb oa ob q z) (sm 64 fun q => sm 64 fun q2 => bz fa (oa + q) * bz fb (ob + q2) * mu f (q / 8) (q2 / 8) (z / 8) * mu f (q % 8) (q2 % 8) (z % 8)) :=
    cg_sm fun q _ => cg_sm fun q2 _ => cg_mul (cg_mul cg_mod rfl) rfl
  refine e1.trans (cg_of_eq ?_)
  have e2 : (sm 64 fun q => sm 64 fun q2 => bz fa (oa + q) * bz fb (ob + q2) * mu f (q / 8) (q2 / 8) (z / 8) * mu f (q % 8) (q2 % 8) (z % 8)) =
      sm 8 fun a => sm 8 fun c => sm 8 fun b => sm 8 fun d => bz fa (oa + a * 8 + c) * bz fb (ob + b * 8 + d) * mu f a b (z / 8) * mu f c d (z % 8) := by
    rw [sm_64]
    refine sm_congr fun a _ => sm_congr fun c hc => ?_
    rw [sm_64]
    refine sm_congr fun b _ => sm_congr fun d hd => ?_
    rw [show (a * 8 + c) / 8 = a by omega, show (a * 8 + c) % 8 = c by omega, show (b * 8 + d) / 8 = b by omega, show (b * 8 + d) % 8 = d by omega, show oa + (a * 8 + c) = oa + a * 8 + c by omega, show ob + (b * 8 + d) = ob + b * 8 + d by omega]
  rw [e2, sum4 (X := fun a c => bz fa (oa + a * 8 + c)) (Y := fun b d => bz fb (ob + b * 8 + d)) (M1 := fun a b => mu f a b (z / 8)) (M2 := fun c d => mu f c d (z % 8)) hn ha hb]
  rfl
/-- the axioms of a Hopf algebra -/
def Ax3 (p : Int) (n : Nat) (f : By) (i j : Nat) : Prop := vec 64 p (cop n f 530 (sh f (10 + i * 64 + j * 8))) = vec 64 p (tns n f f f (530 + i * 64) (530 + j * 64))
def Ax4 (p : Int) (n : Nat) (f : By) : Prop := vec 64 p (cop n f 530 (sh f 2)) = vec 64 p fun y => bz f (2 + y / 8) * bz f (2 + y % 8)
def ctu (n : Nat) (f v : By) : Int := sm n fun k => bz f (522 + k) * bz v k
def Ax5 (p : Int) (n : Nat) (f : By) (i j : Nat) : Prop := ctu n f (sh f (10 + i * 64 + j * 8)) % p = bz f (522 + i) * bz f (522 + j) % p
def prS (n : Nat) (f : By) (b : Bool) (j k : Nat) : Nat → Int := if b = true then prd n f 10 (sh f (1042 + j * 8)) (bas k) else prd n f 10 (bas j) (sh f (1042 + k * 8))
def fld (n : Nat) (f : By) (b : Bool) (i y : Nat) : Int := sm n fun j => sm n fun k => bz f (530 + i * 64 + j * 8 + k) * prS n f b j k y
def AxS (p : Int) (n : Nat) (f : By) (b : Bool) (i : Nat) : Prop := vec 8 p (fld n f b i) = vec 8 p fun y => bz f (522 + i) * bz f (2 + y)
theorem fld_eq {n : Nat} {p : Int} {f : By} {b : Bool} {i y : Nat} (h : HShp p n f) (hi : i < 8) :
    (sm 64 fun q => bz f (530 + i * 64 + q) * prS n f b (q / 8) (q % 8) y) = fld n f b i y := by
  have hb := h.b
  rw [sm_64]
  have e : ∀ j k, j < 8 → k < 8 → bz f (530 + i * 64 + (j * 8 + k)) * prS n f b ((j * 8 + k) / 8) ((j * 8 + k) % 8) y = bz f (530 + i * 64 + j * 8 + k) * prS n f b j k y := by
    intro j k hj hk
    rw [show (j * 8 + k) / 8 = j by omega, show (j * 8 + k) % 8 = k by omega, show 530 + i * 64 + (j * 8 + k) = 530 + i * 64 + j * 8 + k by omega]
  rw [sm_congr fun j hj => sm_congr fun k hk => e j k hj hk]
  rw [sm_8n (n := n) hb.2.2.2 fun j h1 h2 => sm_zero fun k hk => by rw [h.com hi h2 hk (.inr (.inl h1)), Int.zero_mul]]
  exact sm_congr fun j hj => sm_8n hb.2.2.2 fun k h1 h2 => by rw [h.com hi (by omega) h2 (.inr (.inr h1)), Int.zero_mul]

end Hf
namespace Hf
open Go Classical
variable {P : Program} {ρ : Nat → FuncId}
theorem i_Hopf_folded_1_ok (B : Bs P ρ) (E : E_i_Hopf_folded_1 P ρ) {n N0 : Nat} {hd0 : List Int} {p x : Int} {f f0 g0 : By} {X : Nat → Int} {b : Bool} {j k : Nat} (hp : 1 ≤ p) (hp2 : p ≤ 256) (hn : n ≤ 8) (hj : j < 8) (hk : k < 8) (hx : 0 ≤ x) (hx2 : x ≤ 255) :
    CallOK P ρ 121 [.i .i64 (j : Int), .i .i64 (k : Int), .i .i64 x, .pt 2 0, .pt 3 0, .pt 4 0, .pt 5 0] [⟨true, .by hd0 N0 f0⟩, ⟨true, .by [p, (n : Int)] 1106 f⟩, ⟨true, .vr (.b b)⟩, ⟨true, .by [p, (n : Int)] 2 g0⟩, ⟨false, .by [] 8 (vec 8 p X)⟩, ⟨true, .vr (.pt 1 0)⟩] (.tup []) [⟨true, .by hd0 N0 f0⟩, ⟨true, .by [p, (n : Int)] 1106 f⟩, ⟨true, .vr (.b b)⟩, ⟨true, .by [p, (n : Int)] 2 g0⟩, ⟨false, .by [] 8 (vec 8 p fun y => X y + x * prS n f b j k y)⟩, ⟨true, .vr (.pt 1 0)⟩] := by
  refine call_of_vc B.fn B.mo E.1 rfl rfl ?_
  refine ⟨fun h10 => ?_, fun h10 => ?_⟩
  · skip
    refine ⟨j, 1042 + j * 8, rfl, by omega, by omega, ?_⟩
    refine ⟨⟨by first | omega | (simp <;> omega), by first | omega | (simp <;> omega)⟩, ?_⟩
    refine ⟨6, [], _, _, _, _, [_, _, _, _, _, _], rfl, i_basis_ok B E.2.1 (i := k) hk, rfl, trivial, rfl, rfl, rfl, ?_⟩
    refine ⟨6, [1], _, _, _, _, [_, _, _, _, _, _], rfl, i_Hopf_product_ok B E.2.2.1 hp hp2 hn, rfl, ⟨⟨_, rfl, fun h => by first | rfl | cases h⟩, trivial⟩, rfl, rfl, rfl, ?_⟩
    refine .inl ⟨6, [4], _, _, _, _, [_, _, _, _, _, _], rfl, i_field_plus_ok B E.2.2.2 hp (by omega) (by simp) (by omega) (by omega) (by omega) (bz_vec_lt' hp hp2), rfl, ⟨⟨_, rfl, fun h => by first | rfl | cases h⟩, trivial⟩, rfl, rfl, ?_⟩
    refine ⟨rfl, [], rfl, rfl, ⟨rfl, rfl, rfl, rfl, ?_, rfl, trivial⟩, rfl, rfl⟩
    refine congrArg some (blk_by ?_)
    rw [pl_vec0 hp hp2]
    refine vec_congr fun y hy => cg_add rfl (cg_mul rfl ?_)
    rw [prS, if_pos h10]
    exact cg_vec hp hp2 hy
  · skip
    refine ⟨6, [], _, _, _, _, [_, _, _, _, _, _], rfl, i_basis_ok B E.2.1 (i := j) hj, rfl, trivial, rfl, rfl, rfl, ?_⟩
    refine ⟨k, 1042 + k * 8, rfl, by omega, by omega, ?_⟩
    refine ⟨⟨by first | omega | (simp <;> omega), by first | omega | (simp <;> omega)⟩, ?_⟩
    refine ⟨6, [1], _, _, _, _, [_, _, _, _, _, _], rfl, i_Hopf_product_ok B E.2.2.1 hp hp2 hn, rfl, ⟨⟨_, rfl, fun h => by first | rfl | cases h⟩, trivial⟩, rfl, rfl, rfl, ?_⟩
    refine .inl ⟨6, [4], _, _, _, _, [_, _, _, _, _, _], rfl, i_field_plus_ok B E.2.2.2 hp (by omega) (by simp) (by omega) (by omega) (by omega) (bz_vec_lt' hp hp2), rfl, ⟨⟨_, rfl, fun h => by first | rfl | cases h⟩, trivial⟩, rfl, rfl, ?_⟩
    refine ⟨rfl, [], rfl, rfl, ⟨rfl, rfl, rfl, rfl, ?_, rfl, trivial⟩, rfl, rfl⟩
    refine congrArg some (blk_by ?_)
    rw [pl_vec0 hp hp2]
    refine vec_congr fun y hy => cg_add rfl (cg_mul rfl ?_)
    rw [prS, if_neg (by simp [h10])]
    exact cg_vec hp hp2 hy

def fdC (n : Nat) (p : Int) (f g0 : By) (b : Bool) (i t : Nat) : List Blk :=
  [⟨true, .by [p, (n : Int)] 1106 f⟩, ⟨true, .vr (.b b)⟩, ⟨true, .by [p, (n : Int)] 2 g0⟩, ⟨false, .by [] 8 (vec 8 p fun y => sm t fun q => bz f (530 + i * 64 + q) * prS n f b (q / 8) (q % 8) y)⟩, ⟨true, .vr (.pt 1 0)⟩]
theorem fd_loop (B : Bs P ρ) (E : E_i_Hopf_folded P ρ) {n i : Nat} {p : Int} {f g0 : By} {b : Bool} (hp : 1 ≤ p) (hp2 : p ≤ 256) (hn : n ≤ 8) (hi : i < 8) :
    CallOK P ρ 60 [.pt 0 (530 + i * 64), .fn 121 [] [(2, 0), (3, 0), (4, 0), (5, 0)]] (⟨true, .by [p, (n : Int)] 1106 f⟩ :: fdC n p f g0 b i 0) (.tup []) (⟨true, .by [p, (n : Int)] 1106 f⟩ :: fdC n p f g0 b i 64) := by
  refine i_pairs_ok B E.2.2.2 (c := 5) (C := fdC n p f g0 b i) (by simp; omega) (by omega) (fun _ _ => rfl) (by simp) ?_ ?_ ?_ ?_
  · intro t _ b hb
    simp only [fdC, List.mem_cons, List.not_mem_nil, or_false] at hb
    rcases hb with rfl | rfl | rfl | rfl | rfl <;> rfl
  · intro l m hl hm _
    have h := i_Hopf_folded_1_ok B E.2.2.1 (n := n) (N0 := 1106) (hd0 := [p, (n : Int)]) (f0 := f) (f := f) (g0 := g0) (p := p) (b := b) (x := bz f (530 + i * 64 + l * 8 + m)) (X := fun y => sm (l * 8 + m) fun q => bz f (530 + i * 64 + q) * prS n f b (q / 8) (q % 8) y) (j := l) (k := m) hp hp2 hn hl hm (bz_nn _ _) (bz_le _ _)
    have e : (vec 8 p fun y => (sm (l * 8 + m) fun q => bz f (530 + i * 64 + q) * prS n f b (q / 8) (q % 8) y) + bz f (530 + i * 64 + l * 8 + m) * prS n f b l m y) = vec 8 p fun y => sm (l * 8 + m + 1) fun q => bz f (530 + i * 64 + q) * prS n f b (q / 8) (q % 8) y := by
      refine vec_congr fun y _ => cg_of_eq ?_
      simp only [sm]
      rw [show (l * 8 + m) / 8 = l by omega, show (l * 8 + m) % 8 = m by omega, show 530 + i * 64 + (l * 8 + m) = 530 + i * 64 + l * 8 + m by omega]
    rw [e] at h
    exact h
  · intro l m hl hm hz
    unfold fdC
    have e : (vec 8 p fun y => sm (l * 8 + m + 1) fun q => bz f (530 + i * 64 + q) * prS n f b (q / 8) (q % 8) y) = vec 8 p fun y => sm (l * 8 + m) fun q => bz f (530 + i * 64 + q) * prS n f b (q / 8) (q % 8) y := by
      refine vec_congr fun y _ => cg_of_eq ?_
      simp only [sm]
      rw [show 530 + i * 64 + (l * 8 + m) = 530 + i * 64 + l * 8 + m by omega, hz, Int.zero_mul, Int.add_zero]
    rw [e]
  · intro t _
    exact ⟨rfl, rfl, rfl, rfl, rfl, trivial⟩

theorem i_Hopf_folded_ok (B : Bs P ρ) (E : E_i_Hopf_folded P ρ) {n i : Nat} {p : Int} {f : By} {b : Bool} (h : HShp p n f) (hi : i < 8) :
    CallOK P ρ 113 [.pt 0 0, .i .i64 (i : Int), .b b] [⟨true, .by [p, (n : Int)] 1106 f⟩] (.one (.ag [] 8 (vec 8 p (fld n f b i)))) [⟨true, .by [p, (n : Int)] 1106 f⟩] := by
  refine call_of_vc B.fn B.mo E.1 rfl rfl ?_
  have hb := h.b
  have hp : 1 ≤ p := by omega
  have hp2 : p ≤ 256 := by omega
  refine ⟨1, rfl, ?_⟩
  refine ⟨2, rfl, ?_⟩
  refine ⟨3, rfl, ?_⟩
  refine .inl ⟨4, [0], _, _, _, _, [_, _, _, _], rfl, i_Hopf_field_ok B E.2.1 , rfl, ⟨⟨_, rfl, fun h => by first | rfl | cases h⟩, trivial⟩, rfl, rfl, ?_⟩
  refine ⟨4, rfl, ?_⟩
  refine ⟨5, rfl, ?_⟩
  refine ⟨⟨rfl, by first | omega | (simp <;> omega), by first | omega | (simp <;> omega)⟩, ?_⟩   -- sta ['.t', 8] ['.t', 11] 8
  refine ⟨i, 530 + i * 64, rfl, by omega, by omega, ?_⟩
  have e0 : spl (fun _ => 0) 0 8 (fun _ => 0) = vec 8 p fun y => sm 0 fun q => bz f (530 + i * 64 + q) * prS n f b (q / 8) (q % 8) y := by
    rw [z_sta]
    exact (vec_zero fun _ _ => rfl).symm
  refine .inl ⟨6, [0, 0, 2, 4, 5, 1], _, _, _, _, [_, _, _, _, _, _], rfl, fd_loop B E (n := n) (f := f) (g0 := fun _ => 0) (b := b) hp hp2 hb.2.2.2 hi, rfl, ⟨⟨_, rfl, fun h => by first | rfl | cases h⟩, ⟨_, rfl, fun h => by first | rfl | cases h⟩, ⟨_, rfl, fun h => by first | rfl | cases h⟩, ⟨_, rfl, fun h => by first | rfl | cases h⟩, ⟨_, congrArg (fun g => some (Blk.mk false (.by [] 8 g))) e0, fun h => by first | rfl | cases h⟩, ⟨_, rfl, fun h => by first | rfl | cases h⟩, trivial⟩, rfl, rfl, ?_⟩
  refine ⟨⟨by first | omega | (simp <;> omega), by first | omega | (simp <;> omega)⟩, ?_⟩
  refine ⟨⟨rfl, by first | omega | (simp <;> omega), by first | omega | (simp <;> omega)⟩, ?_⟩   -- sta ['.t', 6] ['.t', 19] 8
  refine ⟨rfl, ⟨by first | omega | (simp <;> omega), by first | omega | (simp <;> omega)⟩, [], ?_, rfl, ⟨rfl, trivial⟩, rfl, rfl⟩
  refine one_ag (out_vec.trans (vec_congr fun y _ => cg_of_eq ?_))
  exact fld_eq h hi

theorem i_Hopf_axiomS_ok (B : Bs P ρ) (E : E_i_Hopf_axiomS P ρ) {n : Nat} {p : Int} {f : By} {b : Bool} (h : HShp p n f) :
    CallOK P ρ 112 [.pt 0 0, .b b] [⟨true, .by [p, (n : Int)] 1106 f⟩] (.one (.b (decide (∀ i, i < n → AxS p n f b i)))) [⟨true, .by [p, (n : Int)] 1106 f⟩] := by
  refine call_of_vc B.fn B.mo E.1 rfl rfl ?_
  have hb := h.b
  refine .inl ⟨1, [0], _, _, _, _, [_], rfl, i_Hopf_field_ok B E.2.1 , rfl, ⟨⟨_, rfl, fun h => by first | rfl | cases h⟩, trivial⟩, rfl, rfl, ?_⟩
  refine ⟨1, rfl, ?_⟩
  refine .inl ⟨(fun a0 a1 a10 b0 b1 i0 => St.mk [(0, a0), (1, a1), (5, .one (.pt 1 0)), (10, a10), (11, .one (.i .i64 ((i0 : Nat) : Int)))] [b0, b1]) _ _ _ _ _ , fun i0 => ∀ i, i < i0 → AxS p n f b i, n, fun _ _ => by omega, ⟨⟨rfl, rfl, rfl, rfl, rfl, trivial⟩, ⟨rfl, rfl, trivial⟩, rfl⟩, fun i0 hi0 hF0 => ?_⟩
  refine ⟨fun h12 => ?_, fun h12 => ?_⟩
  · replace h12 := of_decide_eq_true h12
    have q0 := bz_nn f (522 + i0)
    have q1 := bz_le f (522 + i0)
    refine ⟨2, [0], _, _, _, _, [_, _], rfl, i_Hopf_folded_ok B E.2.2.1 (i := i0) h (by omega), rfl, ⟨⟨_, rfl, fun h => by first | rfl | cases h⟩, trivial⟩, rfl, rfl, rfl, ?_⟩
    refine ⟨i0, 522 + i0, rfl, by omega, by omega, ?_⟩
    refine ⟨⟨by first | omega | (simp <;> omega), by first | omega | (simp <;> omega)⟩, ?_⟩
    refine ⟨⟨by first | omega | (simp <;> omega), by first | omega | (simp <;> omega)⟩, ?_⟩
    refine .inl ⟨2, [], _, _, _, _, [_, _], rfl, i_field_times_ok B E.2.2.2 (k := bz f (522 + i0)) (by omega) (by omega) (by omega) (by omega), rfl, trivial, rfl, rfl, ?_⟩
    refine ⟨fun h31 => ?_, fun h31 => ?_⟩
    · skip
      refine ⟨rfl, [], ?_, rfl, ⟨rfl, trivial⟩, rfl, rfl⟩
      exact one_b (dec_f fun q => neB_t h31 fun x _ => congrFun (q i0 (by omega)) x)
    · skip
      refine ⟨((i0 + 1 : Nat) : Int), w64_id _ (by omega) (by omega), ?_⟩
      refine ⟨by omega, ?_, ⟨rfl, rfl, rfl, rfl, rfl, trivial⟩, ⟨rfl, rfl, trivial⟩, rfl⟩
      intro k hk
      by_cases e : k = i0
      · subst e
        exact vec_ext (fun x hx => vec_out hx) (neB_f h31)
      · exact hF0 k (by omega)
  · replace h12 := of_decide_eq_false h12
    have e0 : n = i0 := by omega
    subst e0
    refine ⟨rfl, [], ?_, rfl, ⟨rfl, trivial⟩, rfl, rfl⟩
    exact one_b (dec_t hF0)

theorem i_Hopf_axiom3_ok (B : Bs P ρ) (E : E_i_Hopf_axiom3 P ρ) {n : Nat} {p : Int} {f : By} (h : HShp p n f) :
    CallOK P ρ 86 [.pt 0 0] [⟨true, .by [p, (n : Int)] 1106 f⟩] (.one (.b (decide (∀ i j, i < n → j < n → Ax3 p n f i j)))) [⟨true, .by [p, (n : Int)] 1106 f⟩] := by
  refine call_of_vc B.fn B.mo E.1 rfl rfl ?_
  have hb := h.b
  refine .inl ⟨(fun a0 a3 a10 b0 i0 => St.mk [(0, a0), (3, a3), (10, a10), (11, .one (.i .i64 ((i0 : Nat) : Int)))] [b0]) _ _ _ _ , fun i0 => ∀ i, i < i0 → ∀ j, j < n → Ax3 p n f i j, n, fun _ _ => by omega, ⟨⟨rfl, rfl, rfl, rfl, trivial⟩, ⟨rfl, trivial⟩, rfl⟩, fun i0 hi0 hF0 => ?_⟩
  refine ⟨fun h12 => ?_, fun h12 => ?_⟩
  · replace h12 := of_decide_eq_true h12
    refine .inl ⟨(fun a0 a3 a4 a10 a11 a14 b0 i1 => St.mk [(0, a0), (3, a3), (4, a4), (10, a10), (11, a11), (14, a14), (15, .one (.i .i64 ((i1 : Nat) : Int)))] [b0]) _ _ _ _ _ _ _ , fun i1 => ∀ j, j < i1 → Ax3 p n f i0 j, n, fun _ _ => by omega, ⟨⟨rfl, rfl, rfl, rfl, rfl, rfl, rfl, trivial⟩, ⟨rfl, trivial⟩, rfl⟩, fun i1 hi1 hF1 => ?_⟩
    refine ⟨fun h16 => ?_, fun h16 => ?_⟩
    · replace h16 := of_decide_eq_true h16
      refine ⟨i0, 10 + i0 * 64, rfl, by omega, by omega, ?_⟩
      refine ⟨i1, 10 + i0 * 64 + i1 * 8, rfl, by omega, by omega, ?_⟩
      refine ⟨⟨by first | omega | (simp <;> omega), by first | omega | (simp <;> omega)⟩, ?_⟩
      refine ⟨1, [0], _, _, _, _, [_], rfl, i_Hopf_coproduct_ok B E.2.1 (by omega) (by omega) (by omega) (fun k h1 h2 => by rw [bz_sh]; exact h.mul (by omega) (by omega) h2 (.inr (.inr h1))), rfl, ⟨⟨_, rfl, fun h => by first | rfl | cases h⟩, trivial⟩, rfl, rfl, rfl, ?_⟩
      refine ⟨i0, 530 + i0 * 64, rfl, by omega, by omega, ?_⟩
      refine ⟨i1, 530 + i1 * 64, rfl, by omega, by omega, ?_⟩
      refine .inl ⟨1, [0, 0, 0], _, _, _, _, [_], rfl, i_Hopf_tensor_ok B E.2.2 (by omega) (by omega) (by simp; omega) (by omega) (by simp; omega) (by omega), rfl, ⟨⟨_, rfl, fun h => by first | rfl | cases h⟩, ⟨_, rfl, fun h => by first | rfl | cases h⟩, ⟨_, rfl, fun h => by first | rfl | cases h⟩, trivial⟩, rfl, rfl, ?_⟩
      have e40 : (vec 64 p fun z => sm 64 fun q => tno p f f f (530 + i0 * 64) (530 + i1 * 64) q z) = vec 64 p (tns n f f f (530 + i0 * 64) (530 + i1 * 64)) :=
        vec_congr fun z _ => tno_eq hb.2.2.2 (fun a c ha hc hz => h.com (by omega) ha hc (.inr hz)) (fun a c ha hc hz => h.com (by omega) ha hc (.inr hz))
      refine ⟨fun h40 => ?_, fun h40 => ?_⟩
      · skip
        have z40 := neB_t h40
        rw [e40] at z40
        refine ⟨rfl, [], ?_, rfl, ⟨rfl, trivial⟩, rfl, rfl⟩
        exact one_b (dec_f fun q => z40 fun x _ => congrFun (q i0 i1 (by omega) (by omega)) x)
      · skip
        have z40 := neB_f h40
        rw [e40] at z40
        refine ⟨((i1 + 1 : Nat) : Int), w64_id _ (by omega) (by omega), ?_⟩
        refine ⟨by omega, ?_, ⟨rfl, rfl, rfl, rfl, rfl, rfl, rfl, trivial⟩, ⟨rfl, trivial⟩, rfl⟩
        intro j hj
        by_cases e : j = i1
        · subst e
          exact vec_ext (fun x hx => vec_out hx) z40
        · exact hF1 j (by omega)
    · replace h16 := of_decide_eq_false h16
      have e1 : n = i1 := by omega
      subst e1
      refine ⟨((i0 + 1 : Nat) : Int), w64_id _ (by omega) (by omega), ?_⟩
      refine ⟨by omega, ?_, ⟨rfl, rfl, rfl, rfl, trivial⟩, ⟨rfl, trivial⟩, rfl⟩
      intro i hi j hj
      by_cases e : i = i0
      · subst e; exact hF1 j hj
      · exact hF0 i (by omega) j hj
  · replace h12 := of_decide_eq_false h12
    have e0 : n = i0 := by omega
    subst e0
    refine ⟨rfl, [], ?_, rfl, ⟨rfl, trivial⟩, rfl, rfl⟩
    exact one_b (dec_t fun i j hi hj => hF0 i hi j hj)

theorem i_Hopf_axiom4_ok (B : Bs P ρ) (E : E_i_Hopf_axiom4 P ρ) {n : Nat} {p : Int} {f : By} (h : HShp p n f) :
    CallOK P ρ 87 [.pt 0 0] [⟨true, .by [p, (n : Int)] 1106 f⟩] (.one (.b (decide (Ax4 p n f)))) [⟨true, .by [p, (n : Int)] 1106 f⟩] := by
  refine call_of_vc B.fn B.mo E.1 rfl rfl ?_
  have hb := h.b
  refine ⟨⟨by first | omega | (simp <;> omega), by first | omega | (simp <;> omega)⟩, ?_⟩
  refine ⟨1, [0], _, _, _, _, [_], rfl, i_Hopf_coproduct_ok B E.2.1 (by omega) (by omega) (by omega) (fun k h1 h2 => by rw [bz_sh]; exact h.unit h1 h2), rfl, ⟨⟨_, rfl, fun h => by first | rfl | cases h⟩, trivial⟩, rfl, rfl, rfl, ?_⟩
  refine ⟨1, [0], _, _, _, _, [_], rfl, i_Hopf_field_ok B E.2.2.1 , rfl, ⟨⟨_, rfl, fun h => by first | rfl | cases h⟩, trivial⟩, rfl, rfl, rfl, ?_⟩
  refine ⟨⟨by first | omega | (simp <;> omega), by first | omega | (simp <;> omega)⟩, ?_⟩
  refine ⟨⟨by first | omega | (simp <;> omega), by first | omega | (simp <;> omega)⟩, ?_⟩
  refine .inl ⟨1, [], _, _, _, _, [_], rfl, i_field_pair_ok B E.2.2.2 (by omega) (by omega), rfl, trivial, rfl, rfl, ?_⟩
  refine ⟨rfl, [], ?_, rfl, ⟨rfl, trivial⟩, rfl, rfl⟩
  refine one_b ?_
  rw [Bool.eq_iff_iff, eqB_iff, decide_eq_true_iff]
  exact ⟨fun q => vec_ext (fun x hx => vec_out hx) q, fun q x _ => congrFun q x⟩

theorem i_Hopf_axiom5_ok (B : Bs P ρ) (E : E_i_Hopf_axiom5 P ρ) {n : Nat} {p : Int} {f : By} (h : HShp p n f) :
    CallOK P ρ 88 [.pt 0 0] [⟨true, .by [p, (n : Int)] 1106 f⟩] (.one (.b (decide ((∀ i j, i < n → j < n → Ax5 p n f i j) ∧ ctu n f (sh f 2) % p = 1)))) [⟨true, .by [p, (n : Int)] 1106 f⟩] := by
  refine call_of_vc B.fn B.mo E.1 rfl rfl ?_
  have hb := h.b
  have hc : ∀ v : By, sm 8 (fun k => bz f (522 + k) * bz v k) = ctu n f v := fun v => sm_8n hb.2.2.2 fun k h1 h2 => by rw [h.cou h1 h2, Int.zero_mul]
  refine .inl ⟨1, [0], _, _, _, _, [_], rfl, i_Hopf_field_ok B E.2.1 , rfl, ⟨⟨_, rfl, fun h => by first | rfl | cases h⟩, trivial⟩, rfl, rfl, ?_⟩
  refine ⟨1, rfl, ?_⟩
  refine .inl ⟨(fun a0 a9 b0 b1 i0 => St.mk [(0, a0), (3, .one (.pt 1 0)), (9, a9), (10, .one (.i .i64 ((i0 : Nat) : Int)))] [b0, b1]) _ _ _ _ , fun i0 => ∀ i, i < i0 → ∀ j, j < n → Ax5 p n f i j, n, fun _ _ => by omega, ⟨⟨rfl, rfl, rfl, rfl, trivial⟩, ⟨rfl, rfl, trivial⟩, rfl⟩, fun i0 hi0 hF0 => ?_⟩
  refine ⟨fun h11 => ?_, fun h11 => ?_⟩
  · replace h11 := of_decide_eq_true h11
    refine .inl ⟨(fun a0 a4 a9 a10 a14 b0 b1 i1 => St.mk [(0, a0), (3, .one (.pt 1 0)), (4, a4), (9, a9), (10, a10), (14, a14), (15, .one (.i .i64 ((i1 : Nat) : Int)))] [b0, b1]) _ _ _ _ _ _ _ , fun i1 => ∀ j, j < i1 → Ax5 p n f i0 j, n, fun _ _ => by omega, ⟨⟨rfl, rfl, rfl, rfl, rfl, rfl, rfl, trivial⟩, ⟨rfl, rfl, trivial⟩, rfl⟩, fun i1 hi1 hF1 => ?_⟩
    refine ⟨fun h16 => ?_, fun h16 => ?_⟩
    · replace h16 := of_decide_eq_true h16
      have q0 := bz2 f f (522 + i0) (522 + i1)
      refine ⟨i0, 10 + i0 * 64, rfl, by omega, by omega, ?_⟩
      refine ⟨i1, 10 + i0 * 64 + i1 * 8, rfl, by omega, by omega, ?_⟩
      refine ⟨⟨by first | omega | (simp <;> omega), by first | omega | (simp <;> omega)⟩, ?_⟩
      refine ⟨2, [0], _, _, _, _, [_, _], rfl, i_Hopf_counit_ok B E.2.2 (by omega) (by omega), rfl, ⟨⟨_, rfl, fun h => by first | rfl | cases h⟩, trivial⟩, rfl, rfl, rfl, ?_⟩
      refine ⟨i0, 522 + i0, rfl, by omega, by omega, ?_⟩
      refine ⟨⟨by first | omega | (simp <;> omega), by first | omega | (simp <;> omega)⟩, ?_⟩
      refine ⟨i1, 522 + i1, rfl, by omega, by omega, ?_⟩
      refine ⟨⟨by first | omega | (simp <;> omega), by first | omega | (simp <;> omega)⟩, ?_⟩
      refine ⟨bz f (522 + i0) * bz f (522 + i1), w64_id (bz f (522 + i0) * bz f (522 + i1)) (by omega) (by omega), ?_⟩
      refine ⟨by omega, bz f (522 + i0) * bz f (522 + i1) % p, Int.tmod_eq_emod_of_nonneg q0.1, ?_⟩
      refine ⟨fun h46 => ?_, fun h46 => ?_⟩
      · replace h46 := bne_t h46
        rw [hc] at h46
        refine ⟨rfl, [], ?_, rfl, ⟨rfl, trivial⟩, rfl, rfl⟩
        exact one_b (dec_f fun q => h46 (q.1 i0 i1 (by omega) (by omega)))
      · replace h46 := bne_f h46
        rw [hc] at h46
        refine ⟨((i1 + 1 : Nat) : Int), w64_id _ (by omega) (by omega), ?_⟩
        refine ⟨by omega, ?_, ⟨rfl, rfl, rfl, rfl, rfl, rfl, rfl, trivial⟩, ⟨rfl, rfl, trivial⟩, rfl⟩
        intro j hj
        by_cases e : j = i1
        · subst e; exact h46
        · exact hF1 j (by omega)
    · replace h16 := of_decide_eq_false h16
      have e1 : n = i1 := by omega
      subst e1
      refine ⟨((i0 + 1 : Nat) : Int), w64_id _ (by omega) (by omega), ?_⟩
      refine ⟨by omega, ?_, ⟨rfl, rfl, rfl, rfl, trivial⟩, ⟨rfl, rfl, trivial⟩, rfl⟩
      intro i hi j hj
      by_cases e : i = i0
      · subst e; exact hF1 j hj
      · exact hF0 i (by omega) j hj
  · replace h11 := of_decide_eq_false h11
    have e0 : n = i0 := by omega
    subst e0
    refine ⟨⟨by first | omega | (simp <;> omega), by first | omega | (simp <;> omega)⟩, ?_⟩
    refine .inl ⟨2, [0], _, _, _, _, [_, _], rfl, i_Hopf_counit_ok B E.2.2 (by omega) (by omega), rfl, ⟨⟨_, rfl, fun h => by first | rfl | cases h⟩, trivial⟩, rfl, rfl, ?_⟩
    refine ⟨rfl, [], ?_, rfl, ⟨rfl, trivial⟩, rfl, rfl⟩
    refine one_b ?_
    rw [hc, Bool.eq_iff_iff, beq_iff_eq, decide_eq_true_iff]
    exact ⟨fun q => ⟨fun i j hi hj => hF0 i hi j hj, q⟩, fun q => q.2⟩

end Hf
namespace Hf
open Go Classical
variable {P : Program} {ρ : Nat → FuncId}
/-- a call under another numbering of the blocks -/
theorem CallOK.emb {f : Nat} {as args : List At} {Hc Hc' H H' : List Blk} {v v' : Sv} (h : CallOK P ρ f as Hc v Hc') (τ : List Nat) (ha : args = as.map (mva (tau τ H.length))) (he : emb (tau τ H.length) H τ Hc) (hp : apart τ Hc = true)
    (hv : mvs (tau τ H.length) v = v') (hb : back (tau τ H.length) τ Hc Hc' H ++ (Hc'.drop Hc.length).map (fun B => ⟨B.ro, mvb (tau τ H.length) B.c⟩) = H') : CallOK P ρ f args H v' H' := by
  intro σ w hh
  have hc : vcall P ρ H f args (fun u G => u = v' ∧ G = H') := ⟨H.length, τ, as, Hc, v, Hc', H', rfl, h, ha, he, hp, hb, hv, rfl⟩
  refine (call_sound hh hc).mono ?_
  rintro e w' ⟨u, G, σ', rfl, ⟨rfl, rfl⟩, sp, hl⟩
  exact ⟨σ', rfl, sp, hl⟩

/-- the first place at which q holds, or -1 -/
def firstQ (q : Nat → Bool) : Nat → Nat → Int
  | 0, _ => -1
  | n + 1, i => if q i = true then (i : Int) else firstQ q n (i + 1)
theorem firstQ_none {q : Nat → Bool} : ∀ {n i : Nat}, (∀ j, i ≤ j → j < i + n → q j = false) → firstQ q n i = -1
  | 0, _, _ => rfl
  | n + 1, i, h => by
    simp only [firstQ]
    rw [if_neg (by rw [h i (Nat.le_refl _) (by omega)]; simp), firstQ_none fun j h1 h2 => h j (by omega) (by omega)]
theorem firstQ_some {q : Nat → Bool} {k : Nat} : ∀ {n i : Nat}, i ≤ k → k < i + n → q k = true → (∀ j, i ≤ j → j < k → q j = false) → firstQ q n i = (k : Int)
  | 0, _, h1, h2, _, _ => by omega
  | n + 1, i, h1, h2, h3, h4 => by
    simp only [firstQ]
    by_cases e : i = k
    · subst e; rw [if_pos h3]
    · rw [if_neg (by rw [h4 i (Nat.le_refl _) (by omega)]; simp), firstQ_some (by omega) (by omega) h3 fun j h5 h6 => h4 j (by omega) h6]
end Hf
namespace Hf
open Go Classical
variable {P : Program} {ρ : Nat → FuncId}
/-- the seven axioms, counted from 0 -/
def AxN (p : Int) (n : Nat) (f : By) : Nat → Prop
  | 0 => Alg p n f
  | 1 => Cog p n (sh f 520)
  | 2 => ∀ i j, i < n → j < n → Ax3 p n f i j
  | 3 => Ax4 p n f
  | 4 => (∀ i j, i < n → j < n → Ax5 p n f i j) ∧ ctu n f (sh f 2) % p = 1
  | 5 => ∀ i, i < n → AxS p n f true i
  | _ => ∀ i, i < n → AxS p n f false i

theorem i_Hopf_fails_1_ok (B : Bs P ρ) (E : E_i_Hopf_fails_1 P ρ) {n p : Int} {f : By} :
    CallOK P ρ 84 [.pt 0 0] [⟨true, .vr (.pt 1 0)⟩, ⟨true, .by [p, n] 1106 f⟩] (.one (.b (decide (Alg p n f)))) [⟨true, .vr (.pt 1 0)⟩, ⟨true, .by [p, n] 1106 f⟩] := by
  refine call_of_vc B.fn B.mo E.1 rfl rfl ?_
  refine .inl ⟨2, [1], _, _, _, _, [_, _, _], rfl, i_Hopf_algebra_ok B E.2.1 , rfl, ⟨⟨_, rfl, fun h => by first | rfl | cases h⟩, trivial⟩, rfl, rfl, ?_⟩
  refine .inl ⟨3, [], _, _, _, _, [_, _, _], rfl, i_IsAlgebra_ok B E.2.2 , rfl, trivial, rfl, rfl, ?_⟩
  exact ⟨rfl, [], rfl, rfl, ⟨rfl, rfl, trivial⟩, rfl, rfl⟩

theorem i_Hopf_fails_2_ok (B : Bs P ρ) (E : E_i_Hopf_fails_2 P ρ) {n p : Int} {f : By} :
    CallOK P ρ 85 [.pt 0 0] [⟨true, .vr (.pt 1 0)⟩, ⟨true, .by [p, n] 1106 f⟩] (.one (.b (decide (Cog p n (sh f 520))))) [⟨true, .vr (.pt 1 0)⟩, ⟨true, .by [p, n] 1106 f⟩] := by
  refine call_of_vc B.fn B.mo E.1 rfl rfl ?_
  refine .inl ⟨2, [1], _, _, _, _, [_, _, _], rfl, i_Hopf_coalgebra_ok B E.2.1 , rfl, ⟨⟨_, rfl, fun h => by first | rfl | cases h⟩, trivial⟩, rfl, rfl, ?_⟩
  refine .inl ⟨3, [], _, _, _, _, [_, _, _], rfl, i_IsCoalgebra_ok B E.2.2 , rfl, trivial, rfl, rfl, ?_⟩
  exact ⟨rfl, [], rfl, rfl, ⟨rfl, rfl, trivial⟩, rfl, rfl⟩

theorem i_Hopf_fails_3_ok (B : Bs P ρ) (E : E_i_Hopf_fails_3 P ρ) {n : Nat} {p : Int} {f : By} (h : HShp p n f) :
    CallOK P ρ 89 [.pt 0 0] [⟨true, .vr (.pt 1 0)⟩, ⟨true, .by [p, (n : Int)] 1106 f⟩] (.one (.b (decide (∀ i, i < n → AxS p n f true i)))) [⟨true, .vr (.pt 1 0)⟩, ⟨true, .by [p, (n : Int)] 1106 f⟩] := by
  refine call_of_vc B.fn B.mo E.1 rfl rfl ?_
  refine .inl ⟨2, [1], _, _, _, _, [_, _], rfl, i_Hopf_axiomS_ok B E.2 h, rfl, ⟨⟨_, rfl, fun h => by first | rfl | cases h⟩, trivial⟩, rfl, rfl, ?_⟩
  exact ⟨rfl, [], rfl, rfl, ⟨rfl, rfl, trivial⟩, rfl, rfl⟩

theorem i_Hopf_fails_4_ok (B : Bs P ρ) (E : E_i_Hopf_fails_4 P ρ) {n : Nat} {p : Int} {f : By} (h : HShp p n f) :
    CallOK P ρ 90 [.pt 0 0] [⟨true, .vr (.pt 1 0)⟩, ⟨true, .by [p, (n : Int)] 1106 f⟩] (.one (.b (decide (∀ i, i < n → AxS p n f false i)))) [⟨true, .vr (.pt 1 0)⟩, ⟨true, .by [p, (n : Int)] 1106 f⟩] := by
  refine call_of_vc B.fn B.mo E.1 rfl rfl ?_
  refine .inl ⟨2, [1], _, _, _, _, [_, _], rfl, i_Hopf_axiomS_ok B E.2 h, rfl, ⟨⟨_, rfl, fun h => by first | rfl | cases h⟩, trivial⟩, rfl, rfl, ?_⟩
  exact ⟨rfl, [], rfl, rfl, ⟨rfl, rfl, trivial⟩, rfl, rfl⟩

def fiF (i : Nat) : List (Nat × Nat) := if 2 ≤ i ∧ i ≤ 4 then [(0, 0)] else []
def caF (i : Nat) : List (Nat × Nat) := if 2 ≤ i ∧ i ≤ 4 then [] else [(1, 0)]
def arF (i : Nat) : List At := (fiF i).map (fun p => .pt p.1 p.2) ++ [] ++ (caF i).map (fun p => .pt p.1 p.2)
theorem fails_call (B : Bs P ρ) (E : E_i_Hopf_fails P ρ) {n : Nat} {p : Int} {f : By} (h : HShp p n f) (i : Nat) (hi : i < 7) :
    CallOK P ρ (84 + i) (arF i) [⟨true, .by [p, (n : Int)] 1106 f⟩, ⟨true, .vr (.pt 0 0)⟩] (.one (.b (decide (AxN p n f i)))) [⟨true, .by [p, (n : Int)] 1106 f⟩, ⟨true, .vr (.pt 0 0)⟩] := by
  have hi7 : i = 0 ∨ i = 1 ∨ i = 2 ∨ i = 3 ∨ i = 4 ∨ i = 5 ∨ i = 6 := by omega
  rcases hi7 with rfl | rfl | rfl | rfl | rfl | rfl | rfl
  · exact (i_Hopf_fails_1_ok B E.2.1).emb [1, 0] rfl ⟨⟨_, rfl, fun h => h⟩, ⟨_, rfl, fun h => h⟩, trivial⟩ rfl (one_b (decide_eq_decide.2 Iff.rfl)) rfl
  · exact (i_Hopf_fails_2_ok B E.2.2.1).emb [1, 0] rfl ⟨⟨_, rfl, fun h => h⟩, ⟨_, rfl, fun h => h⟩, trivial⟩ rfl (one_b (decide_eq_decide.2 Iff.rfl)) rfl
  · exact (i_Hopf_axiom3_ok B E.2.2.2.1 h).emb [0] rfl ⟨⟨_, rfl, fun h => h⟩, trivial⟩ rfl (one_b (decide_eq_decide.2 Iff.rfl)) rfl
  · exact (i_Hopf_axiom4_ok B E.2.2.2.2.1 h).emb [0] rfl ⟨⟨_, rfl, fun h => h⟩, trivial⟩ rfl (one_b (decide_eq_decide.2 Iff.rfl)) rfl
  · exact (i_Hopf_axiom5_ok B E.2.2.2.2.2.1 h).emb [0] rfl ⟨⟨_, rfl, fun h => h⟩, trivial⟩ rfl (one_b (decide_eq_decide.2 Iff.rfl)) rfl
  · exact (i_Hopf_fails_3_ok B E.2.2.2.2.2.2.1 h).emb [1, 0] rfl ⟨⟨_, rfl, fun h => h⟩, ⟨_, rfl, fun h => h⟩, trivial⟩ rfl (one_b (decide_eq_decide.2 Iff.rfl)) rfl
  · exact (i_Hopf_fails_4_ok B E.2.2.2.2.2.2.2 h).emb [1, 0] rfl ⟨⟨_, rfl, fun h => h⟩, ⟨_, rfl, fun h => h⟩, trivial⟩ rfl (one_b (decide_eq_decide.2 Iff.rfl)) rfl

theorem i_Hopf_fails_t_ok (B : Bs P ρ) (E : E_i_Hopf_fails P ρ) {n : Nat} {p : Int} {f : By} (h : HShp p n f) (hA : ∀ i, i < 7 → AxN p n f i) :
    CallOK P ρ 68 [.pt 0 0, .i .i64 7] [⟨true, .by [p, (n : Int)] 1106 f⟩] (.one (.i .i64 0)) [⟨true, .by [p, (n : Int)] 1106 f⟩] := by
  refine call_of_vc B.fn B.mo E.1 rfl rfl ?_
  refine ⟨1, rfl, ?_⟩
  refine ⟨2, rfl, ?_⟩
  refine ⟨0, 7, rfl, rfl, ⟨by decide, by decide, by decide⟩, ?_⟩
  refine .inl ⟨(fun b0 b1 b2 i0 => St.mk [(21, .one (.sl 2 0 7 7)), (22, .one (.i .i64 7)), (23, .one (.i .i64 ((i0 : Nat) : Int)))] [b0, b1, b2]) _ _ _ , fun i0 => True, 7, trivial, ⟨⟨rfl, rfl, rfl, trivial⟩, ⟨rfl, rfl, rfl, trivial⟩, rfl⟩, fun i0 hi0 _ => ?_⟩
  refine ⟨fun h24 => ?_, fun h24 => ?_⟩
  · replace h24 := of_decide_eq_true h24
    refine ⟨i0, i0, rfl, by omega, by omega, ?_⟩
    refine ⟨.fn (84 + i0) (fiF i0) (caF i0), ?_, ?_⟩
    · have hi7 : i0 = 0 ∨ i0 = 1 ∨ i0 = 2 ∨ i0 = 3 ∨ i0 = 4 ∨ i0 = 5 ∨ i0 = 6 := by omega
      rcases hi7 with rfl | rfl | rfl | rfl | rfl | rfl | rfl <;> rfl
    refine ⟨3, [0, 1], arF i0, _, _, _, [_, _, _], rfl, fails_call B E h i0 (by omega), ?_, ⟨⟨_, rfl, fun h => by first | rfl | cases h⟩, ⟨_, rfl, fun h => by first | rfl | cases h⟩, trivial⟩, rfl, rfl, ?_⟩
    · have hi7 : i0 = 0 ∨ i0 = 1 ∨ i0 = 2 ∨ i0 = 3 ∨ i0 = 4 ∨ i0 = 5 ∨ i0 = 6 := by omega
      rcases hi7 with rfl | rfl | rfl | rfl | rfl | rfl | rfl <;> rfl
    refine ⟨fun h30 => ?_, fun h30 => ?_⟩
    · skip
      have q : ¬ AxN p n f i0 := dec_elim_t' (not_t h30)
      exact (q (hA i0 (by omega))).elim
    · skip
      refine ⟨((i0 + 1 : Nat) : Int), w64_id _ (by omega) (by omega), ?_⟩
      exact ⟨by omega, trivial, ⟨rfl, rfl, rfl, trivial⟩, ⟨rfl, rfl, rfl, trivial⟩, rfl⟩
  · replace h24 := of_decide_eq_false h24
    have e0 : 7 = i0 := by omega
    subst e0
    exact ⟨rfl, [], rfl, rfl, ⟨rfl, trivial⟩, rfl, rfl⟩

theorem i_Hopf_fails_f_ok (B : Bs P ρ) (E : E_i_Hopf_fails P ρ) {n : Nat} {p : Int} {f : By} {a : Nat} (h : HShp p n f) (ha : a < 7) (hA : ¬ AxN p n f a) (hL : ∀ i, i < a → AxN p n f i) :
    CallOK P ρ 68 [.pt 0 0, .i .i64 7] [⟨true, .by [p, (n : Int)] 1106 f⟩] (.one (.i .i64 ((a + 1 : Nat) : Int))) [⟨true, .by [p, (n : Int)] 1106 f⟩] := by
  refine call_of_vc B.fn B.mo E.1 rfl rfl ?_
  refine ⟨1, rfl, ?_⟩
  refine ⟨2, rfl, ?_⟩
  refine ⟨0, 7, rfl, rfl, ⟨by decide, by decide, by decide⟩, ?_⟩
  refine .inl ⟨(fun b0 b1 b2 i0 => St.mk [(21, .one (.sl 2 0 7 7)), (22, .one (.i .i64 7)), (23, .one (.i .i64 ((i0 : Nat) : Int)))] [b0, b1, b2]) _ _ _ , fun i0 => ∀ i, i < i0 → AxN p n f i, 7, fun _ _ => by omega, ⟨⟨rfl, rfl, rfl, trivial⟩, ⟨rfl, rfl, rfl, trivial⟩, rfl⟩, fun i0 hi0 hF0 => ?_⟩
  refine ⟨fun h24 => ?_, fun h24 => ?_⟩
  · replace h24 := of_decide_eq_true h24
    refine ⟨i0, i0, rfl, by omega, by omega, ?_⟩
    refine ⟨.fn (84 + i0) (fiF i0) (caF i0), ?_, ?_⟩
    · have hi7 : i0 = 0 ∨ i0 = 1 ∨ i0 = 2 ∨ i0 = 3 ∨ i0 = 4 ∨ i0 = 5 ∨ i0 = 6 := by omega
      rcases hi7 with rfl | rfl | rfl | rfl | rfl | rfl | rfl <;> rfl
    refine ⟨3, [0, 1], arF i0, _, _, _, [_, _, _], rfl, fails_call B E h i0 (by omega), ?_, ⟨⟨_, rfl, fun h => by first | rfl | cases h⟩, ⟨_, rfl, fun h => by first | rfl | cases h⟩, trivial⟩, rfl, rfl, ?_⟩
    · have hi7 : i0 = 0 ∨ i0 = 1 ∨ i0 = 2 ∨ i0 = 3 ∨ i0 = 4 ∨ i0 = 5 ∨ i0 = 6 := by omega
      rcases hi7 with rfl | rfl | rfl | rfl | rfl | rfl | rfl <;> rfl
    refine ⟨fun h30 => ?_, fun h30 => ?_⟩
    · skip
      have q : ¬ AxN p n f i0 := dec_elim_t' (not_t h30)
      have e : i0 = a := by
        rcases Nat.lt_trichotomy i0 a with e | e | e
        · exact (q (hL i0 e)).elim
        · exact e
        · exact (hA (hF0 a e)).elim
      refine ⟨((i0 + 1 : Nat) : Int), w64_id _ (by omega) (by omega), ?_⟩
      refine ⟨rfl, [], ?_, rfl, ⟨rfl, trivial⟩, rfl, rfl⟩
      rw [e]
      rfl
    · skip
      refine ⟨((i0 + 1 : Nat) : Int), w64_id _ (by omega) (by omega), ?_⟩
      refine ⟨by omega, ?_, ⟨rfl, rfl, rfl, trivial⟩, ⟨rfl, rfl, rfl, trivial⟩, rfl⟩
      intro i hi
      by_cases e : i = i0
      · rw [e]; exact dec_elim_t (not_f h30)
      · exact hF0 i (by omega)
  · replace h24 := of_decide_eq_false h24
    have e0 : 7 = i0 := by omega
    subst e0
    exact (hA (hF0 a (by omega))).elim

/-- a Hopf algebra -/
def Hop (p n : Int) (f : By) : Prop := HShp p n f ∧ ∀ i, i < 7 → AxN p n.toNat f i

theorem i_IsHopf_s_ok (B : Bs P ρ) (E : E_i_IsHopf P ρ) {n p : Int} {f : By} (hS : ¬ HShp p n f) :
    CallOK P ρ 47 [.ag [p, n] 1106 f] [] (.one (.b false)) [] := by
  refine call_of_vc B.fn B.mo E.1 rfl rfl ?_
  refine ⟨0, rfl, ?_⟩
  refine .inl ⟨1, [0], _, _, _, _, [_], rfl, i_Hopf_isShaped_ok B E.2.1 , rfl, ⟨⟨_, rfl, fun h => by first | rfl | cases h⟩, trivial⟩, rfl, rfl, ?_⟩
  refine ⟨fun h4 => ?_, fun h4 => ?_⟩
  · skip
    exact (hS (dec_elim_t h4)).elim
  · skip
    refine brB_f ?_
    refine brB_f ?_
    exact ⟨rfl, [], rfl, rfl, trivial, rfl, rfl⟩

theorem i_IsHopf_t_ok (B : Bs P ρ) (E : E_i_IsHopf P ρ) {n : Nat} {p : Int} {f : By} (h : HShp p n f) (hA : ∀ i, i < 7 → AxN p n f i) :
    CallOK P ρ 47 [.ag [p, (n : Int)] 1106 f] [] (.one (.b true)) [] := by
  refine call_of_vc B.fn B.mo E.1 rfl rfl ?_
  refine ⟨0, rfl, ?_⟩
  refine .inl ⟨1, [0], _, _, _, _, [_], rfl, i_Hopf_isShaped_ok B E.2.1 , rfl, ⟨⟨_, rfl, fun h => by first | rfl | cases h⟩, trivial⟩, rfl, rfl, ?_⟩
  refine ⟨fun h4 => ?_, fun h4 => ?_⟩
  · skip
    refine .inl ⟨1, [0], _, _, _, _, [_], rfl, i_Hopf_fails_t_ok B E.2.2 h hA, rfl, ⟨⟨_, rfl, fun h => by first | rfl | cases h⟩, trivial⟩, rfl, rfl, ?_⟩
    refine brB_t ?_
    refine brB_t ?_
    exact ⟨rfl, [], rfl, rfl, trivial, rfl, rfl⟩
  · skip
    exact (dec_elim_t' h4 h).elim

theorem i_IsHopf_f_ok (B : Bs P ρ) (E : E_i_IsHopf P ρ) {n : Nat} {p : Int} {f : By} {a : Nat} (h : HShp p n f) (ha : a < 7) (hA : ¬ AxN p n f a) (hL : ∀ i, i < a → AxN p n f i) :
    CallOK P ρ 47 [.ag [p, (n : Int)] 1106 f] [] (.one (.b false)) [] := by
  refine call_of_vc B.fn B.mo E.1 rfl rfl ?_
  refine ⟨0, rfl, ?_⟩
  refine .inl ⟨1, [0], _, _, _, _, [_], rfl, i_Hopf_isShaped_ok B E.2.1 , rfl, ⟨⟨_, rfl, fun h => by first | rfl | cases h⟩, trivial⟩, rfl, rfl, ?_⟩
  refine ⟨fun h4 => ?_, fun h4 => ?_⟩
  · skip
    refine .inl ⟨1, [0], _, _, _, _, [_], rfl, i_Hopf_fails_f_ok B E.2.2 h ha hA hL, rfl, ⟨⟨_, rfl, fun h => by first | rfl | cases h⟩, trivial⟩, rfl, rfl, ?_⟩
    refine brB_t ?_
    refine brB_t ?_
    refine ⟨rfl, [], ?_, rfl, trivial, rfl, rfl⟩
    refine one_b ?_
    rw [beq_eq_false_iff_ne]
    omega
  · skip
    exact (dec_elim_t' h4 h).elim

theorem i_IsHopf_ok (B : Bs P ρ) (E : E_i_IsHopf P ρ) {n p : Int} {f : By} : CallOK P ρ 47 [.ag [p, n] 1106 f] [] (.one (.b (decide (Hop p n f)))) [] := by
  by_cases hS : HShp p n f
  · obtain ⟨m, rfl⟩ : ∃ m : Nat, n = (m : Int) := ⟨n.toNat, by have := hS.1.2.1; omega⟩
    by_cases hA : ∀ i, i < 7 → AxN p m f i
    · rw [show decide (Hop p m f) = true from decide_eq_true ⟨hS, hA⟩]; exact i_IsHopf_t_ok B E hS hA
    · rw [decide_eq_false fun q : Hop p m f => hA q.2]
      obtain ⟨a, ⟨h1, h2⟩, h3⟩ := least (q := fun t => t < 7 ∧ ¬ AxN p m f t) (by
        simp only [Classical.not_forall] at hA
        obtain ⟨t, ht, h⟩ := hA
        exact ⟨t, ht, h⟩)
      exact i_IsHopf_f_ok B E hS h1 h2 fun t ht => Classical.byContradiction fun q => h3 t ht ⟨by omega, q⟩
  · rw [decide_eq_false fun q : Hop p n f => hS q.1]
    exact i_IsHopf_s_ok B E hS

theorem i_unless_ok (B : Bs P ρ) (E : E_i_unless P ρ) {b : Bool} {c : Int} :
    CallOK P ρ 49 [.b b, .i .i64 c] [] (.one (.i .i64 (if b = true then 0 else c))) [] := by
  refine call_of_vc B.fn B.mo E rfl rfl ?_
  refine ⟨fun h5 => ?_, fun h5 => ?_⟩
  · skip
    refine ⟨rfl, [], ?_, rfl, trivial, rfl, rfl⟩
    rw [if_pos h5]; rfl
  · skip
    refine ⟨rfl, [], ?_, rfl, trivial, rfl, rfl⟩
    rw [if_neg (by rw [h5]; simp)]; rfl

end Hf
namespace Hf
open Go Classical
variable {P : Program} {ρ : Nat → FuncId}
theorem tmod_mod {x p : Int} (hp : 1 ≤ p) : (x.tmod p) % p = x % p := by
  have h1 := tmod_emod x p (by omega)
  by_cases h : x.tmod p < 0
  · rw [if_pos h] at h1
    rw [← Int.emod_emod_of_dvd x (Int.dvd_refl p), ← h1, Int.add_emod_right]
  · rw [if_neg h] at h1; rw [h1]; exact Int.emod_emod_of_dvd x (Int.dvd_refl p)
theorem s_l01In_ok (B : Bs P ρ) (E : E_s_l01In P ρ) {x a b : Int} :
    CallOK P ρ 96 [.i .i64 x, .i .i64 a, .i .i64 b] [] (.one (.b (decide (a ≤ x ∧ x ≤ b)))) [] := by
  refine call_of_vc B.fn B.mo E rfl rfl ?_
  refine ⟨fun h10 => ?_, fun h10 => ?_⟩
  · replace h10 := of_decide_eq_true h10
    refine brB_t ?_
    refine brB_t ?_
    refine brB_t ?_
    refine ⟨rfl, [], ?_, rfl, trivial, rfl, rfl⟩
    refine one_b ?_
    by_cases h : x ≤ b
    · rw [decide_eq_true h, decide_eq_true (⟨h10, h⟩ : a ≤ x ∧ x ≤ b)]
    · rw [decide_eq_false h, decide_eq_false (fun q : a ≤ x ∧ x ≤ b => h q.2)]
  · replace h10 := of_decide_eq_false h10
    refine brB_f ?_
    refine brB_f ?_
    refine brB_f ?_
    refine ⟨rfl, [], ?_, rfl, trivial, rfl, rfl⟩
    exact one_b (dec_f fun q => h10 q.1)

theorem s_l01Prime_ok (B : Bs P ρ) (E : E_s_l01Prime P ρ) {p : Int} :
    CallOK P ρ 95 [.i .i64 p] [] (.one (.b (decide (Pr p)))) [] := by
  refine call_of_vc B.fn B.mo E.1 rfl rfl ?_
  refine .inl ⟨(fun a0 i0 => St.mk [(0, a0), (3, .one (.i .i64 ((2 + i0 : Nat) : Int)))] []) _ , fun i0 => ∀ k : Int, 2 ≤ k → k < ((2 + i0 : Nat) : Int) → p % k ≠ 0, 30, fun _ _ => by omega, ⟨⟨rfl, rfl, trivial⟩, trivial, rfl⟩, fun i0 hi0 hF0 => ?_⟩
  refine ⟨fun h7 => ?_, fun h7 => ?_⟩
  · replace h7 := of_decide_eq_true h7
    refine brB_t ?_
    refine brB_t ?_
    refine ⟨fun h10 => ?_, fun h10 => ?_⟩
    · replace h10 := of_decide_eq_true h10
      refine ⟨by omega, _, rfl, ?_⟩
      refine ⟨fun h16 => ?_, fun h16 => ?_⟩
      · replace h16 := eq_of_beq h16
        rw [Int.tmod_eq_emod_of_nonneg (by omega)] at h16
        refine ⟨rfl, [], ?_, rfl, trivial, rfl, rfl⟩
        exact one_b (dec_f fun h => h.2.2 _ (by omega) h7 h16)
      · replace h16 := ne_of_beq_false h16
        rw [Int.tmod_eq_emod_of_nonneg (by omega)] at h16
        refine ⟨((2 + i0 + 1 : Nat) : Int), w64_id _ (by omega) (by omega), ?_⟩
        refine ⟨by omega, ?_, ⟨rfl, rfl, trivial⟩, trivial, rfl⟩
        intro k hk hk2
        by_cases e : k = ((2 + i0 : Nat) : Int)
        · rw [e]; exact h16
        · exact hF0 k hk (by omega)
    · replace h10 := of_decide_eq_false h10
      refine .inl ⟨0, [], _, _, _, _, [], rfl, s_l01In_ok B E.2 , rfl, trivial, rfl, rfl, ?_⟩
      refine ⟨rfl, [], ?_, rfl, trivial, rfl, rfl⟩
      exact one_b (decide_eq_decide.2 ⟨fun q => by omega, fun q => by have := q.2.1; omega⟩)
  · replace h7 := of_decide_eq_false h7
    refine brB_f ?_
    refine brB_f ?_
    refine brB_f ?_
    refine .inl ⟨0, [], _, _, _, _, [], rfl, s_l01In_ok B E.2 , rfl, trivial, rfl, rfl, ?_⟩
    refine ⟨rfl, [], ?_, rfl, trivial, rfl, rfl⟩
    exact one_b (decide_eq_decide.2 ⟨fun q => ⟨q.1, q.2, fun k h1 h2 => hF0 k h1 (by omega)⟩, fun q => ⟨q.1, q.2.1⟩⟩)

theorem s_l01Sizes_ok (B : Bs P ρ) (E : E_s_l01Sizes P ρ) {p n : Int} :
    CallOK P ρ 75 [.i .i64 p, .i .i64 n] [] (.one (.b (decide (Shp p n)))) [] := by
  refine call_of_vc B.fn B.mo E.1 rfl rfl ?_
  refine .inl ⟨0, [], _, _, _, _, [], rfl, s_l01Prime_ok B E.2.1 , rfl, trivial, rfl, rfl, ?_⟩
  refine ⟨fun h7 => ?_, fun h7 => ?_⟩
  · skip
    refine brB_t ?_
    refine .inl ⟨0, [], _, _, _, _, [], rfl, s_l01In_ok B E.2.2 , rfl, trivial, rfl, rfl, ?_⟩
    refine brB_t ?_
    refine ⟨rfl, [], ?_, rfl, trivial, rfl, rfl⟩
    exact one_b (decide_eq_decide.2 ⟨fun q => ⟨dec_elim_t h7, q⟩, fun q => q.2⟩)
  · skip
    refine brB_f ?_
    refine brB_f ?_
    refine ⟨rfl, [], ?_, rfl, trivial, rfl, rfl⟩
    exact one_b (dec_f fun q => dec_elim_t' h7 q.1)

theorem s_l01Vector_ok (B : Bs P ρ) (E : E_s_l01Vector P ρ) {p n : Int} {v : By} :
    CallOK P ρ 53 [.i .i64 p, .i .i64 n, .ag [] 8 v] [] (.one (.b (decide (Vec p n v 0)))) [] := by
  refine call_of_vc B.fn B.mo E rfl rfl ?_
  refine ⟨0, rfl, ?_⟩
  refine .inl ⟨(fun a0 a1 b0 i0 => St.mk [(0, a0), (1, a1), (5, .one (.pt 0 0)), (7, .one (.i .i64 ((i0 : Nat) : Int)))] [b0]) _ _ _ , fun i0 => ∀ k : Nat, k < i0 → bz v k < p ∧ (n ≤ k → bz v k = 0), 8, fun _ _ => by omega, ⟨⟨rfl, rfl, rfl, rfl, trivial⟩, ⟨rfl, trivial⟩, rfl⟩, fun i0 hi0 hF0 => ?_⟩
  refine ⟨fun h9 => ?_, fun h9 => ?_⟩
  · replace h9 := of_decide_eq_true h9
    refine ⟨i0, i0, rfl, by omega, by omega, ?_⟩
    refine ⟨⟨by first | omega | (simp <;> omega), by first | omega | (simp <;> omega)⟩, ?_⟩
    refine ⟨fun h18 => ?_, fun h18 => ?_⟩
    · replace h18 := of_decide_eq_true h18
      refine brB_t ?_
      refine brB_t ?_
      refine brB_t ?_
      refine brB_t ?_
      refine brB_t ?_
      refine brB_t ?_
      refine ⟨rfl, [], ?_, rfl, trivial, rfl, rfl⟩
      exact one_b (dec_f fun q => by have := (q i0 (by omega)).1; rw [Nat.zero_add] at this; simp [bz] at this h18; omega)
    · replace h18 := of_decide_eq_false h18
      refine brB_f ?_
      refine brB_f ?_
      refine brB_f ?_
      refine ⟨fun h22 => ?_, fun h22 => ?_⟩
      · replace h22 := of_decide_eq_true h22
        refine brB_t ?_
        refine ⟨i0, i0, rfl, by omega, by omega, ?_⟩
        refine brB_t ?_
        refine ⟨⟨by first | omega | (simp <;> omega), by first | omega | (simp <;> omega)⟩, ?_⟩
        refine brB_t ?_
        refine brB_f ?_
        refine brB_t ?_
        refine brB_f ?_
        refine ⟨fun h28 => ?_, fun h28 => ?_⟩
        · replace h28 := bne_t h28
          refine ⟨rfl, [], ?_, rfl, trivial, rfl, rfl⟩
          exact one_b (dec_f fun q => by have := (q i0 (by omega)).2 (by omega); rw [Nat.zero_add, bz_eq0] at this; exact h28 this)
        · replace h28 := bne_f h28
          refine ⟨((i0 + 1 : Nat) : Int), w64_id _ (by omega) (by omega), ?_⟩
          refine ⟨by omega, ?_, ⟨rfl, rfl, rfl, rfl, trivial⟩, ⟨rfl, trivial⟩, rfl⟩
          intro k hk
          by_cases e : k = i0
          · subst e
            simp [bz] at h18 ⊢
            exact ⟨h18, fun _ => by rw [h28]; rfl⟩
          · exact hF0 k (by omega)
      · replace h22 := of_decide_eq_false h22
        refine brB_f ?_
        refine brB_f ?_
        refine brB_f ?_
        refine brB_f ?_
        refine brB_f ?_
        refine brB_f ?_
        refine brB_f ?_
        refine ⟨((i0 + 1 : Nat) : Int), w64_id _ (by omega) (by omega), ?_⟩
        refine ⟨by omega, ?_, ⟨rfl, rfl, rfl, rfl, trivial⟩, ⟨rfl, trivial⟩, rfl⟩
        intro k hk
        by_cases e : k = i0
        · subst e
          simp [bz] at h18 ⊢
          exact ⟨h18, fun q => by omega⟩
        · exact hF0 k (by omega)
  · replace h9 := of_decide_eq_false h9
    have e0 : 8 = i0 := by omega
    subst e0
    refine ⟨rfl, [], ?_, rfl, trivial, rfl, rfl⟩
    exact one_b (dec_t fun k hk => by rw [Nat.zero_add]; exact hF0 k hk)

theorem s_l01Linear_ok (B : Bs P ρ) (E : E_s_l01Linear P ρ) {p n : Int} {v : By} :
    CallOK P ρ 64 [.i .i64 p, .i .i64 n, .ag [] 64 v] [] (.one (.b (decide (Lin p n n v 0)))) [] := by
  refine call_of_vc B.fn B.mo E.1 rfl rfl ?_
  refine ⟨0, rfl, ?_⟩
  refine .inl ⟨(fun a0 a1 b0 i0 => St.mk [(0, a0), (1, a1), (5, .one (.pt 0 0)), (7, .one (.i .i64 ((i0 : Nat) : Int)))] [b0]) _ _ _ , fun i0 => ∀ i : Nat, i < i0 → Vec p n v (i * 8) ∧ (n ≤ i → ∀ k : Nat, k < 8 → bz v (i * 8 + k) = 0), 8, fun _ _ => by omega, ⟨⟨rfl, rfl, rfl, rfl, trivial⟩, ⟨rfl, trivial⟩, rfl⟩, fun i0 hi0 hF0 => ?_⟩
  refine ⟨fun h9 => ?_, fun h9 => ?_⟩
  · replace h9 := of_decide_eq_true h9
    refine ⟨i0, i0 * 8, rfl, by omega, by omega, ?_⟩
    refine ⟨⟨by first | omega | (simp <;> omega), by first | omega | (simp <;> omega)⟩, ?_⟩
    refine .inl ⟨1, [], _, _, _, _, [_], rfl, s_l01Vector_ok B E.2 , rfl, trivial, rfl, rfl, ?_⟩
    refine ⟨fun h19 => ?_, fun h19 => ?_⟩
    · skip
      have h19' : ¬ Vec p n v (i0 * 8) := fun q => dec_elim_t' (not_t h19) ((Vec_sh (a := i0 * 8) (o := 0)).2 q)
      refine brB_t ?_
      refine brB_t ?_
      refine brB_t ?_
      refine brB_t ?_
      refine brB_t ?_
      refine brB_t ?_
      refine ⟨rfl, [], ?_, rfl, trivial, rfl, rfl⟩
      exact one_b (dec_f fun q => h19' (by have := (q i0 (by omega)).1; rw [Nat.zero_add] at this; exact this))
    · skip
      have h19' : Vec p n v (i0 * 8) := (Vec_sh (a := i0 * 8) (o := 0)).1 (dec_elim_t (not_f h19))
      refine brB_f ?_
      refine brB_f ?_
      refine brB_f ?_
      refine ⟨fun h23 => ?_, fun h23 => ?_⟩
      · replace h23 := of_decide_eq_true h23
        refine brB_t ?_
        refine ⟨i0, i0 * 8, rfl, by omega, by omega, ?_⟩
        refine brB_t ?_
        refine ⟨⟨by first | omega | (simp <;> omega), by first | omega | (simp <;> omega)⟩, ?_⟩
        refine brB_t ?_
        refine brB_t ?_
        refine brB_f ?_
        refine brB_t ?_
        refine brB_f ?_
        refine ⟨fun h30 => ?_, fun h30 => ?_⟩
        · skip
          refine ⟨rfl, [], ?_, rfl, trivial, rfl, rfl⟩
          refine one_b (dec_f fun q => ?_)
          have := (q i0 (by omega)).2 (by omega)
          rw [Nat.zero_add] at this
          have := eqB_z.2 this
          erw [this] at h30; cases h30
        · skip
          refine ⟨((i0 + 1 : Nat) : Int), w64_id _ (by omega) (by omega), ?_⟩
          refine ⟨by omega, ?_, ⟨rfl, rfl, rfl, rfl, trivial⟩, ⟨rfl, trivial⟩, rfl⟩
          intro i hi
          by_cases e : i = i0
          · subst e
            exact ⟨h19', fun _ => eqB_z.1 (by simpa using h30)⟩
          · exact hF0 i (by omega)
      · replace h23 := of_decide_eq_false h23
        refine brB_f ?_
        refine brB_f ?_
        refine brB_f ?_
        refine brB_f ?_
        refine brB_f ?_
        refine brB_f ?_
        refine brB_f ?_
        refine brB_f ?_
        refine ⟨((i0 + 1 : Nat) : Int), w64_id _ (by omega) (by omega), ?_⟩
        refine ⟨by omega, ?_, ⟨rfl, rfl, rfl, rfl, trivial⟩, ⟨rfl, trivial⟩, rfl⟩
        intro i hi
        by_cases e : i = i0
        · subst e
          exact ⟨h19', fun q => by omega⟩
        · exact hF0 i (by omega)
  · replace h9 := of_decide_eq_false h9
    have e0 : 8 = i0 := by omega
    subst e0
    refine ⟨rfl, [], ?_, rfl, trivial, rfl, rfl⟩
    exact one_b (dec_t fun i hi => by rw [Nat.zero_add]; exact hF0 i hi)

theorem s_l01Table_ok (B : Bs P ρ) (E : E_s_l01Table P ρ) {p n : Int} {v : By} :
    CallOK P ρ 63 [.i .i64 p, .i .i64 n, .ag [] 512 v] [] (.one (.b (decide (Tab p n v 0)))) [] := by
  refine call_of_vc B.fn B.mo E.1 rfl rfl ?_
  refine ⟨0, rfl, ?_⟩
  refine .inl ⟨(fun a0 a1 b0 i0 => St.mk [(0, a0), (1, a1), (5, .one (.pt 0 0)), (7, .one (.i .i64 ((i0 : Nat) : Int)))] [b0]) _ _ _ , fun i0 => ∀ i : Nat, i < i0 → Lin p n n v (i * 64) ∧ (n ≤ i → ∀ k : Nat, k < 64 → bz v (i * 64 + k) = 0), 8, fun _ _ => by omega, ⟨⟨rfl, rfl, rfl, rfl, trivial⟩, ⟨rfl, trivial⟩, rfl⟩, fun i0 hi0 hF0 => ?_⟩
  refine ⟨fun h9 => ?_, fun h9 => ?_⟩
  · replace h9 := of_decide_eq_true h9
    refine ⟨i0, i0 * 64, rfl, by omega, by omega, ?_⟩
    refine ⟨⟨by first | omega | (simp <;> omega), by first | omega | (simp <;> omega)⟩, ?_⟩
    refine .inl ⟨1, [], _, _, _, _, [_], rfl, s_l01Linear_ok B E.2 , rfl, trivial, rfl, rfl, ?_⟩
    refine ⟨fun h19 => ?_, fun h19 => ?_⟩
    · skip
      have h19' : ¬ Lin p n n v (i0 * 64) := fun q => dec_elim_t' (not_t h19) ((Lin_sh (a := i0 * 64) (o := 0)).2 q)
      refine brB_t ?_
      refine brB_t ?_
      refine brB_t ?_
      refine brB_t ?_
      refine brB_t ?_
      refine brB_t ?_
      refine ⟨rfl, [], ?_, rfl, trivial, rfl, rfl⟩
      exact one_b (dec_f fun q => h19' (by have := (q i0 (by omega)).1; rw [Nat.zero_add] at this; exact this))
    · skip
      have h19' : Lin p n n v (i0 * 64) := (Lin_sh (a := i0 * 64) (o := 0)).1 (dec_elim_t (not_f h19))
      refine brB_f ?_
      refine brB_f ?_
      refine brB_f ?_
      refine ⟨fun h23 => ?_, fun h23 => ?_⟩
      · replace h23 := of_decide_eq_true h23
        refine brB_t ?_
        refine ⟨i0, i0 * 64, rfl, by omega, by omega, ?_⟩
        refine brB_t ?_
        refine ⟨⟨by first | omega | (simp <;> omega), by first | omega | (simp <;> omega)⟩, ?_⟩
        refine brB_t ?_
        refine brB_t ?_
        refine brB_f ?_
        refine brB_t ?_
        refine brB_f ?_
        refine ⟨fun h30 => ?_, fun h30 => ?_⟩
        · skip
          refine ⟨rfl, [], ?_, rfl, trivial, rfl, rfl⟩
          refine one_b (dec_f fun q => ?_)
          have := (q i0 (by omega)).2 (by omega)
          rw [Nat.zero_add] at this
          have := eqB_z.2 this
          erw [this] at h30; cases h30
        · skip
          refine ⟨((i0 + 1 : Nat) : Int), w64_id _ (by omega) (by omega), ?_⟩
          refine ⟨by omega, ?_, ⟨rfl, rfl, rfl, rfl, trivial⟩, ⟨rfl, trivial⟩, rfl⟩
          intro i hi
          by_cases e : i = i0
          · subst e
            exact ⟨h19', fun _ => eqB_z.1 (by simpa using h30)⟩
          · exact hF0 i (by omega)
      · replace h23 := of_decide_eq_false h23
        refine brB_f ?_
        refine brB_f ?_
        refine brB_f ?_
        refine brB_f ?_
        refine brB_f ?_
        refine brB_f ?_
        refine brB_f ?_
        refine brB_f ?_
        refine ⟨((i0 + 1 : Nat) : Int), w64_id _ (by omega) (by omega), ?_⟩
        refine ⟨by omega, ?_, ⟨rfl, rfl, rfl, rfl, trivial⟩, ⟨rfl, trivial⟩, rfl⟩
        intro i hi
        by_cases e : i = i0
        · subst e
          exact ⟨h19', fun q => by omega⟩
        · exact hF0 i (by omega)
  · replace h9 := of_decide_eq_false h9
    have e0 : 8 = i0 := by omega
    subst e0
    refine ⟨rfl, [], ?_, rfl, trivial, rfl, rfl⟩
    exact one_b (dec_t fun i hi => by rw [Nat.zero_add]; exact hF0 i hi)

theorem s_l01Shape_ok (B : Bs P ρ) (E : E_s_l01Shape P ρ) {p n : Int} {f : By} :
    CallOK P ρ 62 [.ag [p, n] 522 f] [] (.one (.b (decide (AShp p n f)))) [] := by
  refine call_of_vc B.fn B.mo E.1 rfl rfl ?_
  refine ⟨0, rfl, ?_⟩
  refine .inl ⟨1, [], _, _, _, _, [_], rfl, s_l01Sizes_ok B E.2.1 , rfl, trivial, rfl, rfl, ?_⟩
  refine ⟨fun h8 => ?_, fun h8 => ?_⟩
  · skip
    have h8' := dec_elim_t h8
    refine brB_t ?_
    refine brB_t ?_
    refine brB_t ?_
    refine brB_t ?_
    refine brB_t ?_
    refine ⟨⟨by first | omega | (simp <;> omega), by first | omega | (simp <;> omega)⟩, ?_⟩
    refine brB_t ?_
    refine .inl ⟨1, [], _, _, _, _, [_], rfl, s_l01Vector_ok B E.2.2.1 , rfl, trivial, rfl, rfl, ?_⟩
    refine brB_t ?_
    refine ⟨fun h17 => ?_, fun h17 => ?_⟩
    · skip
      have h17' : Vec p n f 2 := (Vec_sh (a := 2) (o := 0)).1 (dec_elim_t h17)
      refine brB_t ?_
      refine brB_t ?_
      refine brB_t ?_
      refine brB_t ?_
      refine brB_t ?_
      refine ⟨⟨by first | omega | (simp <;> omega), by first | omega | (simp <;> omega)⟩, ?_⟩
      refine brB_t ?_
      refine .inl ⟨1, [], _, _, _, _, [_], rfl, s_l01Table_ok B E.2.2.2 , rfl, trivial, rfl, rfl, ?_⟩
      refine brB_t ?_
      refine ⟨rfl, [], ?_, rfl, trivial, rfl, rfl⟩
      exact one_b (decide_eq_decide.2 ⟨fun q => ⟨h8', h17', (Tab_sh (a := 10) (o := 0)).1 q⟩, fun q => (Tab_sh (a := 10) (o := 0)).2 q.2.2⟩)
    · skip
      refine brB_f ?_
      refine brB_f ?_
      refine brB_f ?_
      refine brB_f ?_
      refine brB_f ?_
      refine brB_f ?_
      refine brB_f ?_
      refine ⟨rfl, [], ?_, rfl, trivial, rfl, rfl⟩
      exact one_b (dec_f fun q => dec_elim_t' h17 ((Vec_sh (a := 2) (o := 0)).2 q.2.1))
  · skip
    refine brB_f ?_
    refine brB_f ?_
    refine brB_f ?_
    refine brB_f ?_
    refine brB_f ?_
    refine brB_f ?_
    refine brB_f ?_
    refine brB_f ?_
    refine brB_f ?_
    refine brB_f ?_
    refine brB_f ?_
    refine brB_f ?_
    refine brB_f ?_
    refine brB_f ?_
    refine brB_f ?_
    refine ⟨rfl, [], ?_, rfl, trivial, rfl, rfl⟩
    exact one_b (dec_f fun q => dec_elim_t' h8 q.1)

theorem s_l02Shape_ok (B : Bs P ρ) (E : E_s_l02Shape P ρ) {p n : Int} {f : By} :
    CallOK P ρ 98 [.ag [p, n] 522 f] [] (.one (.b (decide (CShp p n f)))) [] := by
  refine call_of_vc B.fn B.mo E.1 rfl rfl ?_
  refine ⟨0, rfl, ?_⟩
  refine .inl ⟨1, [], _, _, _, _, [_], rfl, s_l01Sizes_ok B E.2.1 , rfl, trivial, rfl, rfl, ?_⟩
  refine ⟨fun h8 => ?_, fun h8 => ?_⟩
  · skip
    have h8' := dec_elim_t h8
    refine brB_t ?_
    refine brB_t ?_
    refine brB_t ?_
    refine brB_t ?_
    refine brB_t ?_
    refine ⟨⟨by first | omega | (simp <;> omega), by first | omega | (simp <;> omega)⟩, ?_⟩
    refine brB_t ?_
    refine .inl ⟨1, [], _, _, _, _, [_], rfl, s_l01Vector_ok B E.2.2.1 , rfl, trivial, rfl, rfl, ?_⟩
    refine brB_t ?_
    refine ⟨fun h17 => ?_, fun h17 => ?_⟩
    · skip
      have h17' : Vec p n f 2 := (Vec_sh (a := 2) (o := 0)).1 (dec_elim_t h17)
      refine brB_t ?_
      refine brB_t ?_
      refine brB_t ?_
      refine brB_t ?_
      refine brB_t ?_
      refine ⟨⟨by first | omega | (simp <;> omega), by first | omega | (simp <;> omega)⟩, ?_⟩
      refine brB_t ?_
      refine .inl ⟨1, [], _, _, _, _, [_], rfl, s_l01Table_ok B E.2.2.2 , rfl, trivial, rfl, rfl, ?_⟩
      refine brB_t ?_
      refine ⟨rfl, [], ?_, rfl, trivial, rfl, rfl⟩
      exact one_b (decide_eq_decide.2 ⟨fun q => ⟨h8', h17', (Tab_sh (a := 10) (o := 0)).1 q⟩, fun q => (Tab_sh (a := 10) (o := 0)).2 q.2.2⟩)
    · skip
      refine brB_f ?_
      refine brB_f ?_
      refine brB_f ?_
      refine brB_f ?_
      refine brB_f ?_
      refine brB_f ?_
      refine brB_f ?_
      refine ⟨rfl, [], ?_, rfl, trivial, rfl, rfl⟩
      exact one_b (dec_f fun q => dec_elim_t' h17 ((Vec_sh (a := 2) (o := 0)).2 q.2.1))
  · skip
    refine brB_f ?_
    refine brB_f ?_
    refine brB_f ?_
    refine brB_f ?_
    refine brB_f ?_
    refine brB_f ?_
    refine brB_f ?_
    refine brB_f ?_
    refine brB_f ?_
    refine brB_f ?_
    refine brB_f ?_
    refine brB_f ?_
    refine brB_f ?_
    refine brB_f ?_
    refine brB_f ?_
    refine ⟨rfl, [], ?_, rfl, trivial, rfl, rfl⟩
    exact one_b (dec_f fun q => dec_elim_t' h8 q.1)

theorem s_l03Algebra_raw_ok (B : Bs P ρ) (E : E_s_l03Algebra P ρ) {p n : Int} {f : By} :
    CallOK P ρ 35 [.ag [p, n] 1106 f] [] (.one (.ag [p, n] 522 (algR f))) [] := by
  refine call_of_vc B.fn B.mo E rfl rfl ?_
  refine ⟨0, rfl, ?_⟩
  refine ⟨1, rfl, ?_⟩
  refine ⟨⟨by first | omega | (simp <;> omega), by first | omega | (simp <;> omega)⟩, ?_⟩
  refine ⟨⟨by first | omega | (simp <;> omega), by first | omega | (simp <;> omega)⟩, ?_⟩
  exact ⟨rfl, ⟨by first | omega | (simp <;> omega), by first | omega | (simp <;> omega)⟩, [], rfl, rfl, trivial, rfl, rfl⟩

theorem s_l03Coalgebra_raw_ok (B : Bs P ρ) (E : E_s_l03Coalgebra P ρ) {p n : Int} {f : By} :
    CallOK P ρ 38 [.ag [p, n] 1106 f] [] (.one (.ag [p, n] 522 (coaR f))) [] := by
  refine call_of_vc B.fn B.mo E rfl rfl ?_
  refine ⟨0, rfl, ?_⟩
  refine ⟨1, rfl, ?_⟩
  refine ⟨⟨by first | omega | (simp <;> omega), by first | omega | (simp <;> omega)⟩, ?_⟩
  refine ⟨⟨by first | omega | (simp <;> omega), by first | omega | (simp <;> omega)⟩, ?_⟩
  exact ⟨rfl, ⟨by first | omega | (simp <;> omega), by first | omega | (simp <;> omega)⟩, [], rfl, rfl, trivial, rfl, rfl⟩

theorem s_l03Algebra_ok (B : Bs P ρ) (E : E_s_l03Algebra P ρ) {p n : Int} {f : By} : CallOK P ρ 35 [.ag [p, n] 1106 f] [] (.one (.ag [p, n] 522 f)) [] :=
  (s_l03Algebra_raw_ok B E).conv eqL_rfl ⟨_, rfl, fun _ h1 h2 => algR_eq h1 h2⟩ eqH_rfl
theorem s_l03Coalgebra_ok (B : Bs P ρ) (E : E_s_l03Coalgebra P ρ) {p n : Int} {f : By} : CallOK P ρ 38 [.ag [p, n] 1106 f] [] (.one (.ag [p, n] 522 (sh f 520))) [] :=
  (s_l03Coalgebra_raw_ok B E).conv eqL_rfl ⟨_, rfl, fun _ h1 h2 => coaR_eq h1 h2⟩ eqH_rfl

theorem s_l03Shape_ok (B : Bs P ρ) (E : E_s_l03Shape P ρ) {p n : Int} {f : By} :
    CallOK P ρ 45 [.ag [p, n] 1106 f] [] (.one (.b (decide (HShp p n f)))) [] := by
  refine call_of_vc B.fn B.mo E.1 rfl rfl ?_
  refine ⟨0, rfl, ?_⟩
  refine .inl ⟨1, [], _, _, _, _, [_], rfl, s_l03Algebra_ok B E.2.1 , rfl, trivial, rfl, rfl, ?_⟩
  refine .inl ⟨1, [], _, _, _, _, [_], rfl, s_l01Shape_ok B E.2.2.1 , rfl, trivial, rfl, rfl, ?_⟩
  refine ⟨fun h12 => ?_, fun h12 => ?_⟩
  · skip
    have h12' : AShp p n f := dec_elim_t h12
    refine brB_t ?_
    refine brB_t ?_
    refine brB_t ?_
    refine ⟨⟨by first | omega | (simp <;> omega), by first | omega | (simp <;> omega)⟩, ?_⟩
    refine brB_t ?_
    refine .inl ⟨1, [], _, _, _, _, [_], rfl, s_l01Vector_ok B E.2.2.2.1 , rfl, trivial, rfl, rfl, ?_⟩
    refine brB_t ?_
    refine ⟨fun h19 => ?_, fun h19 => ?_⟩
    · skip
      have h19' : Vec p n f 522 := (Vec_sh (a := 522) (o := 0)).1 (dec_elim_t h19)
      refine brB_t ?_
      refine brB_t ?_
      refine brB_t ?_
      refine ⟨⟨by first | omega | (simp <;> omega), by first | omega | (simp <;> omega)⟩, ?_⟩
      refine brB_t ?_
      refine .inl ⟨1, [], _, _, _, _, [_], rfl, s_l01Table_ok B E.2.2.2.2.1 , rfl, trivial, rfl, rfl, ?_⟩
      refine brB_t ?_
      refine ⟨fun h26 => ?_, fun h26 => ?_⟩
      · skip
        have h26' : Tab p n f 530 := (Tab_sh (a := 530) (o := 0)).1 (dec_elim_t h26)
        refine brB_t ?_
        refine brB_t ?_
        refine brB_t ?_
        refine ⟨⟨by first | omega | (simp <;> omega), by first | omega | (simp <;> omega)⟩, ?_⟩
        refine brB_t ?_
        refine .inl ⟨1, [], _, _, _, _, [_], rfl, s_l01Linear_ok B E.2.2.2.2.2 , rfl, trivial, rfl, rfl, ?_⟩
        refine brB_t ?_
        refine ⟨rfl, [], ?_, rfl, trivial, rfl, rfl⟩
        exact one_b (decide_eq_decide.2 ⟨fun q => ⟨h12'.1, h12'.2.1, h12'.2.2, h19', h26', (Lin_sh (a := 1042) (o := 0)).1 q⟩, fun q => (Lin_sh (a := 1042) (o := 0)).2 q.2.2.2.2.2⟩)
      · skip
        refine brB_f ?_
        refine brB_f ?_
        refine brB_f ?_
        refine brB_f ?_
        refine brB_f ?_
        refine ⟨rfl, [], ?_, rfl, trivial, rfl, rfl⟩
        exact one_b (dec_f fun q => dec_elim_t' h26 ((Tab_sh (a := 530) (o := 0)).2 q.2.2.2.2.1))
    · skip
      refine brB_f ?_
      refine brB_f ?_
      refine brB_f ?_
      refine brB_f ?_
      refine brB_f ?_
      refine brB_f ?_
      refine brB_f ?_
      refine brB_f ?_
      refine brB_f ?_
      refine brB_f ?_
      refine brB_f ?_
      refine ⟨rfl, [], ?_, rfl, trivial, rfl, rfl⟩
      exact one_b (dec_f fun q => dec_elim_t' h19 ((Vec_sh (a := 522) (o := 0)).2 q.2.2.2.1))
  · skip
    refine brB_f ?_
    refine brB_f ?_
    refine brB_f ?_
    refine brB_f ?_
    refine brB_f ?_
    refine brB_f ?_
    refine brB_f ?_
    refine brB_f ?_
    refine brB_f ?_
    refine brB_f ?_
    refine brB_f ?_
    refine brB_f ?_
    refine brB_f ?_
    refine brB_f ?_
    refine brB_f ?_
    refine brB_f ?_
    refine brB_f ?_
    refine ⟨rfl, [], ?_, rfl, trivial, rfl, rfl⟩
    exact one_b (dec_f fun q => dec_elim_t' h12 (show AShp p n f from ⟨q.1, q.2.1, q.2.2.1⟩))

theorem s_l01Mod_ok (B : Bs P ρ) (E : E_s_l01Mod P ρ) {p x : Int} (hp : 1 ≤ p) (hp2 : p ≤ 1000) :
    CallOK P ρ 72 [.i .i64 p, .i .i64 x] [] (.one (.u (byt (x % p)))) [] := by
  refine call_of_vc B.fn B.mo E rfl rfl ?_
  have hm := Int.tmod_lt_of_pos x (show 0 < p by omega)
  have hm2 := Int.lt_tmod_of_pos x (show 0 < p by omega)
  refine ⟨by omega, _, rfl, ?_⟩
  refine ⟨_, w64_id _ (by omega) (by omega), ?_⟩
  refine ⟨by omega, x % p, ?_, ?_⟩
  · rw [Int.tmod_eq_emod_of_nonneg (by omega), Int.add_emod_right]
    exact tmod_mod hp
  exact ⟨rfl, [], rfl, rfl, trivial, rfl, rfl⟩

theorem s_l01Add_ok (B : Bs P ρ) (E : E_s_l01Add P ρ) {p k : Int} {v w : By} (hp : 1 ≤ p) (hp2 : p ≤ 1000) (hk : -1000000000000 ≤ k) (hk2 : k ≤ 1000000000000) :
    CallOK P ρ 57 [.i .i64 p, .ag [] 8 v, .ag [] 8 w, .i .i64 k] [] (.one (.ag [] 8 (vec 8 p fun y => bz v y + k * bz w y))) [] := by
  refine call_of_vc B.fn B.mo E.1 rfl rfl ?_
  refine ⟨0, rfl, ?_⟩
  refine ⟨1, rfl, ?_⟩
  refine ⟨2, rfl, ?_⟩
  refine .inl ⟨(fun a0 a3 b1 b2 i0 => St.mk [(0, a0), (3, a3), (5, .one (.pt 0 0)), (6, .one (.pt 1 0)), (8, .one (.pt 2 0)), (9, .one (.i .i64 ((i0 : Nat) : Int)))] [Blk.mk false (.by [] 8 (plsN p v 0 k w i0)), b1, b2]) _ _ _ _ , fun i0 => True, 8, trivial, ⟨⟨rfl, rfl, rfl, rfl, rfl, rfl, trivial⟩, ⟨?_, rfl, rfl, trivial⟩, rfl⟩, fun i0 hi0 _ => ?_⟩
  · rw [plsN_zero]
  refine ⟨fun h11 => ?_, fun h11 => ?_⟩
  · replace h11 := of_decide_eq_true h11
    have b1 := mul_bd (A := 1000000000000) (B := 255) (a := k) (b := bz w i0) (by omega) (by omega) (bz_nn _ _) (bz_le _ _)
    have b2 := bz_nn v i0
    have b3 := bz_le v i0
    refine ⟨i0, i0, rfl, by omega, by omega, ?_⟩
    refine ⟨⟨by first | omega | (simp <;> omega), by first | omega | (simp <;> omega)⟩, ?_⟩
    refine ⟨i0, i0, rfl, by omega, by omega, ?_⟩
    refine ⟨⟨by first | omega | (simp <;> omega), by first | omega | (simp <;> omega)⟩, ?_⟩
    refine ⟨k * bz w i0, w64_id (k * bz w i0) (by omega) (by omega), ?_⟩
    refine ⟨bz v i0 + k * bz w i0, ?_, ?_⟩
    · show w64 (bz (plsN p v 0 k w i0) i0 + _) = _
      have : bz (plsN p v 0 k w i0) i0 = bz v i0 := by simp only [bz, plsN]; rw [if_neg (by omega)]
      rw [this]
      exact w64_id _ (by omega) (by omega)
    refine ⟨3, [], _, _, _, _, [_, _, _], rfl, s_l01Mod_ok B E.2 hp hp2, rfl, trivial, rfl, rfl, rfl, ?_⟩
    refine ⟨i0, 0 + i0, rfl, by omega, by omega, ?_⟩
    refine ⟨⟨by first | omega | (simp <;> omega), by first | omega | (simp <;> omega)⟩, ?_⟩   -- st8 ['.t', 28] ['.t', 27]
    refine ⟨((i0 + 1 : Nat) : Int), w64_id _ (by omega) (by omega), ?_⟩
    refine ⟨by omega, trivial, ⟨rfl, rfl, rfl, rfl, rfl, rfl, trivial⟩, ⟨?_, rfl, rfl, trivial⟩, rfl⟩
    have := plsN_succ (p := p) (f := v) (off := 0) (k := k) (w := w) (m := i0)
    rw [Nat.zero_add] at this
    refine blk_by ?_
    rw [Nat.zero_add]
    exact this.symm
  · replace h11 := of_decide_eq_false h11
    have e0 : 8 = i0 := by omega
    subst e0
    refine ⟨⟨by first | omega | (simp <;> omega), by first | omega | (simp <;> omega)⟩, ?_⟩
    refine ⟨⟨rfl, by first | omega | (simp <;> omega), by first | omega | (simp <;> omega)⟩, ?_⟩   -- sta ['.t', 8] ['.t', 29] 8
    refine ⟨rfl, ⟨by first | omega | (simp <;> omega), by first | omega | (simp <;> omega)⟩, [], ?_, rfl, trivial, rfl, rfl⟩
    refine one_ag (out_eq (fun y hy => ?_) fun _ h => vec_out h)
    simp only [plsN, vec]
    rw [if_pos (by omega), if_pos hy]
    rfl

end Hf
namespace Hf
open Go Classical
variable {P : Program} {ρ : Nat → FuncId}
theorem spl_plsN {p k : Int} {f w : By} {a : Nat} : spl f a 8 (vec 8 p fun y => bz (sh f a) y + k * bz w y) = plsN p f a k w 8 := by
  funext x
  simp only [spl, plsN]
  by_cases h : a ≤ x ∧ x < a + 8
  · rw [if_pos h, if_pos h]
    simp only [vec]
    rw [if_pos (by omega), bz_sh, show a + (x - a) = x by omega]
  · rw [if_neg h, if_neg h]
theorem sh_sh {f : By} {a b : Nat} : sh (sh f a) b = sh f (a + b) := by funext x; simp only [sh, Nat.add_assoc]
theorem z0_of {v : By} {i : Nat} (h : v i = 0) : bz v i = 0 := u_eq0.1 h

theorem s_l01Basis_ok (B : Bs P ρ) (E : E_s_l01Basis P ρ) {i : Nat} (hi : i < 8) :
    CallOK P ρ 55 [.i .i64 (i : Int)] [] (.one (.ag [] 8 (bas i))) [] := by
  refine call_of_vc B.fn B.mo E rfl rfl ?_
  refine ⟨0, rfl, ?_⟩
  refine ⟨1, rfl, ?_⟩
  refine ⟨⟨rfl, by first | omega | (simp <;> omega), by first | omega | (simp <;> omega)⟩, ?_⟩   -- sta ['.t', 3] ['.t', 4] 8
  refine ⟨i, i, rfl, by omega, by omega, ?_⟩
  refine ⟨⟨by first | omega | (simp <;> omega), by first | omega | (simp <;> omega)⟩, ?_⟩   -- st8 ['.t', 6] ['.c', ['.u', 1]]
  refine ⟨⟨by first | omega | (simp <;> omega), by first | omega | (simp <;> omega)⟩, ?_⟩
  refine ⟨⟨rfl, by first | omega | (simp <;> omega), by first | omega | (simp <;> omega)⟩, ?_⟩   -- sta ['.t', 2] ['.t', 7] 8
  refine ⟨rfl, ⟨by first | omega | (simp <;> omega), by first | omega | (simp <;> omega)⟩, [], ?_, rfl, trivial, rfl, rfl⟩
  refine one_ag (out_eq (fun k hk => ?_) fun k hk => ?_)
  · simp only [upd, spl, bas]
    by_cases e : k = i <;> simp [e]
  · simp only [bas]; rw [if_neg (by omega)]

theorem s_l01Apply_ok (B : Bs P ρ) (E : E_s_l01Apply P ρ) {p : Int} {n : Nat} {f v : By} (hp : 1 ≤ p) (hp2 : p ≤ 256) (hn : n ≤ 8) :
    CallOK P ρ 51 [.i .i64 p, .i .i64 (n : Int), .ag [] 64 f, .ag [] 8 v] [] (.one (.ag [] 8 (vec 8 p fun y => sm n fun i => bz v i * bz f (i * 8 + y)))) [] := by
  refine call_of_vc B.fn B.mo E.1 rfl rfl ?_
  refine ⟨0, rfl, ?_⟩
  refine ⟨1, rfl, ?_⟩
  refine ⟨2, rfl, ?_⟩
  refine ⟨3, rfl, ?_⟩
  refine ⟨⟨rfl, by first | omega | (simp <;> omega), by first | omega | (simp <;> omega)⟩, ?_⟩   -- sta ['.t', 9] ['.t', 11] 8
  refine .inl ⟨(fun a0 a1 b0 b1 b2 i0 => St.mk [(0, a0), (1, a1), (6, .one (.pt 0 0)), (7, .one (.pt 1 0)), (8, .one (.pt 2 0)), (9, .one (.pt 3 0)), (10, .one (.i .i64 ((i0 : Nat) : Int)))] [b0, b1, b2, Blk.mk false (.by [] 8 (vec 8 p fun y => sm i0 fun i => bz v i * bz f (i * 8 + y)))]) _ _ _ _ _ , fun i0 => True, n, trivial, ⟨⟨rfl, rfl, rfl, rfl, rfl, rfl, rfl, trivial⟩, ⟨rfl, rfl, rfl, ?_, trivial⟩, rfl⟩, fun i0 hi0 _ => ?_⟩
  · refine blk_by ?_
    rw [z_sta]
    exact vec_0.symm
  have q0 := bz_nn v i0
  have q1 := bz_le v i0
  refine ⟨fun h14 => ?_, fun h14 => ?_⟩
  · replace h14 := of_decide_eq_true h14
    refine ⟨i0, i0, rfl, by omega, by omega, ?_⟩
    refine ⟨⟨by first | omega | (simp <;> omega), by first | omega | (simp <;> omega)⟩, ?_⟩
    refine ⟨fun h20 => ?_, fun h20 => ?_⟩
    · replace h20 := bne_t h20
      refine ⟨⟨by first | omega | (simp <;> omega), by first | omega | (simp <;> omega)⟩, ?_⟩
      refine ⟨i0, i0 * 8, rfl, by omega, by omega, ?_⟩
      refine ⟨⟨by first | omega | (simp <;> omega), by first | omega | (simp <;> omega)⟩, ?_⟩
      refine ⟨i0, i0, rfl, by omega, by omega, ?_⟩
      refine ⟨⟨by first | omega | (simp <;> omega), by first | omega | (simp <;> omega)⟩, ?_⟩
      refine .inl ⟨4, [], _, _, _, _, [_, _, _, _], rfl, s_l01Add_ok B E.2 (k := bz v i0) hp (by omega) (by omega) (by omega), rfl, trivial, rfl, rfl, ?_⟩
      refine ⟨⟨rfl, by first | omega | (simp <;> omega), by first | omega | (simp <;> omega)⟩, ?_⟩   -- sta ['.t', 9] ['.t', 30] 8
      refine ⟨((i0 + 1 : Nat) : Int), w64_id _ (by omega) (by omega), ?_⟩
      refine ⟨by omega, trivial, ⟨rfl, rfl, rfl, rfl, rfl, rfl, rfl, trivial⟩, ⟨rfl, rfl, rfl, ?_, trivial⟩, rfl⟩
      refine blk_by ?_
      rw [spl_plsN, pl_vec0 hp hp2]
      exact vec_congr fun y _ => cg_of_eq rfl
    · replace h20 := bne_f h20
      refine ⟨((i0 + 1 : Nat) : Int), w64_id _ (by omega) (by omega), ?_⟩
      refine ⟨by omega, trivial, ⟨rfl, rfl, rfl, rfl, rfl, rfl, rfl, trivial⟩, ⟨rfl, rfl, rfl, ?_, trivial⟩, rfl⟩
      refine blk_by (vec_congr fun y _ => cg_of_eq ?_)
      simp only [sm]
      rw [z0_of h20, Int.zero_mul, Int.add_zero]
  · replace h14 := of_decide_eq_false h14
    have e0 : n = i0 := by omega
    subst e0
    refine ⟨⟨by first | omega | (simp <;> omega), by first | omega | (simp <;> omega)⟩, ?_⟩
    refine ⟨⟨rfl, by first | omega | (simp <;> omega), by first | omega | (simp <;> omega)⟩, ?_⟩   -- sta ['.t', 8] ['.t', 31] 8
    refine ⟨rfl, ⟨by first | omega | (simp <;> omega), by first | omega | (simp <;> omega)⟩, [], ?_, rfl, trivial, rfl, rfl⟩
    exact one_ag out_vec

theorem s_l01Times_ok (B : Bs P ρ) (E : E_s_l01Times P ρ) {p : Int} {n : Nat} {f v w : By} (hp : 1 ≤ p) (hp2 : p ≤ 256) (hn : n ≤ 8) :
    CallOK P ρ 56 [.ag [p, (n : Int)] 522 f, .ag [] 8 v, .ag [] 8 w] [] (.one (.ag [] 8 (vec 8 p (prd n f 10 v w)))) [] := by
  refine call_of_vc B.fn B.mo E.1 rfl rfl ?_
  refine ⟨0, rfl, ?_⟩
  refine ⟨1, rfl, ?_⟩
  refine ⟨2, rfl, ?_⟩
  refine ⟨3, rfl, ?_⟩
  refine ⟨4, rfl, ?_⟩
  refine ⟨⟨rfl, by first | omega | (simp <;> omega), by first | omega | (simp <;> omega)⟩, ?_⟩   -- sta ['.t', 7] ['.t', 9] 8
  refine .inl ⟨(fun b0 b1 b2 b3 i0 => St.mk [(3, .one (.pt 0 0)), (4, .one (.pt 1 0)), (5, .one (.pt 2 0)), (6, .one (.pt 3 0)), (7, .one (.pt 4 0)), (8, .one (.i .i64 ((i0 : Nat) : Int)))] [b0, b1, b2, b3, Blk.mk false (.by [] 8 (vec 8 p fun k => sm i0 fun i => sm n fun j => bz v i * bz w j * bz f (10 + i * 64 + j * 8 + k)))]) _ _ _ _ , fun i0 => True, n, trivial, ⟨⟨rfl, rfl, rfl, rfl, rfl, rfl, trivial⟩, ⟨rfl, rfl, rfl, rfl, ?_, trivial⟩, rfl⟩, fun i0 hi0 _ => ?_⟩
  · refine blk_by ?_
    rw [z_sta]
    exact vec_0.symm
  have q0 := bz_nn v i0
  have q1 := bz_le v i0
  refine ⟨fun h13 => ?_, fun h13 => ?_⟩
  · replace h13 := of_decide_eq_true h13
    refine ⟨i0, i0, rfl, by omega, by omega, ?_⟩
    refine ⟨⟨by first | omega | (simp <;> omega), by first | omega | (simp <;> omega)⟩, ?_⟩
    refine ⟨fun h19 => ?_, fun h19 => ?_⟩
    · replace h19 := bne_t h19
      refine ⟨⟨by first | omega | (simp <;> omega), by first | omega | (simp <;> omega)⟩, ?_⟩
      refine ⟨i0, 10 + i0 * 64, rfl, by omega, by omega, ?_⟩
      refine ⟨⟨by first | omega | (simp <;> omega), by first | omega | (simp <;> omega)⟩, ?_⟩
      refine ⟨⟨by first | omega | (simp <;> omega), by first | omega | (simp <;> omega)⟩, ?_⟩
      refine ⟨5, [], _, _, _, _, [_, _, _, _, _], rfl, s_l01Apply_ok B E.2.1 hp hp2 hn, rfl, trivial, rfl, rfl, rfl, ?_⟩
      refine ⟨i0, i0, rfl, by omega, by omega, ?_⟩
      refine ⟨⟨by first | omega | (simp <;> omega), by first | omega | (simp <;> omega)⟩, ?_⟩
      refine .inl ⟨5, [], _, _, _, _, [_, _, _, _, _], rfl, s_l01Add_ok B E.2.2 (k := bz v i0) hp (by omega) (by omega) (by omega), rfl, trivial, rfl, rfl, ?_⟩
      refine ⟨⟨rfl, by first | omega | (simp <;> omega), by first | omega | (simp <;> omega)⟩, ?_⟩   -- sta ['.t', 7] ['.t', 37] 8
      refine ⟨((i0 + 1 : Nat) : Int), w64_id _ (by omega) (by omega), ?_⟩
      refine ⟨by omega, trivial, ⟨rfl, rfl, rfl, rfl, rfl, rfl, trivial⟩, ⟨rfl, rfl, rfl, rfl, ?_, trivial⟩, rfl⟩
      refine blk_by ?_
      rw [spl_plsN, pl_vec0 hp hp2]
      refine vec_congr fun y hy => cg.symm (cg_add rfl ((cg_mul rfl (cg_vec hp hp2 hy)).trans (cg_of_eq ?_)))
      rw [← sm_mul]
      refine sm_congr fun j _ => ?_
      rw [Int.mul_assoc, sh_zero, bz_sh, Nat.add_assoc (10 + i0 * 64)]
    · replace h19 := bne_f h19
      refine ⟨((i0 + 1 : Nat) : Int), w64_id _ (by omega) (by omega), ?_⟩
      refine ⟨by omega, trivial, ⟨rfl, rfl, rfl, rfl, rfl, rfl, trivial⟩, ⟨rfl, rfl, rfl, rfl, ?_, trivial⟩, rfl⟩
      refine blk_by (vec_congr fun y _ => cg_of_eq ?_)
      show sm i0 _ + sm n _ = sm i0 _
      rw [sm_zero (n := n) fun j _ => by rw [z0_of h19, Int.zero_mul, Int.zero_mul], Int.add_zero]
  · replace h13 := of_decide_eq_false h13
    have e0 : n = i0 := by omega
    subst e0
    refine ⟨⟨by first | omega | (simp <;> omega), by first | omega | (simp <;> omega)⟩, ?_⟩
    refine ⟨⟨rfl, by first | omega | (simp <;> omega), by first | omega | (simp <;> omega)⟩, ?_⟩   -- sta ['.t', 6] ['.t', 38] 8
    refine ⟨rfl, ⟨by first | omega | (simp <;> omega), by first | omega | (simp <;> omega)⟩, [], ?_, rfl, trivial, rfl, rfl⟩
    exact one_ag out_vec

theorem s_l01Fault_t_ok (B : Bs P ρ) (E : E_s_l01Fault P ρ) {n : Nat} {p : Int} {f : By} (hp : 1 ≤ p) (hp2 : p ≤ 256) (hn : n ≤ 8) (hA : ∀ i j k : Nat, i < n → j < n → k < n → Aso p n f i j k) :
    CallOK P ρ 97 [.ag [p, (n : Int)] 522 f] [] (.tup [.sn, .b false]) [] := by
  refine call_of_vc B.fn B.mo E.1 rfl rfl ?_
  refine ⟨0, rfl, ?_⟩
  refine .inl ⟨(fun b0 i0 => St.mk [(1, .one (.pt 0 0)), (4, .one (.i .i64 ((i0 : Nat) : Int)))] [b0]) _ , fun i0 => True, n, trivial, ⟨⟨rfl, rfl, trivial⟩, ⟨rfl, trivial⟩, rfl⟩, fun i0 hi0 _ => ?_⟩
  refine ⟨fun h10 => ?_, fun h10 => ?_⟩
  · replace h10 := of_decide_eq_true h10
    refine .inl ⟨(fun a4 b0 i1 => St.mk [(1, .one (.pt 0 0)), (4, a4), (5, .one (.i .i64 ((i1 : Nat) : Int)))] [b0]) _ _ , fun i1 => True, n, trivial, ⟨⟨rfl, rfl, rfl, trivial⟩, ⟨rfl, trivial⟩, rfl⟩, fun i1 hi1 _ => ?_⟩
    refine ⟨fun h16 => ?_, fun h16 => ?_⟩
    · replace h16 := of_decide_eq_true h16
      refine .inl ⟨(fun a4 a5 b0 i2 => St.mk [(1, .one (.pt 0 0)), (4, a4), (5, a5), (6, .one (.i .i64 ((i2 : Nat) : Int)))] [b0]) _ _ _ , fun i2 => True, n, trivial, ⟨⟨rfl, rfl, rfl, rfl, trivial⟩, ⟨rfl, trivial⟩, rfl⟩, fun i2 hi2 _ => ?_⟩
      refine ⟨fun h22 => ?_, fun h22 => ?_⟩
      · replace h22 := of_decide_eq_true h22
        refine ⟨i0, 10 + i0 * 64, rfl, by omega, by omega, ?_⟩
        refine ⟨i1, 10 + i0 * 64 + i1 * 8, rfl, by omega, by omega, ?_⟩
        refine ⟨⟨by first | omega | (simp <;> omega), by first | omega | (simp <;> omega)⟩, ?_⟩
        refine ⟨1, [], _, _, _, _, [_], rfl, s_l01Basis_ok B E.2.1 (i := i2) (by omega), rfl, trivial, rfl, rfl, rfl, ?_⟩
        refine ⟨1, [], _, _, _, _, [_], rfl, s_l01Times_ok B E.2.2 hp hp2 hn, rfl, trivial, rfl, rfl, rfl, ?_⟩
        refine ⟨1, [], _, _, _, _, [_], rfl, s_l01Basis_ok B E.2.1 (i := i0) (by omega), rfl, trivial, rfl, rfl, rfl, ?_⟩
        refine ⟨i1, 10 + i1 * 64, rfl, by omega, by omega, ?_⟩
        refine ⟨i2, 10 + i1 * 64 + i2 * 8, rfl, by omega, by omega, ?_⟩
        refine ⟨⟨by first | omega | (simp <;> omega), by first | omega | (simp <;> omega)⟩, ?_⟩
        refine .inl ⟨1, [], _, _, _, _, [_], rfl, s_l01Times_ok B E.2.2 hp hp2 hn, rfl, trivial, rfl, rfl, ?_⟩
        refine ⟨fun h45 => ?_, fun h45 => ?_⟩
        · skip
          have q := hA i0 i1 i2 (by omega) (by omega) (by omega)
          exact (neB_t h45 fun x _ => congrFun q x).elim
          skip
        · skip
          refine ⟨((i2 + 1 : Nat) : Int), w64_id _ (by omega) (by omega), ?_⟩
          exact ⟨by omega, trivial, ⟨rfl, rfl, rfl, rfl, trivial⟩, ⟨rfl, trivial⟩, rfl⟩
      · replace h22 := of_decide_eq_false h22
        have e2 : n = i2 := by omega
        subst e2
        refine ⟨((i1 + 1 : Nat) : Int), w64_id _ (by omega) (by omega), ?_⟩
        exact ⟨by omega, trivial, ⟨rfl, rfl, rfl, trivial⟩, ⟨rfl, trivial⟩, rfl⟩
    · replace h16 := of_decide_eq_false h16
      have e1 : n = i1 := by omega
      subst e1
      refine ⟨((i0 + 1 : Nat) : Int), w64_id _ (by omega) (by omega), ?_⟩
      exact ⟨by omega, trivial, ⟨rfl, rfl, trivial⟩, ⟨rfl, trivial⟩, rfl⟩
  · replace h10 := of_decide_eq_false h10
    have e0 : n = i0 := by omega
    subst e0
    exact ⟨rfl, [], rfl, rfl, trivial, rfl, rfl⟩

theorem s_l01Fault_f_ok (B : Bs P ρ) (E : E_s_l01Fault P ρ) {n : Nat} {p : Int} {f : By} {a b c : Nat} (hp : 1 ≤ p) (hp2 : p ≤ 256) (hn : n ≤ 8) (hA : Fst n (fun i j k => ¬ Aso p n f i j k) a b c) :
    CallOK P ρ 97 [.ag [p, (n : Int)] 522 f] [] (.tup [.sl 0 0 3 3, .b true]) [⟨false, .rw [.i .i64 (a : Int), .i .i64 (b : Int), .i .i64 (c : Int)]⟩] := by
  refine call_of_vc B.fn B.mo E.1 rfl rfl ?_
  refine ⟨0, rfl, ?_⟩
  refine .inl ⟨(fun b0 i0 => St.mk [(1, .one (.pt 0 0)), (4, .one (.i .i64 ((i0 : Nat) : Int)))] [b0]) _ , fun i0 => ∀ i, i < i0 → ∀ j, j < n → ∀ k, k < n → Aso p n f i j k, n, fun _ _ => by omega, ⟨⟨rfl, rfl, trivial⟩, ⟨rfl, trivial⟩, rfl⟩, fun i0 hi0 hF0 => ?_⟩
  refine ⟨fun h10 => ?_, fun h10 => ?_⟩
  · replace h10 := of_decide_eq_true h10
    refine .inl ⟨(fun a4 b0 i1 => St.mk [(1, .one (.pt 0 0)), (4, a4), (5, .one (.i .i64 ((i1 : Nat) : Int)))] [b0]) _ _ , fun i1 => ∀ j, j < i1 → ∀ k, k < n → Aso p n f i0 j k, n, fun _ _ => by omega, ⟨⟨rfl, rfl, rfl, trivial⟩, ⟨rfl, trivial⟩, rfl⟩, fun i1 hi1 hF1 => ?_⟩
    refine ⟨fun h16 => ?_, fun h16 => ?_⟩
    · replace h16 := of_decide_eq_true h16
      refine .inl ⟨(fun a4 a5 b0 i2 => St.mk [(1, .one (.pt 0 0)), (4, a4), (5, a5), (6, .one (.i .i64 ((i2 : Nat) : Int)))] [b0]) _ _ _ , fun i2 => ∀ k, k < i2 → Aso p n f i0 i1 k, n, fun _ _ => by omega, ⟨⟨rfl, rfl, rfl, rfl, trivial⟩, ⟨rfl, trivial⟩, rfl⟩, fun i2 hi2 hF2 => ?_⟩
      refine ⟨fun h22 => ?_, fun h22 => ?_⟩
      · replace h22 := of_decide_eq_true h22
        refine ⟨i0, 10 + i0 * 64, rfl, by omega, by omega, ?_⟩
        refine ⟨i1, 10 + i0 * 64 + i1 * 8, rfl, by omega, by omega, ?_⟩
        refine ⟨⟨by first | omega | (simp <;> omega), by first | omega | (simp <;> omega)⟩, ?_⟩
        refine ⟨1, [], _, _, _, _, [_], rfl, s_l01Basis_ok B E.2.1 (i := i2) (by omega), rfl, trivial, rfl, rfl, rfl, ?_⟩
        refine ⟨1, [], _, _, _, _, [_], rfl, s_l01Times_ok B E.2.2 hp hp2 hn, rfl, trivial, rfl, rfl, rfl, ?_⟩
        refine ⟨1, [], _, _, _, _, [_], rfl, s_l01Basis_ok B E.2.1 (i := i0) (by omega), rfl, trivial, rfl, rfl, rfl, ?_⟩
        refine ⟨i1, 10 + i1 * 64, rfl, by omega, by omega, ?_⟩
        refine ⟨i2, 10 + i1 * 64 + i2 * 8, rfl, by omega, by omega, ?_⟩
        refine ⟨⟨by first | omega | (simp <;> omega), by first | omega | (simp <;> omega)⟩, ?_⟩
        refine .inl ⟨1, [], _, _, _, _, [_], rfl, s_l01Times_ok B E.2.2 hp hp2 hn, rfl, trivial, rfl, rfl, ?_⟩
        refine ⟨fun h45 => ?_, fun h45 => ?_⟩
        · skip
          have q : ¬ Aso p n f i0 i1 i2 := fun q => neB_t h45 fun x _ => congrFun q x
          have q2 : Fst n (fun i j k => ¬ Aso p n f i j k) i0 i1 i2 := ⟨⟨by omega, by omega, by omega, q⟩, fun i h1 j h2 k h3 => Classical.not_not.2 (hF0 i h1 j h2 k h3), fun j h2 k h3 => Classical.not_not.2 (hF1 j h2 k h3), fun k h3 => Classical.not_not.2 (hF2 k h3)⟩
          have q3 := Fst_un hA q2
          refine ⟨1, rfl, ?_⟩
          refine ⟨rfl, [1], rfl, rfl, ⟨?_, trivial⟩, rfl, rfl⟩
          show some (Blk.mk false (.rw [.i .i64 (i0 : Int), .i .i64 (i1 : Int), .i .i64 (i2 : Int)])) = some (Blk.mk false (.rw [.i .i64 (a : Int), .i .i64 (b : Int), .i .i64 (c : Int)]))
          rw [q3.1, q3.2.1, q3.2.2]
        · skip
          have q : Aso p n f i0 i1 i2 := vec_ext (fun x hx => vec_out hx) (neB_f h45)
          refine ⟨((i2 + 1 : Nat) : Int), w64_id _ (by omega) (by omega), ?_⟩
          refine ⟨by omega, ?_, ⟨rfl, rfl, rfl, rfl, trivial⟩, ⟨rfl, trivial⟩, rfl⟩
          intro k hk
          by_cases e : k = i2
          · subst e; exact q
          · exact hF2 k (by omega)
      · replace h22 := of_decide_eq_false h22
        have e2 : n = i2 := by omega
        subst e2
        refine ⟨((i1 + 1 : Nat) : Int), w64_id _ (by omega) (by omega), ?_⟩
        refine ⟨by omega, ?_, ⟨rfl, rfl, rfl, trivial⟩, ⟨rfl, trivial⟩, rfl⟩
        intro j hj k hk
        by_cases e : j = i1
        · subst e; exact hF2 k hk
        · exact hF1 j (by omega) k hk
    · replace h16 := of_decide_eq_false h16
      have e1 : n = i1 := by omega
      subst e1
      refine ⟨((i0 + 1 : Nat) : Int), w64_id _ (by omega) (by omega), ?_⟩
      refine ⟨by omega, ?_, ⟨rfl, rfl, trivial⟩, ⟨rfl, trivial⟩, rfl⟩
      intro i hi j hj k hk
      by_cases e : i = i0
      · subst e; exact hF1 j hj k hk
      · exact hF0 i (by omega) j hj k hk
  · replace h10 := of_decide_eq_false h10
    have e0 : n = i0 := by omega
    subst e0
    exact (hA.1.2.2.2 (hF0 a hA.1.1 b hA.1.2.1 c hA.1.2.2.1)).elim

theorem s_l01Is_s_ok (B : Bs P ρ) (E : E_s_l01Is P ρ) {n : Int} {p : Int} {f : By} (hS : ¬ AShp p n f) :
    CallOK P ρ 76 [.ag [p, n] 522 f] [] (.one (.b false)) [] := by
  refine call_of_vc B.fn B.mo E.1 rfl rfl ?_
  refine ⟨0, rfl, ?_⟩
  refine .inl ⟨1, [], _, _, _, _, [_], rfl, s_l01Shape_ok B E.2.1 , rfl, trivial, rfl, rfl, ?_⟩
  refine ⟨fun h8 => ?_, fun h8 => ?_⟩
  · skip
    exact ⟨rfl, [], rfl, rfl, trivial, rfl, rfl⟩
  · skip
    exact (hS (dec_elim_t (not_f h8))).elim

theorem s_l01Is_t_ok (B : Bs P ρ) (E : E_s_l01Is P ρ) {n : Nat} {p : Int} {f : By} (hS : AShp p n f) (hA : ∀ i j k : Nat, i < n → j < n → k < n → Aso p n f i j k) :
    CallOK P ρ 76 [.ag [p, (n : Int)] 522 f] [] (.one (.b (decide (∀ i, i < n → Uni p n f i)))) [] := by
  refine call_of_vc B.fn B.mo E.1 rfl rfl ?_
  refine ⟨0, rfl, ?_⟩
  refine .inl ⟨1, [], _, _, _, _, [_], rfl, s_l01Shape_ok B E.2.1 , rfl, trivial, rfl, rfl, ?_⟩
  refine ⟨fun h8 => ?_, fun h8 => ?_⟩
  · skip
    exact (dec_elim_t' (not_t h8) hS).elim
  · skip
    have hb := hS.p1
    refine .inl ⟨(fun b0 i0 => St.mk [(1, .one (.pt 0 0)), (3, .one (.i .i64 ((i0 : Nat) : Int)))] [b0]) _ , fun i0 => ∀ i, i < i0 → Uni p n f i, n, fun _ _ => by omega, ⟨⟨rfl, rfl, trivial⟩, ⟨rfl, trivial⟩, rfl⟩, fun i0 hi0 hF0 => ?_⟩
    refine ⟨fun h12 => ?_, fun h12 => ?_⟩
    · replace h12 := of_decide_eq_true h12
      refine ⟨⟨by first | omega | (simp <;> omega), by first | omega | (simp <;> omega)⟩, ?_⟩
      refine ⟨1, [], _, _, _, _, [_], rfl, s_l01Basis_ok B E.2.2.1 (i := i0) (by omega), rfl, trivial, rfl, rfl, rfl, ?_⟩
      refine ⟨1, [], _, _, _, _, [_], rfl, s_l01Times_ok B E.2.2.2.1 (by omega) (by omega) (by omega), rfl, trivial, rfl, rfl, rfl, ?_⟩
      refine ⟨1, [], _, _, _, _, [_], rfl, s_l01Basis_ok B E.2.2.1 (i := i0) (by omega), rfl, trivial, rfl, rfl, rfl, ?_⟩
      refine ⟨fun h24 => ?_, fun h24 => ?_⟩
      · skip
        have z20 := neB_t h24
        refine brB_t ?_
        refine brB_t ?_
        refine brB_t ?_
        refine brB_t ?_
        refine brB_t ?_
        refine brB_t ?_
        refine brB_t ?_
        refine brB_t ?_
        refine brB_t ?_
        refine brB_t ?_
        refine ⟨rfl, [], ?_, rfl, trivial, rfl, rfl⟩
        exact one_b (dec_f fun q => z20 fun x _ => congrFun (q i0 (by omega)).1 x)
      · skip
        have z20 := neB_f h24
        refine brB_f ?_
        refine brB_f ?_
        refine ⟨1, [], _, _, _, _, [_], rfl, s_l01Basis_ok B E.2.2.1 (i := i0) (by omega), rfl, trivial, rfl, rfl, rfl, ?_⟩
        refine brB_f ?_
        refine brB_f ?_
        refine ⟨⟨by first | omega | (simp <;> omega), by first | omega | (simp <;> omega)⟩, ?_⟩
        refine brB_f ?_
        refine ⟨1, [], _, _, _, _, [_], rfl, s_l01Times_ok B E.2.2.2.1 (by omega) (by omega) (by omega), rfl, trivial, rfl, rfl, rfl, ?_⟩
        refine brB_f ?_
        refine brB_f ?_
        refine .inl ⟨1, [], _, _, _, _, [_], rfl, s_l01Basis_ok B E.2.2.1 (i := i0) (by omega), rfl, trivial, rfl, rfl, ?_⟩
        refine brB_f ?_
        refine brB_f ?_
        refine ⟨fun h34 => ?_, fun h34 => ?_⟩
        · skip
          have z27 := neB_t h34
          refine ⟨rfl, [], ?_, rfl, trivial, rfl, rfl⟩
          exact one_b (dec_f fun q => z27 fun x _ => congrFun (q i0 (by omega)).2 x)
        · skip
          have z27 := neB_f h34
          refine ⟨((i0 + 1 : Nat) : Int), w64_id _ (by omega) (by omega), ?_⟩
          refine ⟨by omega, ?_, ⟨rfl, rfl, trivial⟩, ⟨rfl, trivial⟩, rfl⟩
          intro k hk
          by_cases e : k = i0
          · subst e
            exact ⟨vec_ext (bas_out (by omega)) z20, vec_ext (bas_out (by omega)) z27⟩
          · exact hF0 k (by omega)
    · replace h12 := of_decide_eq_false h12
      have e0 : n = i0 := by omega
      subst e0
      refine .inl ⟨1, [], _, _, _, _, [_], rfl, s_l01Fault_t_ok B E.2.2.2.2 (by omega) (by omega) (by omega) hA, rfl, trivial, rfl, rfl, ?_⟩
      refine ⟨rfl, [], ?_, rfl, trivial, rfl, rfl⟩
      exact one_b (dec_t hF0)

theorem s_l01Is_f_ok (B : Bs P ρ) (E : E_s_l01Is P ρ) {n : Nat} {p : Int} {f : By} {a b c : Nat} (hS : AShp p n f) (hA : Fst n (fun i j k => ¬ Aso p n f i j k) a b c) :
    CallOK P ρ 76 [.ag [p, (n : Int)] 522 f] [] (.one (.b false)) [] := by
  refine call_of_vc B.fn B.mo E.1 rfl rfl ?_
  refine ⟨0, rfl, ?_⟩
  refine .inl ⟨1, [], _, _, _, _, [_], rfl, s_l01Shape_ok B E.2.1 , rfl, trivial, rfl, rfl, ?_⟩
  refine ⟨fun h8 => ?_, fun h8 => ?_⟩
  · skip
    exact (dec_elim_t' (not_t h8) hS).elim
  · skip
    have hb := hS.p1
    refine .inl ⟨(fun b0 i0 => St.mk [(1, .one (.pt 0 0)), (3, .one (.i .i64 ((i0 : Nat) : Int)))] [b0]) _ , fun i0 => True, n, trivial, ⟨⟨rfl, rfl, trivial⟩, ⟨rfl, trivial⟩, rfl⟩, fun i0 hi0 _ => ?_⟩
    refine ⟨fun h12 => ?_, fun h12 => ?_⟩
    · replace h12 := of_decide_eq_true h12
      refine ⟨⟨by first | omega | (simp <;> omega), by first | omega | (simp <;> omega)⟩, ?_⟩
      refine ⟨1, [], _, _, _, _, [_], rfl, s_l01Basis_ok B E.2.2.1 (i := i0) (by omega), rfl, trivial, rfl, rfl, rfl, ?_⟩
      refine ⟨1, [], _, _, _, _, [_], rfl, s_l01Times_ok B E.2.2.2.1 (by omega) (by omega) (by omega), rfl, trivial, rfl, rfl, rfl, ?_⟩
      refine ⟨1, [], _, _, _, _, [_], rfl, s_l01Basis_ok B E.2.2.1 (i := i0) (by omega), rfl, trivial, rfl, rfl, rfl, ?_⟩
      refine ⟨fun h24 => ?_, fun h24 => ?_⟩
      · skip
        refine brB_t ?_
        refine brB_t ?_
        refine brB_t ?_
        refine brB_t ?_
        refine brB_t ?_
        refine brB_t ?_
        refine brB_t ?_
        refine brB_t ?_
        refine brB_t ?_
        refine brB_t ?_
        exact ⟨rfl, [], rfl, rfl, trivial, rfl, rfl⟩
      · skip
        refine brB_f ?_
        refine brB_f ?_
        refine ⟨1, [], _, _, _, _, [_], rfl, s_l01Basis_ok B E.2.2.1 (i := i0) (by omega), rfl, trivial, rfl, rfl, rfl, ?_⟩
        refine brB_f ?_
        refine brB_f ?_
        refine ⟨⟨by first | omega | (simp <;> omega), by first | omega | (simp <;> omega)⟩, ?_⟩
        refine brB_f ?_
        refine ⟨1, [], _, _, _, _, [_], rfl, s_l01Times_ok B E.2.2.2.1 (by omega) (by omega) (by omega), rfl, trivial, rfl, rfl, rfl, ?_⟩
        refine brB_f ?_
        refine brB_f ?_
        refine .inl ⟨1, [], _, _, _, _, [_], rfl, s_l01Basis_ok B E.2.2.1 (i := i0) (by omega), rfl, trivial, rfl, rfl, ?_⟩
        refine brB_f ?_
        refine brB_f ?_
        refine ⟨fun h34 => ?_, fun h34 => ?_⟩
        · skip
          exact ⟨rfl, [], rfl, rfl, trivial, rfl, rfl⟩
        · skip
          refine ⟨((i0 + 1 : Nat) : Int), w64_id _ (by omega) (by omega), ?_⟩
          exact ⟨by omega, trivial, ⟨rfl, rfl, trivial⟩, ⟨rfl, trivial⟩, rfl⟩
    · replace h12 := of_decide_eq_false h12
      have e0 : n = i0 := by omega
      subst e0
      refine .inl ⟨1, [], _, _, _, _, [_, _], rfl, s_l01Fault_f_ok B E.2.2.2.2 (by omega) (by omega) (by omega) hA, rfl, trivial, rfl, rfl, ?_⟩
      exact ⟨rfl, [], rfl, rfl, trivial, rfl, rfl⟩

theorem s_l01Is_ok (B : Bs P ρ) (E : E_s_l01Is P ρ) {n : Int} {p : Int} {f : By} :
    CallOK P ρ 76 [.ag [p, n] 522 f] [] (.one (.b (decide (Alg p n f)))) [] := by
  by_cases hS : AShp p n f
  · obtain ⟨m, rfl⟩ : ∃ m : Nat, n = (m : Int) := ⟨n.toNat, by have := hS.1.2.1; omega⟩
    by_cases hA : ∀ i j k : Nat, i < m → j < m → k < m → Aso p m f i j k
    · have e : decide (Alg p m f) = decide (∀ i, i < m → Uni p m f i) :=
        decide_eq_decide.2 ⟨fun q i hi => q.2.1 i (by omega), fun q => ⟨hS, fun i hi => q i (by omega), hA⟩⟩
      rw [e]; exact s_l01Is_t_ok B E hS hA
    · rw [decide_eq_false fun q : Alg p m f => hA q.2.2]
      obtain ⟨a, b, c, h⟩ := Fst_ex (n := m) (bad := fun i j k => ¬ Aso p m f i j k) (fun q => hA fun i j k h1 h2 h3 => Classical.not_not.1 (q i j k h1 h2 h3))
      exact s_l01Is_f_ok B E hS h
  · rw [decide_eq_false fun q : Alg p n f => hS q.1]
    exact s_l01Is_s_ok B E hS
end Hf
namespace Hf
open Go Classical
variable {P : Program} {ρ : Nat → FuncId}
theorem byt_mod_inj {p a b : Int} (hp : 1 ≤ p) (hp2 : p ≤ 256) (h : byt (a % p) = byt (b % p)) : a % p = b % p := by
  have h1 := byt_toNat (a % p)
  have h2 := byt_toNat (b % p)
  rw [h] at h1
  have := Int.emod_nonneg a (show p ≠ 0 by omega)
  have := Int.emod_lt_of_pos a (show 0 < p by omega)
  have := Int.emod_nonneg b (show p ≠ 0 by omega)
  have := Int.emod_lt_of_pos b (show 0 < p by omega)
  omega

theorem s_l02Sums_ok (B : Bs P ρ) (E : E_s_l02Sums P ρ) {n : Nat} {p : Int} {f : By} {i j k l : Nat} (hp : 1 ≤ p) (hp2 : p ≤ 256) (hn : n ≤ 8) (hi : i < 8) (hj : j < 8) (hk : k < 8) (hl : l < 8) :
    CallOK P ρ 115 [.ag [p, (n : Int)] 522 f, .i .i64 (i : Int), .i .i64 (j : Int), .i .i64 (k : Int), .i .i64 (l : Int)] [] (.tup [.u (byt (coL n f i j k l % p)), .u (byt (coR n f i j k l % p))]) [] := by
  refine call_of_vc B.fn B.mo E.1 rfl rfl ?_
  refine ⟨0, rfl, ?_⟩
  refine .inl ⟨(fun a1 a2 a3 a4 b0 i0 => St.mk [(1, a1), (2, a2), (3, a3), (4, a4), (5, .one (.pt 0 0)), (12, .one (.i .i64 (coL i0 f i j k l))), (13, .one (.i .i64 (coR i0 f i j k l))), (14, .one (.i .i64 ((i0 : Nat) : Int)))] [b0]) _ _ _ _ _ , fun i0 => True, n, trivial, ⟨⟨rfl, rfl, rfl, rfl, rfl, rfl, rfl, rfl, trivial⟩, ⟨rfl, trivial⟩, rfl⟩, fun i0 hi0 _ => ?_⟩
  have q1 := bz2 f f (10 + i * 64 + i0 * 8 + l) (10 + i0 * 64 + j * 8 + k)
  have q2 := bz2 f f (10 + i * 64 + j * 8 + i0) (10 + i0 * 64 + k * 8 + l)
  have q3 := coL_bd (m := i0) (f := f) (i := i) (j := j) (k := k) (l := l)
  have q4 := coR_bd (m := i0) (f := f) (i := i) (j := j) (k := k) (l := l)
  refine ⟨fun h18 => ?_, fun h18 => ?_⟩
  · replace h18 := of_decide_eq_true h18
    refine ⟨i, 10 + i * 64, rfl, by omega, by omega, ?_⟩
    refine ⟨i0, 10 + i * 64 + i0 * 8, rfl, by omega, by omega, ?_⟩
    refine ⟨l, 10 + i * 64 + i0 * 8 + l, rfl, by omega, by omega, ?_⟩
    refine ⟨⟨by first | omega | (simp <;> omega), by first | omega | (simp <;> omega)⟩, ?_⟩
    refine ⟨i0, 10 + i0 * 64, rfl, by omega, by omega, ?_⟩
    refine ⟨j, 10 + i0 * 64 + j * 8, rfl, by omega, by omega, ?_⟩
    refine ⟨k, 10 + i0 * 64 + j * 8 + k, rfl, by omega, by omega, ?_⟩
    refine ⟨⟨by first | omega | (simp <;> omega), by first | omega | (simp <;> omega)⟩, ?_⟩
    refine ⟨bz f (10 + i * 64 + i0 * 8 + l) * bz f (10 + i0 * 64 + j * 8 + k), w64_id (bz f (10 + i * 64 + i0 * 8 + l) * bz f (10 + i0 * 64 + j * 8 + k)) (by omega) (by omega), ?_⟩
    refine ⟨coL i0 f i j k l + bz f (10 + i * 64 + i0 * 8 + l) * bz f (10 + i0 * 64 + j * 8 + k), w64_id (coL i0 f i j k l + bz f (10 + i * 64 + i0 * 8 + l) * bz f (10 + i0 * 64 + j * 8 + k)) (by omega) (by omega), ?_⟩
    refine ⟨i, 10 + i * 64, rfl, by omega, by omega, ?_⟩
    refine ⟨j, 10 + i * 64 + j * 8, rfl, by omega, by omega, ?_⟩
    refine ⟨i0, 10 + i * 64 + j * 8 + i0, rfl, by omega, by omega, ?_⟩
    refine ⟨⟨by first | omega | (simp <;> omega), by first | omega | (simp <;> omega)⟩, ?_⟩
    refine ⟨i0, 10 + i0 * 64, rfl, by omega, by omega, ?_⟩
    refine ⟨k, 10 + i0 * 64 + k * 8, rfl, by omega, by omega, ?_⟩
    refine ⟨l, 10 + i0 * 64 + k * 8 + l, rfl, by omega, by omega, ?_⟩
    refine ⟨⟨by first | omega | (simp <;> omega), by first | omega | (simp <;> omega)⟩, ?_⟩
    refine ⟨bz f (10 + i * 64 + j * 8 + i0) * bz f (10 + i0 * 64 + k * 8 + l), w64_id (bz f (10 + i * 64 + j * 8 + i0) * bz f (10 + i0 * 64 + k * 8 + l)) (by omega) (by omega), ?_⟩
    refine ⟨coR i0 f i j k l + bz f (10 + i * 64 + j * 8 + i0) * bz f (10 + i0 * 64 + k * 8 + l), w64_id (coR i0 f i j k l + bz f (10 + i * 64 + j * 8 + i0) * bz f (10 + i0 * 64 + k * 8 + l)) (by omega) (by omega), ?_⟩
    refine ⟨((i0 + 1 : Nat) : Int), w64_id _ (by omega) (by omega), ?_⟩
    exact ⟨by omega, trivial, ⟨rfl, rfl, rfl, rfl, rfl, rfl, rfl, rfl, trivial⟩, ⟨rfl, trivial⟩, rfl⟩
  · replace h18 := of_decide_eq_false h18
    have e0 : n = i0 := by omega
    subst e0
    refine ⟨1, [], _, _, _, _, [_], rfl, s_l01Mod_ok B E.2 hp (by omega), rfl, trivial, rfl, rfl, rfl, ?_⟩
    refine .inl ⟨1, [], _, _, _, _, [_], rfl, s_l01Mod_ok B E.2 hp (by omega), rfl, trivial, rfl, rfl, ?_⟩
    exact ⟨rfl, [], rfl, rfl, trivial, rfl, rfl⟩

theorem s_l02Fault_t_ok (B : Bs P ρ) (E : E_s_l02Fault P ρ) {n : Nat} {p : Int} {f : By} (hp : 1 ≤ p) (hp2 : p ≤ 256) (hn : n ≤ 8) (hA : ∀ t : Nat, t < n * n * n * n → CoaT p n f t) :
    CallOK P ρ 99 [.ag [p, (n : Int)] 522 f] [] (.tup [.sn, .b false]) [] := by
  refine call_of_vc B.fn B.mo E.1 rfl rfl ?_
  have hpw := pw hn
  refine ⟨0, rfl, ?_⟩
  refine .inl ⟨(fun a4 b0 i0 => St.mk [(1, .one (.pt 0 0)), (4, a4), (5, .one (.i .i64 ((i0 : Nat) : Int)))] [b0]) _ _ , fun i0 => True, n * n * n * n, trivial, ⟨⟨rfl, rfl, rfl, trivial⟩, ⟨rfl, trivial⟩, rfl⟩, fun i0 hi0 _ => ?_⟩
  refine ⟨((n * n : Nat) : Int), ml (by omega), ?_⟩
  refine ⟨((n * n * n : Nat) : Int), ml (by omega), ?_⟩
  refine ⟨((n * n * n * n : Nat) : Int), ml (by omega), ?_⟩
  refine ⟨fun h22 => ?_, fun h22 => ?_⟩
  · replace h22 := of_decide_eq_true h22
    have hlt : i0 < n * n * n * n := by omega
    have hd := dig hlt
    refine ⟨((n * n : Nat) : Int), ml (by omega), ?_⟩
    refine ⟨((n * n * n : Nat) : Int), ml (by omega), ?_⟩
    refine ⟨by have : n * n * n ≠ 0 := Nat.ne_of_gt (Nat.mul_pos (Nat.mul_pos hd.1 hd.1) hd.1); omega, ((i0 / (n * n * n) : Nat) : Int), qd (by omega), ?_⟩
    refine ⟨((n * n : Nat) : Int), ml (by omega), ?_⟩
    refine ⟨by have : n * n ≠ 0 := Nat.ne_of_gt (Nat.mul_pos hd.1 hd.1); omega, ((i0 / (n * n) : Nat) : Int), qd (by omega), ?_⟩
    refine ⟨by omega, ((i0 / (n * n) % n : Nat) : Int), rm, ?_⟩
    refine ⟨by omega, ((i0 / n : Nat) : Int), qd (by omega), ?_⟩
    refine ⟨by omega, ((i0 / n % n : Nat) : Int), rm, ?_⟩
    refine ⟨by omega, ((i0 % n : Nat) : Int), rm, ?_⟩
    refine .inl ⟨1, [], _, _, _, _, [_], rfl, s_l02Sums_ok B E.2 hp hp2 hn (i := i0 / (n * n * n)) (j := i0 / (n * n) % n) (k := i0 / n % n) (l := i0 % n) (by omega) (by omega) (by omega) (by omega), rfl, trivial, rfl, rfl, ?_⟩
    refine ⟨fun h58 => ?_, fun h58 => ?_⟩
    · replace h58 := bne_t h58
      exact (h58 (congrArg byt (hA i0 hlt))).elim
    · replace h58 := bne_f h58
      refine ⟨((i0 + 1 : Nat) : Int), w64_id _ (by omega) (by omega), ?_⟩
      exact ⟨by omega, trivial, ⟨rfl, rfl, rfl, trivial⟩, ⟨rfl, trivial⟩, rfl⟩
  · replace h22 := of_decide_eq_false h22
    have e0 : n * n * n * n = i0 := by omega
    exact ⟨rfl, [], rfl, rfl, trivial, rfl, rfl⟩

theorem s_l02Fault_f_ok (B : Bs P ρ) (E : E_s_l02Fault P ρ) {n : Nat} {p : Int} {f : By} {a : Nat} (hp : 1 ≤ p) (hp2 : p ≤ 256) (hn : n ≤ 8) (ha : a < n * n * n * n) (hA : ¬ CoaT p n f a) (hL : ∀ t, t < a → CoaT p n f t) :
    CallOK P ρ 99 [.ag [p, (n : Int)] 522 f] [] (.tup [.sl 0 0 4 4, .b true]) [⟨false, .rw [.i .i64 ((a / (n * n * n) : Nat) : Int), .i .i64 ((a / (n * n) % n : Nat) : Int), .i .i64 ((a / n % n : Nat) : Int), .i .i64 ((a % n : Nat) : Int)]⟩] := by
  refine call_of_vc B.fn B.mo E.1 rfl rfl ?_
  have hpw := pw hn
  refine ⟨0, rfl, ?_⟩
  refine .inl ⟨(fun a4 b0 i0 => St.mk [(1, .one (.pt 0 0)), (4, a4), (5, .one (.i .i64 ((i0 : Nat) : Int)))] [b0]) _ _ , fun i0 => ∀ t, t < i0 → CoaT p n f t, n * n * n * n, fun _ _ => by omega, ⟨⟨rfl, rfl, rfl, trivial⟩, ⟨rfl, trivial⟩, rfl⟩, fun i0 hi0 hF0 => ?_⟩
  refine ⟨((n * n : Nat) : Int), ml (by omega), ?_⟩
  refine ⟨((n * n * n : Nat) : Int), ml (by omega), ?_⟩
  refine ⟨((n * n * n * n : Nat) : Int), ml (by omega), ?_⟩
  refine ⟨fun h22 => ?_, fun h22 => ?_⟩
  · replace h22 := of_decide_eq_true h22
    have hlt : i0 < n * n * n * n := by omega
    have hd := dig hlt
    refine ⟨((n * n : Nat) : Int), ml (by omega), ?_⟩
    refine ⟨((n * n * n : Nat) : Int), ml (by omega), ?_⟩
    refine ⟨by have : n * n * n ≠ 0 := Nat.ne_of_gt (Nat.mul_pos (Nat.mul_pos hd.1 hd.1) hd.1); omega, ((i0 / (n * n * n) : Nat) : Int), qd (by omega), ?_⟩
    refine ⟨((n * n : Nat) : Int), ml (by omega), ?_⟩
    refine ⟨by have : n * n ≠ 0 := Nat.ne_of_gt (Nat.mul_pos hd.1 hd.1); omega, ((i0 / (n * n) : Nat) : Int), qd (by omega), ?_⟩
    refine ⟨by omega, ((i0 / (n * n) % n : Nat) : Int), rm, ?_⟩
    refine ⟨by omega, ((i0 / n : Nat) : Int), qd (by omega), ?_⟩
    refine ⟨by omega, ((i0 / n % n : Nat) : Int), rm, ?_⟩
    refine ⟨by omega, ((i0 % n : Nat) : Int), rm, ?_⟩
    refine .inl ⟨1, [], _, _, _, _, [_], rfl, s_l02Sums_ok B E.2 hp hp2 hn (i := i0 / (n * n * n)) (j := i0 / (n * n) % n) (k := i0 / n % n) (l := i0 % n) (by omega) (by omega) (by omega) (by omega), rfl, trivial, rfl, rfl, ?_⟩
    refine ⟨fun h58 => ?_, fun h58 => ?_⟩
    · replace h58 := bne_t h58
      have q : ¬ CoaT p n f i0 := fun q => h58 (congrArg byt q)
      have e : i0 = a := by
        rcases Nat.lt_trichotomy i0 a with e | e | e
        · exact (q (hL i0 e)).elim
        · exact e
        · exact (hA (hF0 a e)).elim
      refine ⟨1, rfl, ?_⟩
      refine ⟨rfl, [1], rfl, rfl, ⟨?_, trivial⟩, rfl, rfl⟩
      show some (Blk.mk false (.rw [.i .i64 ((i0 / (n * n * n) : Nat) : Int), .i .i64 ((i0 / (n * n) % n : Nat) : Int), .i .i64 ((i0 / n % n : Nat) : Int), .i .i64 ((i0 % n : Nat) : Int)])) = some (Blk.mk false (.rw [.i .i64 ((a / (n * n * n) : Nat) : Int), .i .i64 ((a / (n * n) % n : Nat) : Int), .i .i64 ((a / n % n : Nat) : Int), .i .i64 ((a % n : Nat) : Int)]))
      rw [e]
    · replace h58 := bne_f h58
      have q : CoaT p n f i0 := byt_mod_inj hp hp2 h58
      refine ⟨((i0 + 1 : Nat) : Int), w64_id _ (by omega) (by omega), ?_⟩
      refine ⟨by omega, ?_, ⟨rfl, rfl, rfl, trivial⟩, ⟨rfl, trivial⟩, rfl⟩
      intro t ht
      by_cases e : t = i0
      · rw [e]; exact q
      · exact hF0 t (by omega)
  · replace h22 := of_decide_eq_false h22
    have e0 : n * n * n * n = i0 := by omega
    exact (hA (hF0 a (by omega))).elim

theorem s_l02Counits_ok (B : Bs P ρ) (E : E_s_l02Counits P ρ) {n : Nat} {p : Int} {f : By} (hp : 1 ≤ p) (hp2 : p ≤ 256) (hn : n ≤ 8) :
    CallOK P ρ 100 [.ag [p, (n : Int)] 522 f] [] (.one (.b (decide (∀ i, i < n → Cou p n f i)))) [] := by
  refine call_of_vc B.fn B.mo E.1 rfl rfl ?_
  refine ⟨0, rfl, ?_⟩
  refine .inl ⟨(fun b0 i0 => St.mk [(1, .one (.pt 0 0)), (3, .one (.i .i64 ((i0 : Nat) : Int)))] [b0]) _ , fun i0 => ∀ i, i < i0 → Cou p n f i, n, fun _ _ => by omega, ⟨⟨rfl, rfl, trivial⟩, ⟨rfl, trivial⟩, rfl⟩, fun i0 hi0 hF0 => ?_⟩
  refine ⟨fun h12 => ?_, fun h12 => ?_⟩
  · replace h12 := of_decide_eq_true h12
    refine ⟨1, rfl, ?_⟩
    refine ⟨2, rfl, ?_⟩
    refine ⟨⟨rfl, by first | omega | (simp <;> omega), by first | omega | (simp <;> omega)⟩, ?_⟩   -- sta ['.t', 4] ['.t', 15] 8
    refine ⟨⟨rfl, by first | omega | (simp <;> omega), by first | omega | (simp <;> omega)⟩, ?_⟩   -- sta ['.t', 5] ['.t', 16] 8
    refine .inl ⟨(fun a3 b0 i1 => St.mk [(1, .one (.pt 0 0)), (3, a3), (4, .one (.pt 1 0)), (5, .one (.pt 2 0)), (6, .one (.i .i64 ((i1 : Nat) : Int)))] [b0, Blk.mk false (.by [] 8 (vec 8 p fun x => cuL i1 f i0 x)), Blk.mk false (.by [] 8 (vec i1 p (cuR n f i0)))]) _ _ , fun i1 => True, n, trivial, ⟨⟨rfl, rfl, rfl, rfl, rfl, trivial⟩, ⟨rfl, ?_, ?_, trivial⟩, rfl⟩, fun i1 hi1 _ => ?_⟩
    · refine blk_by ?_
      rw [z_sta]
      exact vec_0.symm
    · refine blk_by ?_
      rw [z_sta]
      rfl
    have q0 := bz_nn f (2 + i1)
    have q1 := bz_le f (2 + i1)
    refine ⟨fun h20 => ?_, fun h20 => ?_⟩
    · replace h20 := of_decide_eq_true h20
      refine ⟨⟨by first | omega | (simp <;> omega), by first | omega | (simp <;> omega)⟩, ?_⟩
      refine ⟨i0, 10 + i0 * 64, rfl, by omega, by omega, ?_⟩
      refine ⟨i1, 10 + i0 * 64 + i1 * 8, rfl, by omega, by omega, ?_⟩
      refine ⟨⟨by first | omega | (simp <;> omega), by first | omega | (simp <;> omega)⟩, ?_⟩
      refine ⟨i1, 2 + i1, rfl, by omega, by omega, ?_⟩
      refine ⟨⟨by first | omega | (simp <;> omega), by first | omega | (simp <;> omega)⟩, ?_⟩
      refine .inl ⟨3, [], _, _, _, _, [_, _, _], rfl, s_l01Add_ok B E.2.1 (k := bz f (2 + i1)) hp (by omega) (by omega) (by omega), rfl, trivial, rfl, rfl, ?_⟩
      refine ⟨⟨rfl, by first | omega | (simp <;> omega), by first | omega | (simp <;> omega)⟩, ?_⟩   -- sta ['.t', 4] ['.t', 37] 8
      refine .inl ⟨(fun a3 a6 b0 b1 b2 i2 => St.mk [(1, .one (.pt 0 0)), (3, a3), (4, .one (.pt 1 0)), (5, .one (.pt 2 0)), (6, a6), (7, .one (.i .i64 (cuR i2 f i0 i1))), (8, .one (.i .i64 ((i2 : Nat) : Int)))] [b0, b1, b2]) _ _ _ _ _ , fun i2 => True, n, trivial, ⟨⟨rfl, rfl, rfl, rfl, rfl, rfl, rfl, trivial⟩, ⟨rfl, rfl, rfl, trivial⟩, rfl⟩, fun i2 hi2 _ => ?_⟩
      have q2 := bz2 f f (2 + i2) (10 + i0 * 64 + i1 * 8 + i2)
      have q3 := sm_bd (n := i2) (x := fun k => bz f (2 + k) * bz f (10 + i0 * 64 + i1 * 8 + k)) (A := 65025) fun k _ => bz2 f f _ _
      have q4 : sm i2 (fun k => bz f (2 + k) * bz f (10 + i0 * 64 + i1 * 8 + k)) = cuR i2 f i0 i1 := rfl
      refine ⟨fun h41 => ?_, fun h41 => ?_⟩
      · replace h41 := of_decide_eq_true h41
        refine ⟨i2, 2 + i2, rfl, by omega, by omega, ?_⟩
        refine ⟨⟨by first | omega | (simp <;> omega), by first | omega | (simp <;> omega)⟩, ?_⟩
        refine ⟨i0, 10 + i0 * 64, rfl, by omega, by omega, ?_⟩
        refine ⟨i1, 10 + i0 * 64 + i1 * 8, rfl, by omega, by omega, ?_⟩
        refine ⟨i2, 10 + i0 * 64 + i1 * 8 + i2, rfl, by omega, by omega, ?_⟩
        refine ⟨⟨by first | omega | (simp <;> omega), by first | omega | (simp <;> omega)⟩, ?_⟩
        refine ⟨bz f (2 + i2) * bz f (10 + i0 * 64 + i1 * 8 + i2), w64_id (bz f (2 + i2) * bz f (10 + i0 * 64 + i1 * 8 + i2)) (by omega) (by omega), ?_⟩
        refine ⟨cuR i2 f i0 i1 + bz f (2 + i2) * bz f (10 + i0 * 64 + i1 * 8 + i2), w64_id (cuR i2 f i0 i1 + bz f (2 + i2) * bz f (10 + i0 * 64 + i1 * 8 + i2)) (by omega) (by omega), ?_⟩
        refine ⟨((i2 + 1 : Nat) : Int), w64_id _ (by omega) (by omega), ?_⟩
        exact ⟨by omega, trivial, ⟨rfl, rfl, rfl, rfl, rfl, rfl, rfl, trivial⟩, ⟨rfl, rfl, rfl, trivial⟩, rfl⟩
      · replace h41 := of_decide_eq_false h41
        have e2 : n = i2 := by omega
        subst e2
        refine .inl ⟨3, [], _, _, _, _, [_, _, _], rfl, s_l01Mod_ok B E.2.2.1 hp (by omega), rfl, trivial, rfl, rfl, ?_⟩
        refine ⟨i1, i1, rfl, by omega, by omega, ?_⟩
        refine ⟨⟨by first | omega | (simp <;> omega), by first | omega | (simp <;> omega)⟩, ?_⟩   -- st8 ['.t', 66] ['.t', 65]
        refine ⟨((i1 + 1 : Nat) : Int), w64_id _ (by omega) (by omega), ?_⟩
        refine ⟨by omega, trivial, ⟨rfl, rfl, rfl, rfl, rfl, trivial⟩, ⟨rfl, ?_, ?_, trivial⟩, rfl⟩
        · refine blk_by ?_
          rw [spl_plsN, pl_vec0 hp hp2]
          exact vec_congr fun y _ => cg_of_eq rfl
        · exact blk_by (upd_vec rfl).symm
    · replace h20 := of_decide_eq_false h20
      have e1 : n = i1 := by omega
      subst e1
      refine ⟨⟨by first | omega | (simp <;> omega), by first | omega | (simp <;> omega)⟩, ?_⟩
      refine ⟨3, [], _, _, _, _, [_, _, _], rfl, s_l01Basis_ok B E.2.2.2 (i := i0) (by omega), rfl, trivial, rfl, rfl, rfl, ?_⟩
      refine ⟨fun h71 => ?_, fun h71 => ?_⟩
      · skip
        have z61 := neB_t h71
        rw [sh_zero] at z61
        refine brB_t ?_
        refine brB_t ?_
        refine brB_t ?_
        refine brB_t ?_
        refine brB_t ?_
        refine ⟨rfl, [], ?_, rfl, trivial, rfl, rfl⟩
        exact one_b (dec_f fun q => z61 fun x _ => congrFun (q i0 (by omega)).1 x)
      · skip
        have z61 := neB_f h71
        rw [sh_zero] at z61
        refine ⟨⟨by first | omega | (simp <;> omega), by first | omega | (simp <;> omega)⟩, ?_⟩
        refine brB_f ?_
        refine brB_f ?_
        refine ⟨3, [], _, _, _, _, [_, _, _], rfl, s_l01Basis_ok B E.2.2.2 (i := i0) (by omega), rfl, trivial, rfl, rfl, rfl, ?_⟩
        refine brB_f ?_
        refine brB_f ?_
        refine ⟨fun h76 => ?_, fun h76 => ?_⟩
        · skip
          have z66 := neB_t h76
          rw [sh_zero] at z66
          refine ⟨rfl, [], ?_, rfl, trivial, rfl, rfl⟩
          exact one_b (dec_f fun q => z66 fun x _ => congrFun (q i0 (by omega)).2 x)
        · skip
          have z66 := neB_f h76
          rw [sh_zero] at z66
          refine ⟨((i0 + 1 : Nat) : Int), w64_id _ (by omega) (by omega), ?_⟩
          refine ⟨by omega, ?_, ⟨rfl, rfl, trivial⟩, ⟨rfl, trivial⟩, rfl⟩
          intro k hk
          by_cases e : k = i0
          · subst e
            refine ⟨vec_ext (bas_out (by omega)) z61, ?_⟩
            funext x
            by_cases hx : x < 8
            · exact z66 x hx
            · rw [vec_out (by omega), bas_out (by omega) x (by omega)]
          · exact hF0 k (by omega)
  · replace h12 := of_decide_eq_false h12
    have e0 : n = i0 := by omega
    subst e0
    refine ⟨rfl, [], ?_, rfl, trivial, rfl, rfl⟩
    exact one_b (dec_t hF0)

theorem s_l02Is_s_ok (B : Bs P ρ) (E : E_s_l02Is P ρ) {n : Int} {p : Int} {f : By} (hS : ¬ CShp p n f) :
    CallOK P ρ 77 [.ag [p, n] 522 f] [] (.one (.b false)) [] := by
  refine call_of_vc B.fn B.mo E.1 rfl rfl ?_
  refine ⟨0, rfl, ?_⟩
  refine .inl ⟨1, [], _, _, _, _, [_], rfl, s_l02Shape_ok B E.2.1 , rfl, trivial, rfl, rfl, ?_⟩
  refine ⟨fun h7 => ?_, fun h7 => ?_⟩
  · skip
    exact ⟨rfl, [], rfl, rfl, trivial, rfl, rfl⟩
  · skip
    exact (hS (dec_elim_t (not_f h7))).elim

theorem s_l02Is_t_ok (B : Bs P ρ) (E : E_s_l02Is P ρ) {n : Nat} {p : Int} {f : By} (hS : CShp p n f) (hA : ∀ t : Nat, t < n * n * n * n → CoaT p n f t) :
    CallOK P ρ 77 [.ag [p, (n : Int)] 522 f] [] (.one (.b (decide (∀ i, i < n → Cou p n f i)))) [] := by
  refine call_of_vc B.fn B.mo E.1 rfl rfl ?_
  have hb := AShp.p1 hS
  refine ⟨0, rfl, ?_⟩
  refine .inl ⟨1, [], _, _, _, _, [_], rfl, s_l02Shape_ok B E.2.1 , rfl, trivial, rfl, rfl, ?_⟩
  refine ⟨fun h7 => ?_, fun h7 => ?_⟩
  · skip
    exact (dec_elim_t' (not_t h7) hS).elim
  · skip
    refine .inl ⟨1, [], _, _, _, _, [_], rfl, s_l02Fault_t_ok B E.2.2.1 (by omega) (by omega) (by omega) hA, rfl, trivial, rfl, rfl, ?_⟩
    refine ⟨fun h15 => ?_, fun h15 => ?_⟩
    · skip
      refine brB_t ?_
      refine .inl ⟨1, [], _, _, _, _, [_], rfl, s_l02Counits_ok B E.2.2.2 (by omega) (by omega) (by omega), rfl, trivial, rfl, rfl, ?_⟩
      refine brB_t ?_
      exact ⟨rfl, [], rfl, rfl, trivial, rfl, rfl⟩
    · skip
      exact absurd h15 (by decide)

theorem s_l02Is_f_ok (B : Bs P ρ) (E : E_s_l02Is P ρ) {n : Nat} {p : Int} {f : By} {a : Nat} (hS : CShp p n f) (ha : a < n * n * n * n) (hA : ¬ CoaT p n f a) (hL : ∀ t, t < a → CoaT p n f t) :
    CallOK P ρ 77 [.ag [p, (n : Int)] 522 f] [] (.one (.b false)) [] := by
  refine call_of_vc B.fn B.mo E.1 rfl rfl ?_
  have hb := AShp.p1 hS
  refine ⟨0, rfl, ?_⟩
  refine .inl ⟨1, [], _, _, _, _, [_], rfl, s_l02Shape_ok B E.2.1 , rfl, trivial, rfl, rfl, ?_⟩
  refine ⟨fun h7 => ?_, fun h7 => ?_⟩
  · skip
    exact (dec_elim_t' (not_t h7) hS).elim
  · skip
    refine .inl ⟨1, [], _, _, _, _, [_, _], rfl, s_l02Fault_f_ok B E.2.2.1 (by omega) (by omega) (by omega) ha hA hL, rfl, trivial, rfl, rfl, ?_⟩
    refine ⟨fun h15 => ?_, fun h15 => ?_⟩
    · skip
      exact absurd h15 (by decide)
    · skip
      refine brB_f ?_
      refine brB_f ?_
      exact ⟨rfl, [], rfl, rfl, trivial, rfl, rfl⟩

theorem s_l02Is_ok (B : Bs P ρ) (E : E_s_l02Is P ρ) {n : Int} {p : Int} {f : By} :
    CallOK P ρ 77 [.ag [p, n] 522 f] [] (.one (.b (decide (Cog p n f)))) [] := by
  by_cases hS : CShp p n f
  · obtain ⟨m, rfl⟩ : ∃ m : Nat, n = (m : Int) := ⟨n.toNat, by have := hS.1.2.1; omega⟩
    by_cases hA : ∀ t : Nat, t < m * m * m * m → CoaT p m f t
    · have e : decide (Cog p m f) = decide (∀ i, i < m → Cou p m f i) :=
        decide_eq_decide.2 ⟨fun q i hi => q.2.1 i (by omega), fun q => ⟨hS, fun i hi => q i (by omega), hA⟩⟩
      rw [e]; exact s_l02Is_t_ok B E hS hA
    · rw [decide_eq_false fun q : Cog p m f => hA q.2.2]
      obtain ⟨a, ⟨h1, h2⟩, h3⟩ := least (q := fun t => t < m * m * m * m ∧ ¬ CoaT p m f t) (by
        simp only [Classical.not_forall] at hA
        obtain ⟨t, ht, h⟩ := hA
        exact ⟨t, ht, h⟩)
      exact s_l02Is_f_ok B E hS h1 h2 fun t ht => Classical.byContradiction fun q => h3 t ht ⟨by omega, q⟩
  · rw [decide_eq_false fun q : Cog p n f => hS q.1]
    exact s_l02Is_s_ok B E hS
end Hf
