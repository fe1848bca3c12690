/- Contracts of the functions that the law reaches. -/
import Derived.Test.YtkkjaohppodccabGreatC2
set_option linter.unusedVariables false
set_option linter.unusedSimpArgs false
namespace Hf
open Go Classical
section
variable {p : Int} {n : Nat} {f : By}
theorem inv_cg (hp : Pr p) {s : Int} (h : ¬ cg p s 0) : ∃ t : Int, cg p (t * s) 1 := by
 have h2 := hp.1
 have h3 := hp.2.1
 have e0 : 0 ≤ s % p := Int.emod_nonneg _ (by omega)
 have e1 : s % p < p := Int.emod_lt_of_pos _ (by omega)
 have e2 : ((byt (s % p)).toNat : Int) = s % p := bz_byt _ e0 (by omega)
 have e3 : byt (s % p) ≠ 0 := fun z => h (by
  have : ((byt (s % p)).toNat : Int) = 0 := by rw [z]; rfl
  unfold cg; rw [Int.zero_emod]; omega)
 obtain ⟨-, q⟩ := inv_ok hp e3 (by omega)
 refine ⟨((invN p (byt (s % p)) : Nat) : Int), (cg_mul cg.rfl' (cg_mod (a := s)).symm).trans ?_⟩
 rw [e2] at q
 unfold cg
 rw [q, Int.emod_eq_of_lt (by omega) (by omega)]
/-- a column of the coproduct -/
def ccC (p : Int) (n : Nat) (f v : By) (l : Nat) : By := cmF n p (fun i y => f (10 + i * 64 + y * 8 + l)) v
theorem cpR_vp (hp : 1 ≤ p) (hp2 : p ≤ 256) {v : By} {j : Nat} : Vp 8 p (cpR p f v n j) := cmF_vp hp hp2
theorem ccC_vp (hp : 1 ≤ p) (hp2 : p ≤ 256) {v : By} {j : Nat} : Vp 8 p (ccC p n f v j) := cmF_vp hp hp2
theorem cpR_add (hp : 1 ≤ p) (hp2 : p ≤ 256) (hn : n ≤ 8) {u w : By} {k : Int} {j : Nat} : cpR p f (addW 8 p u w k) n j = addW 8 p (cpR p f u n j) (cpR p f w n j) k := cmF_add hp hp2 hn
theorem ccC_add (hp : 1 ≤ p) (hp2 : p ≤ 256) (hn : n ≤ 8) {u w : By} {k : Int} {j : Nat} : ccC p n f (addW 8 p u w k) j = addW 8 p (ccC p n f u j) (ccC p n f w j) k := cmF_add hp hp2 hn
theorem cpR_z {j : Nat} : cpR p f z0 n j = z0 := cmF_z
theorem ccC_z {j : Nat} : ccC p n f z0 j = z0 := cmF_z
/-- group-like -/
def GL (p : Int) (n : Nat) (f v : By) : Prop := cuV p f v = 1 ∧ ∀ j, j < 8 → ∀ y, y < 8 → cg p (bz (cpR p f v n j) y) (bz v j * bz v y)
theorem GL.row (hp : 1 ≤ p) (hp2 : p ≤ 256) {v : By} (h : GL p n f v) {j : Nat} (hj : j < 8) : cpR p f v n j = addW 8 p z0 v (bz v j) :=
 (cpR_vp hp hp2).ext (Vp.add hp hp2) fun x hx => (h.2 j hj x hx).trans ((cg_add' hp hp2 hx).trans (cg_of_eq (by simp [bz_z0]))).symm
theorem GL.nz {v : By} (hp : 2 ≤ p) (h : GL p n f v) : v ≠ z0 := fun z => by
 have := h.1
 rw [z] at this
 unfold cuV at this
 rw [sm_zero fun i _ => by rw [bz_z0, Int.zero_mul], Int.zero_emod] at this
 cases this
theorem gl_sp (hp : 1 ≤ p) (hp2 : p ≤ 256) (hn : n ≤ 8) {L : List By} (hL : ∀ a ∈ L, Vp 8 p a ∧ GL p n f a) {u : By} (hu : Sp' 8 p L u) {j : Nat} (hj : j < 8) : Sp' 8 p L (cpR p f u n j) := by
  induction hu with
  | z => rw [cpR_z]; exact .z
  | a h1 h2 ih =>
    rw [cpR_add hp hp2 hn]
    refine ih.add hp hp2 ?_
    rw [(hL _ h2).2.row hp hp2 hj]
    exact Sp'.z.a h2
theorem gl_mem (hp : Pr p) (hn : n ≤ 8) : ∀ {L : List By}, L.Nodup → (∀ a ∈ L, Vp 8 p a ∧ GL p n f a) → ∀ {g : By}, Vp 8 p g → GL p n f g → Sp' 8 p L g → g ∈ L
  | [], _, _, g, hg, hG, hs => by
    cases hs with
    | z => exact absurd rfl (hG.nz hp.1)
    | a _ h => cases h
  | a :: L, hN, hL, g, hg, hG, hs => by
    have h2 := hp.1
    have h3 := hp.2.1
    have hp1 : 1 ≤ p := by omega
    have hp2 : p ≤ 256 := by omega
    obtain ⟨n1, n2⟩ := List.nodup_cons.1 hN
    have hL' : ∀ b ∈ L, Vp 8 p b ∧ GL p n f b := fun b hb => hL b (by simp [hb])
    obtain ⟨ha, hA⟩ := hL a (by simp)
    obtain ⟨u, c, hu, e⟩ := sp_cons hp1 hp2 hs
    by_cases ea : g = a
    · rw [ea]; simp
    have huv := hu.vp hp1 hp2
    refine List.mem_cons_of_mem _ (gl_mem hp hn n2 hL' hg hG ?_)
    by_cases hc : cg p c 0
    · have : g = u := hg.ext huv fun x hx => by
        rw [e]
        exact (cg_add' hp1 hp2 hx).trans ((cg_add cg.rfl' (cg_mul hc cg.rfl')).trans (cg_of_eq (by simp)))
      rw [this]; exact hu
    · exfalso
      obtain ⟨j, hj, hne⟩ : ∃ j, j < 8 ∧ g j ≠ a j := Classical.byContradiction fun hz => ea (by
        funext x
        by_cases hx : x < 8
        · exact Classical.byContradiction fun q => hz ⟨x, hx, q⟩
        · rw [hg.2 x (by omega), ha.2 x (by omega)])
      have hd : ¬ cg p (bz g j - bz a j) 0 := fun z => hne (bz_inj (cg_sub0 (bz_nn _ _) (hg.1 j) (bz_nn _ _) (ha.1 j) z))
      obtain ⟨t1, ht1⟩ := inv_cg hp hc
      obtain ⟨t2, ht2⟩ := inv_cg hp hd
      have hw : Sp' 8 p L (addW 8 p (cpR p f u n j) u (-(bz g j))) := (gl_sp hp1 hp2 hn hL' hu hj).add hp1 hp2 hu
      have eg : ∀ x, x < 8 → cg p (bz g x) (bz u x + c * bz a x) := fun x hx => by
        have : bz g x = bz (addW 8 p u a c) x := bz_c (by rw [e])
        rw [this]; exact cg_add' hp1 hp2 hx
      have er : ∀ x, x < 8 → cg p (bz (cpR p f u n j) x + c * (bz a j * bz a x)) (bz g j * bz g x) := fun x hx => by
        refine cg.trans ?_ (hG.2 j hj x hx)
        have : bz (cpR p f g n j) x = bz (addW 8 p (cpR p f u n j) (cpR p f a n j) c) x := by rw [← cpR_add hp1 hp2 hn, ← e]
        rw [this]
        exact (cg_add cg.rfl' (cg_mul cg.rfl' (hA.2 j hj x hx).symm)).trans (cg_add' hp1 hp2 hx).symm
      have hS : Sp' 8 p L a := by
        have q : a = addW 8 p z0 (addW 8 p (cpR p f u n j) u (-(bz g j))) (t1 * t2) := ha.ext (Vp.add hp1 hp2) fun x hx => by
          refine cg.symm ((cg_add' hp1 hp2 hx).trans ((cg_add cg.rfl' (cg_mul cg.rfl' (cg_add' hp1 hp2 hx))).trans ?_))
          -- R + c a_j a = g_j g and g = u + c a give R - g_j u = c (g_j - a_j) a
          have q1 : cg p (bz (cpR p f u n j) x + -(bz g j) * bz u x) (c * (bz g j - bz a j) * bz a x) := by
            have z1 := er x hx
            have z2 := cg_mul (a := bz g j) (b := bz g j) cg.rfl' (eg x hx)
            have z3 := cg_add (z1.trans z2) (cg_of_eq (p := p) (rfl : -(bz g j) * bz u x - c * (bz a j * bz a x) = -(bz g j) * bz u x - c * (bz a j * bz a x)))
            refine (cg_of_eq ?_).trans (z3.trans (cg_of_eq ?_)) <;> grind
          rw [bz_z0, Int.zero_add]
          refine (cg_mul cg.rfl' q1).trans ?_
          have z := cg_mul (cg_mul ht1 ht2) (cg_of_eq (p := p) (rfl : bz a x = bz a x))
          refine (cg_of_eq ?_).trans (z.trans (cg_of_eq ?_)) <;> grind
        rw [q]
        exact Sp'.z.add hp1 hp2 hw
      exact n1 (gl_mem hp hn n2 hL' ha hA hS)
theorem putL_le {L : List By} {v : By} : (putL p L v).length ≤ L.length + 1 := by
  cases h : eqB 8 (byL p v L) z0 with
  | true => rw [putL_z h]; omega
  | false =>
    rw [putL_eq h]
    have q := putT_len (p := p) (v := putV p (byL p v L)) (at_ := fst8 (byL p v L)) (L := L) (i := L.length) (Nat.le_refl _)
    split
    · exact q.1
    · rename_i hf
      have := q.2 (by simpa using hf)
      rw [List.length_append]; simp; omega
/-- each vector outside of the space of those before it -/
theorem red_len (hp : Pr p) : ∀ {L : List By}, (∀ v ∈ L, Vp 8 p v) → (∀ A v B, L = A ++ v :: B → ¬ Sp' 8 p A v) → (redL p L).length = L.length := by
  intro L
  induction h : L.length generalizing L with
  | zero => intro _ _; rw [List.length_eq_zero_iff.1 h]; rfl
  | succ k ih =>
    intro hv hn
    have h2 := hp.1
    have h3 := hp.2.1
    obtain ⟨A, v, rfl⟩ : ∃ A v, L = A ++ [v] := ⟨L.dropLast, L.getLast (by intro e; rw [e] at h; cases h), (List.dropLast_concat_getLast _).symm⟩
    have hA : ∀ u ∈ A, Vp 8 p u := fun u hu => hv u (by simp [hu])
    have hvv := hv v (by simp)
    have e1 := ih (L := A) (by simpa using h) hA fun A' u B e => hn A' u (B ++ [v]) (by rw [e]; simp)
    obtain ⟨r1, r2⟩ := redL_rr hp hA
    obtain ⟨s1, s2⟩ := putL_rr hp r1 hvv
    rw [redL_snoc]
    have le := putL_le (p := p) (L := redL p A) (v := v)
    obtain ⟨q1, q2⟩ := RR.same (by omega) (by omega) r1 s1 fun u hu => (s2 u).2 (.mem (by omega) (by omega) (by simp [hu]) (r1.vp u hu))
    have : (redL p A).length ≠ (putL p (redL p A) v).length := fun e => hn A v [] rfl ((r2 v).1 ((q2 e v).2 ((s2 v).2 (.mem (by omega) (by omega) (by simp) hvv))))
    omega
theorem gl_red (hp : Pr p) (hn : n ≤ 8) {L : List By} (hN : L.Nodup) (hL : ∀ a ∈ L, Vp 8 p a ∧ GL p n f a) : (redL p L).length = L.length :=
 red_len hp (fun v hv => (hL v hv).1) fun A v B e hs => by
  subst e
  have hv := hL v (by simp)
  have h1 := (List.nodup_append.1 hN).1
  have h2 := (List.nodup_append.1 hN).2.2
  exact h2 v (gl_mem hp hn h1 (fun a ha => hL a (by simp [ha])) hv.1 hv.2 hs) v (by simp) rfl
/-! ### the least subcoalgebra -/
def lsL (p : Int) (n : Nat) (f v : By) : List By := (List.range n).flatMap fun j => (List.range n).map fun l => ccC p n f (cpR p f v n j) l
def LegN (p : Int) (n : Nat) (f : By) (T : List By) : Prop := ∀ u ∈ T, ∀ j, j < n → Sp' 8 p T (cpR p f u n j) ∧ Sp' 8 p T (ccC p n f u j)
theorem ls_mem {v u : By} : u ∈ lsL p n f v ↔ ∃ j l, j < n ∧ l < n ∧ u = ccC p n f (cpR p f v n j) l := by
 unfold lsL
 simp only [List.mem_flatMap, List.mem_map, List.mem_range]
 constructor
 ·rintro ⟨j, hj, l, hl, rfl⟩; exact ⟨j, l, hj, hl, rfl⟩
 ·rintro ⟨j, l, hj, hl, rfl⟩; exact ⟨j, hj, l, hl, rfl⟩
theorem ls_vp (hp : 1 ≤ p) (hp2 : p ≤ 256) {v : By} : ∀ u ∈ lsL p n f v, Vp 8 p u := fun u hu => by
 obtain ⟨j, l, -, -, rfl⟩ := ls_mem.1 hu
 exact ccC_vp hp hp2
theorem cpR_vn (hp : 1 ≤ p) (hp2 : p ≤ 256) (hT : Tab p n f 10) (hn : n ≤ 8) {v : By} {j : Nat} (hj : j < 8) : Vp n p (cpR p f v n j) :=
 ⟨(cpR_vp hp hp2).1, fun x hx => by
  by_cases h : x < 8
  ·have e : bz (cpR p f v n j) x = 0 := by
    unfold cpR
    rw [bz_vec hp hp2 h, sm_zero fun i hi => by rw [show bz f (10 + i * 64 + j * 8 + x) = 0 from hT.out (by omega) hj h (by omega), Int.mul_zero], Int.zero_emod]
   exact bz_eq0.1 e
  ·exact (cpR_vp hp hp2).2 x (by omega)⟩
theorem ccC_vn (hp : 1 ≤ p) (hp2 : p ≤ 256) (hT : Tab p n f 10) (hn : n ≤ 8) {v : By} {j : Nat} (hj : j < 8) : Vp n p (ccC p n f v j) :=
 ⟨(ccC_vp hp hp2).1, fun x hx => by
  by_cases h : x < 8
  ·have e : bz (ccC p n f v j) x = 0 := by
    unfold ccC cmF
    rw [bz_vec hp hp2 h, sm_zero fun i hi => by rw [show bz (fun y => f (10 + i * 64 + y * 8 + j)) x = 0 from hT.out (by omega) h hj (by omega), Int.mul_zero], Int.zero_emod]
   exact bz_eq0.1 e
  ·exact (ccC_vp hp hp2).2 x (by omega)⟩
/-- the middle of the coproduct of a coproduct -/
def CO.W (C : CO p n) (v : Fin n → Zq p) (j k l : Fin n) : Zq p := sf fun i => v i * sf fun a => C.d i j a * C.d a k l
theorem CO.mid (C : CO p n) {v : Fin n → Zq p} {j l x y : Fin n} : (sf fun k => C.W v j k l * C.d k x y) = sf fun i => v i * sf fun b => C.d b y l * sf fun a => C.d i j a * C.d a x b := by
 unfold CO.W
 have e1 : ∀ k, (sf fun i => v i * sf fun a => C.d i j a * C.d a k l) * C.d k x y = sf fun i => v i * sf fun a => C.d i j a * (C.d a k l * C.d k x y) := fun k => by
  rw [← sf_mulr]
  refine sf_congr fun i => ?_
  rw [z_ma, ← sf_mulr]
  exact congrArg _ (sf_congr fun a => z_ma _ _ _)
 rw [sf_congr e1, sf_sw]
 refine sf_congr fun i => ?_
 rw [sf_mul]
 refine congrArg _ ?_
 rw [sf_sw]
 have e2 : ∀ a, (sf fun k => C.d i j a * (C.d a k l * C.d k x y)) = sf fun b => C.d i j a * (C.d a x b * C.d b y l) := fun a => by
  rw [sf_mul, sf_mul, C.ca a x y l]
 rw [sf_congr e2, sf_sw]
 refine sf_congr fun b => ?_
 rw [← sf_mul]
 exact sf_congr fun a => by rw [← z_ma, z_mc]
theorem CO.mid_r (C : CO p n) {v : Fin n → Zq p} {j l x y : Fin n} : (sf fun k => C.W v j k l * C.d k x y) = sf fun b => C.d b y l * C.W v j x b := by
 rw [C.mid]
 unfold CO.W
 have e : ∀ i, v i * (sf fun b => C.d b y l * sf fun a => C.d i j a * C.d a x b) = sf fun b => C.d b y l * (v i * sf fun a => C.d i j a * C.d a x b) := fun i => by
  rw [← sf_mul]; exact sf_congr fun b => z_ml _ _ _
 rw [sf_congr e, sf_sw]
 exact sf_congr fun b => sf_mul
theorem CO.mid_l (C : CO p n) {v : Fin n → Zq p} {j l x y : Fin n} : (sf fun k => C.W v j k l * C.d k x y) = sf fun b => C.d b j x * C.W v b y l := by
 rw [C.mid]
 unfold CO.W
 have e0 : ∀ i, (sf fun b => C.d b y l * sf fun a => C.d i j a * C.d a x b) = sf fun b => C.d b j x * sf fun a => C.d i b a * C.d a y l := fun i => by
  have e1 : ∀ b, C.d b y l * (sf fun a => C.d i j a * C.d a x b) = sf fun a => C.d b y l * (C.d i a b * C.d a j x) := fun b => by
   rw [← C.ca i j x b, sf_mul]
  rw [sf_congr e1, sf_sw]
  refine sf_congr fun b => ?_
  rw [← sf_mul]
  exact sf_congr fun a => by rw [z_mc (C.d a y l), z_mc (C.d i b a), z_ma]
 have e : ∀ i, v i * (sf fun b => C.d b y l * sf fun a => C.d i j a * C.d a x b) = sf fun b => C.d b j x * (v i * sf fun a => C.d i b a * C.d a y l) := fun i => by
  rw [e0 i, ← sf_mul]; exact sf_congr fun b => z_ml _ _ _
 rw [sf_congr e, sf_sw]
 exact sf_congr fun b => sf_mul
theorem CO.cu (C : CO p n) {v : Fin n → Zq p} {k : Fin n} : (sf fun j => C.e j * sf fun l => C.e l * C.W v j k l) = v k := by
 unfold CO.W
 have e1 : ∀ j l, C.e l * (sf fun i => v i * sf fun a => C.d i j a * C.d a k l) = sf fun i => v i * sf fun a => C.d i j a * (C.e l * C.d a k l) := fun j l => by
  rw [← sf_mul]
  refine sf_congr fun i => ?_
  rw [z_ml, ← sf_mul]
  exact congrArg _ (sf_congr fun a => z_ml _ _ _)
 have e2 : ∀ j, (sf fun l => C.e l * sf fun i => v i * sf fun a => C.d i j a * C.d a k l) = sf fun i => v i * C.d i j k := fun j => by
  rw [sf_congr (e1 j), sf_sw]
  refine sf_congr fun i => ?_
  rw [sf_mul]
  refine congrArg _ ?_
  rw [sf_sw]
  have e3 : ∀ a, (sf fun l => C.d i j a * (C.e l * C.d a k l)) = (if k = a then zc 1 else zc 0) * C.d i j a := fun a => by
   rw [sf_mul, C.cr a k, z_mc]
   exact congrArg (· * _) (ite_congr (propext eq_comm) (fun _ => rfl) fun _ => rfl)
  rw [sf_congr e3]
  exact sf_dl (F := fun a => C.d i j a)
 rw [sf_congr fun j => congrArg (C.e j * ·) (e2 j)]
 have e4 : ∀ j, C.e j * (sf fun i => v i * C.d i j k) = sf fun i => v i * (C.e j * C.d i j k) := fun j => by
  rw [← sf_mul]; exact sf_congr fun i => z_ml _ _ _
 rw [sf_congr e4, sf_sw]
 have e5 : ∀ i, (sf fun j => v i * (C.e j * C.d i j k)) = (if k = i then zc 1 else zc 0) * v i := fun i => by
  rw [sf_mul, C.cl i k, z_mc]
  exact congrArg (· * _) (ite_congr (propext eq_comm) (fun _ => rfl) fun _ => rfl)
 rw [sf_congr e5]
 exact sf_dl (F := v)
def tv (p : Int) (n : Nat) (v : By) (i : Fin n) : Zq p := zc (bz v i.val)
theorem tv_R (hp : 1 ≤ p) (hp2 : p ≤ 256) (hn : n ≤ 8) (hC : Cog p n f) {v : By} {j k : Fin n} : tv p n (cpR p f v n j.val) k = sf fun i => tv p n v i * (coOf hp hp2 hn hC).d i j k := by
 unfold tv
 have e : cg p (bz (cpR p f v n j.val) k.val) (sm n fun i => bz v i * bz f (10 + i * 64 + j.val * 8 + k.val)) := cg_vec hp hp2 (by omega)
 rw [zc_eq.2 e]
 simp only [sf_sm, zc_mul]
 rfl
theorem tv_C (hp : 1 ≤ p) (hp2 : p ≤ 256) (hn : n ≤ 8) (hC : Cog p n f) {v : By} {k l : Fin n} : tv p n (ccC p n f v l.val) k = sf fun i => tv p n v i * (coOf hp hp2 hn hC).d i k l := by
 unfold tv
 have e : cg p (bz (ccC p n f v l.val) k.val) (sm n fun i => bz v i * bz f (10 + i * 64 + k.val * 8 + l.val)) := cg_vec hp hp2 (by omega)
 rw [zc_eq.2 e]
 simp only [sf_sm, zc_mul]
 rfl
theorem tv_W (hp : 1 ≤ p) (hp2 : p ≤ 256) (hn : n ≤ 8) (hC : Cog p n f) {v : By} {j k l : Fin n} : tv p n (ccC p n f (cpR p f v n j.val) l.val) k = (coOf hp hp2 hn hC).W (tv p n v) j k l := by
 rw [tv_C hp hp2 hn hC]
 unfold CO.W
 have e : ∀ a, tv p n (cpR p f v n j.val) a * (coOf hp hp2 hn hC).d a k l = sf fun i => tv p n v i * ((coOf hp hp2 hn hC).d i j a * (coOf hp hp2 hn hC).d a k l) := fun a => by
  rw [tv_R hp hp2 hn hC, ← sf_mulr]; exact sf_congr fun i => z_ma _ _ _
 rw [sf_congr e, sf_sw]
 exact sf_congr fun i => sf_mul
theorem tv_ext {u v : By} (hu : Vp n p u) (hv : Vp n p v) (h : ∀ k, tv p n u k = tv p n v k) : u = v :=
 hu.ext hv fun x hx => zc_eq.1 (h ⟨x, hx⟩)
theorem sp_tv (hp : 1 ≤ p) (hp2 : p ≤ 256) (hn : n ≤ 8) {L : List By} {F : Nat → By} (hF : ∀ b, b < n → Sp' 8 p L (F b)) {x : By} : Sp' 8 p L (cmF n p F x) := by
  have : ∀ m, m ≤ n → Sp' 8 p L (cmF m p F x) := fun m => by
    induction m with
    | zero => intro _; rw [cmF_0]; exact .z
    | succ m ih =>
      intro h
      rw [cmF_succ hp hp2]
      exact (ih (by omega)).add hp hp2 (hF m (by omega))
  exact this n (Nat.le_refl _)
theorem tv_cm (hp : 1 ≤ p) (hp2 : p ≤ 256) (hn : n ≤ 8) {F : Nat → By} {x : By} {k : Fin n} : tv p n (cmF n p F x) k = sf fun b : Fin n => zc (bz x b.val) * tv p n (F b.val) k := by
 unfold tv
 have e : cg p (bz (cmF n p F x) k.val) (sm n fun i => bz x i * bz (F i) k.val) := cg_vec hp hp2 (by omega)
 rw [zc_eq.2 e]
 simp only [sf_sm, zc_mul]
theorem cmF_vn (hp : 1 ≤ p) (hp2 : p ≤ 256) {F : Nat → By} {x : By} (hF : ∀ b, b < n → Vp n p (F b)) : Vp n p (cmF n p F x) :=
 ⟨(cmF_vp hp hp2).1, fun y hy => by
  by_cases h : y < 8
  ·have e : bz (cmF n p F x) y = 0 := by
    unfold cmF
    rw [bz_vec hp hp2 h, sm_zero fun i hi => by rw [bz_eq0.2 ((hF i hi).2 y hy), Int.mul_zero], Int.zero_emod]
   exact bz_eq0.1 e
  ·exact (cmF_vp hp hp2).2 y (by omega)⟩
theorem ls_closed (hC : Cog p n f) {v : By} : LegN p n f (lsL p n f v) := by
 have hb := AShp.p1 hC.1
 have hp : 1 ≤ p := by omega
 have hp2 : p ≤ 256 := by omega
 have hn : n ≤ 8 := by omega
 have hT : Tab p n f 10 := hC.1.2.2
 have hm : ∀ b l, b < n → l < n → Sp' 8 p (lsL p n f v) (ccC p n f (cpR p f v n b) l) := fun b l hb hl => .mem hp hp2 (ls_mem.2 ⟨b, l, hb, hl, rfl⟩) (ccC_vp hp hp2)
 intro u hu x hx
 obtain ⟨j, l, hj, hl, rfl⟩ := ls_mem.1 hu
 constructor
 ·have e : cpR p f (ccC p n f (cpR p f v n j) l) n x = cmF n p (fun b => ccC p n f (cpR p f v n b) l) (fun b => f (10 + b * 64 + j * 8 + x)) := by
   refine tv_ext (cpR_vn hp hp2 hT hn (by omega)) (cmF_vn hp hp2 fun b hb => ccC_vn hp hp2 hT hn (by omega)) fun k => ?_
   rw [tv_R hp hp2 hn hC (j := ⟨x, hx⟩), sf_congr fun i => by rw [tv_W hp hp2 hn hC (j := ⟨j, hj⟩) (l := ⟨l, hl⟩)], CO.mid_l, tv_cm hp hp2 hn]
   exact sf_congr fun b => congrArg (_ * ·) (tv_W hp hp2 hn hC (j := b) (l := ⟨l, hl⟩)).symm
  rw [e]
  exact sp_tv hp hp2 hn fun b hb => hm b l hb hl
 ·have e : ccC p n f (ccC p n f (cpR p f v n j) l) x = cmF n p (fun b => ccC p n f (cpR p f v n j) b) (fun b => f (10 + b * 64 + x * 8 + l)) := by
   refine tv_ext (ccC_vn hp hp2 hT hn (by omega)) (cmF_vn hp hp2 fun b hb => ccC_vn hp hp2 hT hn (by omega)) fun k => ?_
   rw [tv_C hp hp2 hn hC (l := ⟨x, hx⟩), sf_congr fun i => by rw [tv_W hp hp2 hn hC (j := ⟨j, hj⟩) (l := ⟨l, hl⟩)], CO.mid_r, tv_cm hp hp2 hn]
   exact sf_congr fun b => congrArg (_ * ·) (tv_W hp hp2 hn hC (j := ⟨j, hj⟩) (l := b)).symm
  rw [e]
  exact sp_tv hp hp2 hn fun b hb => hm j b hj hb
theorem tv_e (hp : 1 ≤ p) (hp2 : p ≤ 256) (hn : n ≤ 8) (hC : Cog p n f) {j : Fin n} : (coOf hp hp2 hn hC).e j = zc (bz f (2 + j.val)) := rfl
theorem ls_own (hC : Cog p n f) {v : By} (hv : Vp n p v) : Sp' 8 p (lsL p n f v) v := by
 have hb := AShp.p1 hC.1
 have hp : 1 ≤ p := by omega
 have hp2 : p ≤ 256 := by omega
 have hn : n ≤ 8 := by omega
 have hT : Tab p n f 10 := hC.1.2.2
 have e : v = cmF n p (fun j => cmF n p (fun l => ccC p n f (cpR p f v n j) l) (fun l => f (2 + l))) (fun j => f (2 + j)) := by
  refine tv_ext hv (cmF_vn hp hp2 fun b hb => cmF_vn hp hp2 fun c hc => ccC_vn hp hp2 hT hn (by omega)) fun k => ?_
  have q := (coOf hp hp2 hn hC).cu (v := tv p n v) (k := k)
  simp only [tv_e] at q
  refine q.symm.trans ?_
  rw [tv_cm hp hp2 hn]
  refine sf_congr fun j => ?_
  rw [tv_cm hp hp2 hn]
  have q2 : ∀ l : Fin n, (zc (bz f (2 + l.val)) : Zq p) * (coOf hp hp2 hn hC).W (tv p n v) j k l = zc (bz (fun l => f (2 + l)) l.val) * tv p n (ccC p n f (cpR p f v n j.val) l.val) k := fun l => by
   rw [tv_W hp hp2 hn hC]; rfl
  rw [sf_congr q2]; rfl
 exact Eq.mpr (congrArg (Sp' 8 p (lsL p n f v)) e) (sp_tv hp hp2 hn fun j hj => sp_tv hp hp2 hn fun l hl => .mem hp hp2 (ls_mem.2 ⟨j, l, hj, hl, rfl⟩) (ccC_vp hp hp2))
theorem leg_spN (hp : 1 ≤ p) (hp2 : p ≤ 256) (hn : n ≤ 8) {S T : List By} (h : ∀ u ∈ S, ∀ j, j < n → Sp' 8 p T (cpR p f u n j) ∧ Sp' 8 p T (ccC p n f u j)) {v : By} (hv : Sp' 8 p S v) : ∀ j, j < n → Sp' 8 p T (cpR p f v n j) ∧ Sp' 8 p T (ccC p n f v j) := by
  intro j hj
  induction hv with
  | z => rw [cpR_z, ccC_z]; exact ⟨.z, .z⟩
  | a h1 h2 ih =>
    rw [cpR_add hp hp2 hn, ccC_add hp hp2 hn]
    exact ⟨ih.1.add hp hp2 (h _ h2 j hj).1, ih.2.add hp hp2 (h _ h2 j hj).2⟩
theorem LegN.eq (hp : 1 ≤ p) (hp2 : p ≤ 256) (hn : n ≤ 8) {S T : List By} (hS : ∀ u ∈ S, Vp 8 p u) (e : SpE 8 p S T) (h : LegN p n f T) : LegN p n f S := fun u hu j hj => by
 have q := leg_spN hp hp2 hn h ((e u).1 (.mem hp hp2 hu (hS u hu))) j hj
 exact ⟨(e _).2 q.1, (e _).2 q.2⟩
/-- what the law says of the least subcoalgebra -/
theorem ls_law (hC : Cog p n f) {v : By} (hv : Vp n p v) : LegN p n f (redL p (lsL p n f v)) ∧ redL p (redL p (lsL p n f v)) = redL p (lsL p n f v) ∧ redL p (redL p (lsL p n f v) ++ [v]) = redL p (lsL p n f v) ∧ ∀ u ∈ redL p (lsL p n f v), Vp n p u := by
 have hb := AShp.p1 hC.1
 have hpr := hC.1.1.1
 have hp : 1 ≤ p := by omega
 have hp2 : p ≤ 256 := by omega
 have hn : n ≤ 8 := by omega
 have hT : Tab p n f 10 := hC.1.2.2
 obtain ⟨r1, r2⟩ := redL_rr hpr (ls_vp (n := n) (f := f) (v := v) hp hp2)
 have ho := ls_own hC hv
 refine ⟨(ls_closed hC).eq hp hp2 hn r1.vp r2, ?_, ?_, fun u hu => ?_⟩
 ·obtain ⟨s1, s2⟩ := redL_rr hpr r1.vp
  exact s1.unique hp hp2 r1 s2
 ·have hq : ∀ u ∈ redL p (lsL p n f v) ++ [v], Sp' 8 p (redL p (lsL p n f v)) u := fun u hu => by
   rcases List.mem_append.1 hu with q | q
   ·exact .mem hp hp2 q (r1.vp u q)
   ·rw [List.mem_singleton.1 q]; exact (r2 v).2 ho
  obtain ⟨s1, s2⟩ := redL_rr hpr fun u hu => (hq u hu).vp hp hp2
  exact s1.unique hp hp2 r1 (s2.trans (SpE.of hp hp2 hq fun u hu => .mem hp hp2 (List.mem_append_left _ hu) (r1.vp u hu)))
 ·have q := (r2 u).1 (.mem hp hp2 hu (r1.vp u hu))
  exact (q.w1 hp hp2 hn fun w hw => by
   obtain ⟨j, l, hj, hl, rfl⟩ := ls_mem.1 hw
   exact ccC_vn hp hp2 hT hn (by omega)).vp hp hp2
end
end Hf
namespace Hf
open Go Classical
/-- the digits of a number, the last one behind -/
def dgV (p n x : Nat) : By := fun i => if i < n then byt (((x / p ^ (n - 1 - i) % p : Nat) : Int)) else 0
/-- the last s digits -/
def dgS (p n x s : Nat) : By := fun i => if n ≤ i + s ∧ i < n then byt (((x / p ^ (n - 1 - i) % p : Nat) : Int)) else 0
theorem dgS_0 {p n x : Nat} : dgS p n x 0 = fun _ => 0 := by funext i; unfold dgS; rw [if_neg (by omega)]
theorem dgS_n {p n x : Nat} : dgS p n x n = dgV p n x := by
 funext i
 unfold dgS dgV
 by_cases h : i < n
 ·rw [if_pos (by omega), if_pos h]
 ·rw [if_neg (by omega), if_neg h]
theorem dgS_s {p n x s : Nat} (h : s < n) : upd (dgS p n x s) (n - 1 - s) (byt (((x / p ^ s % p : Nat) : Int))) = dgS p n x (s + 1) := by
 funext i
 by_cases e : i = n - 1 - s
 ·subst e
  rw [upd_same]
  unfold dgS
  rw [if_pos (by omega), show n - 1 - (n - 1 - s) = s by omega]
 ·rw [upd_ne _ _ _ _ e]
  unfold dgS
  by_cases q : n ≤ i + s ∧ i < n
  ·rw [if_pos q, if_pos (by omega)]
  ·rw [if_neg q, if_neg (by omega)]
theorem dg_inj {p : Nat} (hp : 0 < p) : ∀ {n x y : Nat}, x < p ^ n → y < p ^ n → (∀ s, s < n → x / p ^ s % p = y / p ^ s % p) → x = y
  | 0, x, y, hx, hy, _ => by simp at hx hy; omega
  | n + 1, x, y, hx, hy, h => by
    have h0 := h 0 (by omega)
    simp at h0
    have hx' : x / p < p ^ n := Nat.div_lt_of_lt_mul (by rw [Nat.mul_comm, ← Nat.pow_succ]; exact hx)
    have hy' : y / p < p ^ n := Nat.div_lt_of_lt_mul (by rw [Nat.mul_comm, ← Nat.pow_succ]; exact hy)
    have q := dg_inj hp hx' hy' fun s hs => by
      have := h (s + 1) (by omega)
      rwa [Nat.pow_succ, Nat.mul_comm, ← Nat.div_div_eq_div_mul, ← Nat.div_div_eq_div_mul] at this
    rw [← Nat.div_add_mod x p, ← Nat.div_add_mod y p, q, h0]
theorem dgV_inj {p n x y : Nat} (hp : 0 < p) (hp2 : p ≤ 256) (hx : x < p ^ n) (hy : y < p ^ n) (h : dgV p n x = dgV p n y) : x = y :=
 dg_inj hp hx hy fun s hs => by
  have q := congrFun h (n - 1 - s)
  unfold dgV at q
  rw [if_pos (by omega), if_pos (by omega), show n - 1 - (n - 1 - s) = s by omega] at q
  have a := Nat.mod_lt (x / p ^ s) hp
  have b := Nat.mod_lt (y / p ^ s) hp
  have q' := congrArg (fun u : UInt8 => (u.toNat : Int)) q
  rw [bz_byt _ (by omega) (by omega), bz_byt _ (by omega) (by omega)] at q'
  omega
section
variable {p : Int} {n : Nat} {f : By}
theorem dgV_vp {q n x : Nat} (hq : 0 < q) (hq2 : q ≤ 256) : Vp n (q : Int) (dgV q n x) := by
 refine ⟨fun i => ?_, fun i hi => by unfold dgV; rw [if_neg (by omega)]⟩
 have a := Nat.mod_lt (x / q ^ (n - 1 - i)) hq
 unfold bz dgV
 split
 ·rw [bz_byt _ (by omega) (by omega)]; omega
 ·show (0 : Int) < q; omega
/-- the group-like ones of the first m vectors -/
noncomputable def gsM (p : Int) (n : Nat) (f : By) (m : Nat) : List By := ((List.range m).map (dgV p.toNat n)).filter fun v => decide (GL p n f v)
noncomputable def gsL (p : Int) (n : Nat) (f : By) : List By := gsM p n f (p.toNat ^ n)
theorem gsM_s {m : Nat} : gsM p n f (m + 1) = gsM p n f m ++ if GL p n f (dgV p.toNat n m) then [dgV p.toNat n m] else [] := by
 unfold gsM
 rw [List.range_succ, List.map_append, List.filter_append]
 refine congrArg _ ?_
 simp only [List.map_cons, List.map_nil, List.filter_cons, List.filter_nil, decide_eq_true_eq]
theorem gsM_len {m : Nat} : (gsM p n f m).length ≤ m := by
 unfold gsM
 exact Nat.le_trans (List.length_filter_le _ _) (by simp)
theorem gsL_mem (hp : Pr p) {v : By} (h : v ∈ gsL p n f) : Vp n p v ∧ GL p n f v := by
 have h2 := hp.1
 have h3 := hp.2.1
 obtain ⟨h4, h5⟩ := List.mem_filter.1 h
 obtain ⟨x, -, rfl⟩ := List.mem_map.1 h4
 refine ⟨?_, by simpa using h5⟩
 have := dgV_vp (q := p.toNat) (n := n) (x := x) (by omega) (by omega)
 rwa [show ((p.toNat : Nat) : Int) = p by omega] at this
theorem gsL_nodup (hp : Pr p) : (gsL p n f).Nodup := by
 have h2 := hp.1
 have h3 := hp.2.1
 unfold gsL gsM
 rw [List.nodup_iff_pairwise_ne]
 refine List.Pairwise.filter _ ?_
 rw [List.pairwise_map]
 refine List.Pairwise.imp_of_mem (fun {a b} ha hb (hlt : a < b) e => ?_) List.pairwise_lt_range
 have := dgV_inj (by omega) (by omega) (List.mem_range.1 ha) (List.mem_range.1 hb) e
 omega
theorem gsL_red (hp : Pr p) (hn : n ≤ 8) : (redL p (gsL p n f)).length = (gsL p n f).length :=
 gl_red hp hn (gsL_nodup hp) fun a ha => ⟨(gsL_mem hp ha).1.mono hn, (gsL_mem hp ha).2⟩
/-! ### primitive vectors -/
def prI (f g h : By) (i j k : Nat) : Int := bz f (10 + i * 64 + j * 8 + k) - (if j = i then bz g k else 0) - (if k = i then bz h j else 0)
noncomputable def prK (p : Int) (n : Nat) (f g h : By) : List By := kerL p n (eqnL p n (n * n) fun t i => prI f g h i (t / n) (t % n))
theorem prK_rr (hp : Pr p) (hn : n ≤ 8) {g h : By} : RR 8 p (prK p n f g h) := kerL_rr hp hn fun v hv => (eqnL_vp (by have := hp.1; omega) (by have := hp.2.1; omega) v hv).mono hn
theorem sm_pick {x : Nat → Int} {j : Nat} : ∀ {n : Nat}, sm n (fun i => if j = i then x i else 0) = if j < n then x j else 0
  | 0 => rfl
  | n + 1 => by
    show sm n (fun i => if j = i then x i else 0) + (if j = n then x n else 0) = _
    rw [sm_pick]
    rcases Nat.lt_trichotomy j n with e | e | e
    · rw [if_pos e, if_neg (by omega), if_pos (by omega), Int.add_zero]
    · subst e; rw [if_neg (by omega), if_pos rfl, if_pos (by omega), Int.zero_add]
    · rw [if_neg (by omega), if_neg (by omega), if_neg (by omega)]; rfl
theorem prK_law (hp : Pr p) (hn : n ≤ 8) {g h v : By} (hv : Sp' 8 p (prK p n f g h) v) {j k : Nat} (hj : j < n) (hk : k < n) : cg p (bz (cpF p n f v) (j * 8 + k) - bz v j * bz g k - bz h j * bz v k) 0 := by
 have h2 := hp.1
 have h3 := hp.2.1
 have q := (kerL_iff hp hn (eqnL_vp (by omega) (by omega))).1 hv
 have hm : vec n p (fun i => prI f g h i j k) ∈ eqnL p n (n * n) fun t i => prI f g h i (t / n) (t % n) := by
  unfold eqnL
  refine List.mem_map.2 ⟨j * n + k, List.mem_range.2 ?_, ?_⟩
  ·have := Nat.mul_le_mul_right n (show j + 1 ≤ n by omega)
   rw [Nat.add_mul, Nat.one_mul] at this; omega
  ·dsimp only
   rw [show (j * n + k) / n = j by rw [Nat.mul_comm, Nat.mul_add_div (by omega), Nat.div_eq_of_lt hk, Nat.add_zero], show (j * n + k) % n = k by rw [Nat.mul_comm, Nat.mul_add_mod, Nat.mod_eq_of_lt hk]]
 have q2 := q.2 _ hm
 have e1 : cg p (dt n (vec n p fun i => prI f g h i j k) v) (sm n fun i => bz v i * prI f g h i j k) := cg_sm fun i hi => (cg_mul (cg_vec (by omega) (by omega) hi) cg.rfl').trans (cg_of_eq (Int.mul_comm _ _))
 have e2 : (sm n fun i => bz v i * prI f g h i j k) = sm n (fun i => bz v i * bz f (10 + i * 64 + j * 8 + k)) + -1 * (bz v j * bz g k) + -1 * (bz h j * bz v k) := by
  have a1 : bz v j * bz g k = sm n fun i => if j = i then bz v i * bz g k else 0 := by rw [sm_pick, if_pos hj]
  have a2 : bz h j * bz v k = sm n fun i => if k = i then bz h j * bz v i else 0 := by rw [sm_pick, if_pos hk]
  rw [a1, a2, ← sm_mul, ← sm_mul, ← sm_add, ← sm_add]
  refine sm_congr fun i hi => ?_
  unfold prI
  by_cases x : j = i <;> by_cases y : k = i <;> simp only [x, y, if_true, if_false] <;> grind
 have e3 : cg p (bz (cpF p n f v) (j * 8 + k)) (sm n fun i => bz v i * bz f (10 + i * 64 + j * 8 + k)) := by
  rw [bz_c (show cpF p n f v (j * 8 + k) = cpR p f v n j k by unfold cpF; rw [if_pos (by omega), show (j * 8 + k) / 8 = j by omega, show (j * 8 + k) % 8 = k by omega])]
  exact cg_vec (by omega) (by omega) (by omega)
 have e4 : bz (cpF p n f v) (j * 8 + k) - bz v j * bz g k - bz h j * bz v k = bz (cpF p n f v) (j * 8 + k) + -1 * (bz v j * bz g k) + -1 * (bz h j * bz v k) := by omega
 rw [e4]
 refine (cg_add (cg_add e3 cg.rfl') cg.rfl').trans ?_
 rw [← e2]
 exact e1.symm.trans q2
end
end Hf
namespace Hf
open Go Classical
variable {P : Program} {ρ : Nat → FuncId}
theorem s_DrawGroupLikes_ok (B : Bs P ρ) (E : F_s_DrawGroupLikes P ρ) {H : List Blk} {a : At} (hC : CB H a) :
  CallR P ρ 399 [a] H (fun u G => ∃ (p q : Int) (f : By), u = .one (.ag [p, q] 522 f) ∧ Ext H G) := by
 refine call_of_q B.fn B.mo E.1 rfl (fun hAr hHp => ?_) (by simp only [List.all_cons, List.all_nil, hC.lt]; rfl)
 refine ⟨_, rfl, ?_⟩
 refine ⟨_, s_l01From_ok B E.2.1 (hC.ext Ext.app), ?_⟩
 rintro _ G4 ⟨rfl, hE4, hS4⟩
 have hl4 : (H ++ [(⟨false, (Zk.by 2 522).bk⟩ : Blk)]).length = H.length + 1 := by simp
 refine ⟨_, s_l02Spoil_ok B E.2.2 hS4, ?_⟩
 rintro _ G5 ⟨p, q, f, rfl, hf5, hS5⟩
 have hX : Ext H G5 := (Ext.app.trans hE4).fr' hf5 (by omega)
 have hm := hf5.get (hE4 _ _ get_new) (by omega)
 refine ⟨_, _, _, hm, cputs_2, eqBk_rfl, ?_⟩
 exact ⟨rfl, false, _, 522, _, set_same hm, ⟨rfl, by omega⟩, ⟨_, _, _, rfl, hX.set (by omega)⟩⟩

theorem s_DrawIsGroupLike_ok (B : Bs P ρ) (E : F_s_DrawIsGroupLike P ρ) {H : List Blk} {a : At} (hC : CB H a) :
  CallR P ρ 396 [a] H (fun u G => ∃ (p q : Int) (f v : By), u = .tup [.ag [p, q] 522 f, .ag [] 8 v] ∧ Ext H G) := by
 refine call_of_q B.fn B.mo E.1 rfl (fun hAr hHp => ?_) (by simp only [List.all_cons, List.all_nil, hC.lt]; rfl)
 refine ⟨_, rfl, ?_⟩
 refine ⟨H.length + 1, by simp, ?_⟩
 rw [ap2]
 refine ⟨_, s_l02One_ok B E.2 (hC.ext Ext.app), ?_⟩
 rintro _ G5 ⟨p, q, f, v, rfl, hE5⟩
 refine ⟨_, _, _, hE5 _ _ (at_k (i := 0)), cputs_2, eqBk_rfl, ?_⟩
 refine ⟨_, _, _, set_other (hE5 _ _ (at_k (i := 1))) (by omega), cputs_by (by simp) (by omega), eqBk_rfl, ?_⟩
 exact ⟨rfl, false, _, 522, _, set_other (set_same (hE5 _ _ (at_k (i := 0)))) (by omega), ⟨rfl, by omega⟩, false, [], 8, _, _, set_same (set_other (hE5 _ _ (at_k (i := 1))) (by omega)), ⟨by simp, by omega⟩, fun x hx => rfl, ⟨_, _, _, _, rfl, ((Ext.app.trans hE5).set (by omega)).set (by omega)⟩⟩

theorem s_DrawLeastSubcoalgebra_ok (B : Bs P ρ) (E : F_s_DrawLeastSubcoalgebra P ρ) {H : List Blk} {a : At} (hC : CB H a) :
  CallR P ρ 406 [a] H (fun u G => ∃ (p q : Int) (f v : By), u = .tup [.ag [p, q] 522 f, .ag [] 8 v] ∧ Ext H G) := by
 refine call_of_q B.fn B.mo E.1 rfl (fun hAr hHp => ?_) (by simp only [List.all_cons, List.all_nil, hC.lt]; rfl)
 refine ⟨_, rfl, ?_⟩
 refine ⟨H.length + 1, by simp, ?_⟩
 rw [ap2]
 refine ⟨_, s_l02One_ok B E.2 (hC.ext Ext.app), ?_⟩
 rintro _ G5 ⟨p, q, f, v, rfl, hE5⟩
 refine ⟨_, _, _, hE5 _ _ (at_k (i := 0)), cputs_2, eqBk_rfl, ?_⟩
 refine ⟨_, _, _, set_other (hE5 _ _ (at_k (i := 1))) (by omega), cputs_by (by simp) (by omega), eqBk_rfl, ?_⟩
 exact ⟨rfl, false, _, 522, _, set_other (set_same (hE5 _ _ (at_k (i := 0)))) (by omega), ⟨rfl, by omega⟩, false, [], 8, _, _, set_same (set_other (hE5 _ _ (at_k (i := 1))) (by omega)), ⟨by simp, by omega⟩, fun x hx => rfl, ⟨_, _, _, _, rfl, ((Ext.app.trans hE5).set (by omega)).set (by omega)⟩⟩

theorem l_vectors9_ok (B : Bs P ρ) (E : F_l_vectors9 P ρ) {H : List Blk} {a b : At} {L : List By} (hA : VS H a L) (hB : VS H b L) (hlen : L.length ≤ 100000000) :
  CallR P ρ 402 [a, b] H (fun u G => u = .one (.b true) ∧ G = H) := by
 refine call_of_q B.fn B.mo E rfl (fun hAr hHp => ?_) (by simp only [List.all_cons, List.all_nil, hA.lt, hB.lt]; rfl)
 refine ⟨_, (hA).len, ?_⟩
 refine ⟨_, (hB).len, ?_⟩
 refine ⟨fun h10 => ?_, fun h10 => ?_⟩
 ·replace h10 := bne_t h10
  exact absurd rfl h10
 ·replace h10 := bne_f h10
  refine ⟨Unit, (fun a0 a1 (i0 : Nat) (x0 : Unit) => [(0, a0), (1, a1), (5, .one (.i .i64 ((i0 : Nat) : Int)))]) _ _ , fun (i0 : Nat) (x0 : Unit) (G0 : List Blk) => (G0 = H), L.length, ⟨(), rfl, ⟨rfl, rfl, rfl, trivial⟩⟩, ?_⟩
  rintro i0 _ G0 hi0 rfl
  refine ⟨_, (hA).len, ?_⟩
  refine ⟨fun h14 => ?_, fun h14 => ?_⟩
  ·replace h14 := of_decide_eq_true h14
   obtain ⟨k19, o19, n19, c19, q19, ea19, hl19, hq19, r19, N19, f19, hk19, hN19, hf19⟩ := (hA).at i0 (by omega)
   refine ⟨k19, o19, n19, c19, i0, q19, ea19, rfl, hl19, hq19, ?_⟩
   refine ⟨_, _, _, _, _, hk19, ⟨by simp, hN19⟩, hf19, ?_⟩
   obtain ⟨k23, o23, n23, c23, q23, ea23, hl23, hq23, r23, N23, f23, hk23, hN23, hf23⟩ := (hB).at i0 (by omega)
   refine ⟨k23, o23, n23, c23, i0, q23, ea23, rfl, hl23, hq23, ?_⟩
   refine ⟨_, _, _, _, _, hk23, ⟨by simp, hN23⟩, hf23, ?_⟩
   refine brB_f' (by rw [eqB_self]; rfl) ?_
   refine ⟨((i0 + 1 : Nat) : Int), w64_id _ (by omega) (by omega), ?_⟩
   exact ⟨by omega, (), rfl, ⟨rfl, rfl, rfl, trivial⟩⟩
  ·replace h14 := of_decide_eq_false h14
   have e0 : L.length = i0 := by omega
   subst e0
   exact ⟨rfl, rfl, rfl⟩

def otF (p : Int) (v w : By) : By := vec 64 p fun y => bz v (y / 8) * bz w (y % 8)
theorem byt_eq {a b : Int} (ha : 0 ≤ a) (ha2 : a < 256) (hb : 0 ≤ b) (hb2 : b < 256) (h : byt a = byt b) : a = b := by
 have q := congrArg (fun u : UInt8 => (u.toNat : Int)) h
 have q : ((byt a).toNat : Int) = ((byt b).toNat : Int) := q
 rwa [bz_byt a ha (by omega), bz_byt b hb (by omega)] at q
theorem gl_iff {p : Int} {n : Nat} {f v : By} (hp : 1 ≤ p) (hp2 : p ≤ 256) : (∀ x, x < 64 → cpF p n f v x = otF p v v x) ↔ ∀ j, j < 8 → ∀ y, y < 8 → cg p (bz (cpR p f v n j) y) (bz v j * bz v y) := by
 have e1 : ∀ x, x < 64 → cpF p n f v x = cpR p f v n (x / 8) (x % 8) := fun x hx => by unfold cpF; rw [if_pos hx]
 have e2 : ∀ x, x < 64 → otF p v v x = byt ((bz v (x / 8) * bz v (x % 8)) % p) := fun x hx => by unfold otF vec; rw [if_pos hx]
 have e3 : ∀ j y, y < 8 → cpR p f v n j y = byt ((sm n fun i => bz v i * bz f (10 + i * 64 + j * 8 + y)) % p) := fun j y hy => by unfold cpR vec; rw [if_pos hy]
 have b : ∀ z : Int, 0 ≤ z % p ∧ z % p < 256 := fun z => ⟨Int.emod_nonneg _ (by omega), by have := Int.emod_lt_of_pos z (show 0 < p by omega); omega⟩
 constructor
 ·intro h j hj y hy
  have q := h (j * 8 + y) (by omega)
  rw [e1 _ (by omega), e2 _ (by omega), show (j * 8 + y) / 8 = j by omega, show (j * 8 + y) % 8 = y by omega, e3 _ _ hy] at q
  exact (cg_vec hp hp2 hy).trans (byt_eq (b _).1 (b _).2 (b _).1 (b _).2 q)
 ·intro h x hx
  rw [e1 x hx, e2 x hx, e3 _ _ (by omega)]
  exact congrArg byt ((cg_vec hp hp2 (by omega)).symm.trans (h (x / 8) (by omega) (x % 8) (by omega)))
theorem s_l02Outer_ok (B : Bs P ρ) (E : F_s_l02Outer P ρ) {p : Int} {v w : By} (hp : 1 ≤ p) (hp2 : p ≤ 256) :
  CallOK P ρ 431 [.i .i64 p, .ag [] 8 v, .ag [] 8 w] [] (.one (.ag [] 64 (otF p v w))) [] := by
 refine (CallR.pure (call_of_q B.fn B.mo E.1 rfl (fun _ _ => ?_) rfl) rfl).ok
 refine ⟨_, rfl, ?_⟩
 refine ⟨_, rfl, ?_⟩
 refine ⟨_, rfl, ?_⟩
 refine ⟨_, rfl, ?_⟩
 refine ⟨_, _, _, rfl, cputs_by (by simp) (by omega), eqBk_rfl, ?_⟩
 refine ⟨Unit, (fun a0 a4 a5 a6 a7 (i0 : Nat) (x0 : Unit) => [(0, a0), (4, a4), (5, a5), (6, a6), (7, a7), (8, .one (.i .i64 ((i0 : Nat) : Int)))]) _ _ _ _ _ , fun (i0 : Nat) (x0 : Unit) (G0 : List Blk) => (∃ u, G0 = [⟨false, .by [] 8 v⟩, ⟨false, .by [] 8 w⟩, ⟨false, .by [] 64 fun _ => 0⟩, ⟨false, .by [] 64 u⟩] ∧ ∀ x, x < 64 → u x = if x / 8 < i0 then otF p v w x else 0), 8, ⟨(), ⟨_, rfl, fun x hx => by rw [if_neg (by omega)]; simp [spl]⟩, ⟨rfl, rfl, rfl, rfl, rfl, rfl, trivial⟩⟩, ?_⟩
 rintro i0 _ G0 hi0 ⟨u0, rfl, hu0⟩
 refine ⟨fun h11 => ?_, fun h11 => ?_⟩
 ·replace h11 := of_decide_eq_true h11
  refine ⟨_, _, _, _, w, rfl, ⟨by simp, by omega⟩, fun x _ => congrArg _ (Nat.zero_add x).symm, ?_⟩
  refine ⟨i0, _, rfl, by omega, rfl, ?_⟩
  refine ⟨_, _, rfl, cat_bq i0 (by omega) (by simp) (by omega), ?_⟩
  have hbl := toNat_le (v i0)
  refine ⟨_, s_l01Add_ok B E.2 (p := p) (k := bz v i0) (v := fun _ => 0) (w := w) hp (by omega) (by unfold bz; omega) (by unfold bz; omega), rfl, ?_⟩
  refine ⟨i0, _, rfl, by omega, rfl, ?_⟩
  refine ⟨_, _, _, rfl, cputs_by (by simp <;> omega) (by omega), eqBk_rfl, ?_⟩
  refine ⟨((i0 + 1 : Nat) : Int), w64_id _ (by omega) (by omega), ?_⟩
  refine ⟨by omega, (), ?_, ⟨rfl, rfl, rfl, rfl, rfl, rfl, trivial⟩⟩
  refine ⟨_, rfl, fun x hx => ?_⟩
  unfold spl
  by_cases e : 0 + i0 * 8 ≤ x ∧ x < 0 + i0 * 8 + 8
  ·rw [if_pos e, if_pos (by omega)]
   unfold otF vec
   rw [if_pos (by omega), if_pos hx]
   show byt ((0 + bz v i0 * bz w (x - (0 + i0 * 8))) % p) = byt ((bz v (x / 8) * bz w (x % 8)) % p)
   rw [Int.zero_add, show x / 8 = i0 by omega, show x - (0 + i0 * 8) = x % 8 by omega]
  ·rw [if_neg e, hu0 x hx]
   exact ifc (by omega)
 ·replace h11 := of_decide_eq_false h11
  have e0 : 8 = i0 := by omega
  subst e0
  refine ⟨_, _, _, _, otF p v w, rfl, ⟨by simp, by omega⟩, fun x hx => by rw [Nat.zero_add, hu0 x hx, if_pos (by omega)], ?_⟩
  refine ⟨_, _, _, rfl, cputs_by (by simp) (by omega), eqBk_rfl, ?_⟩
  exact ⟨rfl, false, [], 64, _, otF p v w, rfl, ⟨by simp, by omega⟩, fun x hx => by simp [spl, hx], rfl, Ext.nil⟩

theorem s_l02Group_ok (B : Bs P ρ) (E : F_s_l02Group P ρ) {p : Int} {n : Nat} {f v : By} (hp : 1 ≤ p) (hp2 : p ≤ 256) (hn : n ≤ 8) (hC : Cog p n f) :
  CallOK P ρ 417 [.ag [p, (n : Int)] 522 f, .ag [] 8 v] [] (.one (.b (decide (GL p n f v)))) [] := by
 refine (CallR.pure (call_of_q B.fn B.mo E.1 rfl (fun _ _ => ?_) rfl) rfl).ok
 refine ⟨_, rfl, ?_⟩
 refine ⟨_, rfl, ?_⟩
 refine .inl ⟨_, _, _, _, rfl, ⟨rfl, by omega⟩, ?_⟩
 refine ⟨_, _, _, _, v, rfl, ⟨by simp, by omega⟩, fun x _ => congrArg _ (Nat.zero_add x).symm, ?_⟩
 refine ⟨_, s_l02Counit_ok B E.2.1 (p := p) (n := (n : Int)) (f := f) (v := v) hp, rfl, ?_⟩
 refine ⟨fun h9 => ?_, fun h9 => ?_⟩
 ·replace h9 := eq_of_beq h9
  refine .inl ⟨_, _, _, _, rfl, ⟨rfl, by omega⟩, ?_⟩
  refine brB_t ?_
  refine ⟨_, _, _, _, v, rfl, ⟨by simp, by omega⟩, fun x _ => congrArg _ (Nat.zero_add x).symm, ?_⟩
  refine brB_t ?_
  refine ⟨_, s_l02Coproduct_ok B E.2.2.1 (p := p) (n := n) (f := f) (v := v) hp hp2 hn hC, rfl, ?_⟩
  iterate 2 refine brB_t ?_
  refine ⟨_, _, rfl, rfl, ?_⟩
  refine brB_t ?_
  refine ⟨_, _, _, _, v, rfl, ⟨by simp, by omega⟩, fun x _ => congrArg _ (Nat.zero_add x).symm, ?_⟩
  refine brB_t ?_
  refine ⟨_, _, _, _, v, rfl, ⟨by simp, by omega⟩, fun x _ => congrArg _ (Nat.zero_add x).symm, ?_⟩
  refine brB_t ?_
  refine ⟨_, s_l02Outer_ok B E.2.2.2 (p := p) (v := v) (w := v) hp hp2, rfl, ?_⟩
  iterate 2 refine brB_t ?_
  refine ⟨rfl, ?_, Ext.nil⟩
  have e : eqB 64 (cpF p n f v) (otF p v v) = decide (GL p n f v) := by
   rw [Bool.eq_iff_iff, eqB_iff, decide_eq_true_eq, gl_iff hp hp2]
   exact ⟨fun z => ⟨h9, z⟩, fun z => z.2⟩
  rw [← e]; rfl
 ·replace h9 := ne_of_beq_false h9
  iterate 9 refine brB_f ?_
  refine ⟨rfl, ?_, Ext.nil⟩
  rw [decide_eq_false fun z : GL p n f v => h9 z.1]; rfl

theorem i_Coalgebra_isGroupLike_ok (B : Bs P ρ) (E : F_i_Coalgebra_isGroupLike P ρ) {H : List Blk} {k : Nat} {r : Bool} {p : Int} {n : Nat} {f v : By} (hk : H[k]? = some ⟨r, .by [p, (n : Int)] 522 f⟩) (hp : 1 ≤ p) (hp2 : p ≤ 256) (hn : n ≤ 8) (hC : Cog p n f) (hv : Vec p n v 0) :
  CallR P ρ 419 [.pt k 0, .ag [] 8 v] H (fun u G => u = .one (.b (decide (GL p n f v))) ∧ G = H) := by
 refine CallR.pure (call_of_q B.fn B.mo E.1 rfl (fun hA hH => ?_) (by simp [At.lt, lt_of hk])) rfl
 refine ⟨H.length + 0, rfl, ?_⟩
 refine ⟨_, CallOK.at1 (app_old hk) (i_Coalgebra_field_ok B E.2.1 (p := p) (n := (n : Int)) (f := f)) rfl rfl, ?_⟩
 rintro _ _ ⟨rfl, rfl⟩
 refine ⟨H.length + 1, by simp, ?_⟩
 rw [ap2]
 refine ⟨_, _, _, at_k (i := 1), cputs_2, eqBk_rfl, ?_⟩
 rw [app_set]
 refine .inl ⟨_, _, _, _, at_k (i := 1), ⟨rfl, by omega⟩, ?_⟩
 refine ⟨_, _, _, _, sh f 2, app_old hk, ⟨by simp, by omega⟩, fun x hx => rfl, ?_⟩
 refine ⟨_, _, _, _, v, at_k (i := 0), ⟨by simp, by omega⟩, fun x _ => congrArg _ (Nat.zero_add x).symm, ?_⟩
 refine ⟨_, i_field_dot_ok B E.2.2.1 (p := p) (n := (n : Int)) (g := fun _ => 0) (v := sh f 2) (w := v) hp (by omega), rfl, ?_⟩
 rw [show sm 8 (fun j => bz (sh f 2) j * bz v j) % p = cuV p f v from congrArg (· % p) (sm_congr fun i _ => Int.mul_comm _ _)]
 refine ⟨fun h16 => ?_, fun h16 => ?_⟩
 ·replace h16 := eq_of_beq h16
  refine brB_t ?_
  refine ⟨_, _, _, _, v, at_k (i := 0), ⟨by simp, by omega⟩, fun x _ => congrArg _ (Nat.zero_add x).symm, ?_⟩
  refine brB_t ?_
  refine .inl ⟨_, _, _, _, at_k (i := 1), ⟨rfl, by omega⟩, ?_⟩
  refine brB_t ?_
  refine ⟨_, _, _, _, v, at_k (i := 0), ⟨by simp, by omega⟩, fun x _ => congrArg _ (Nat.zero_add x).symm, ?_⟩
  refine brB_t ?_
  refine ⟨_, _, _, _, v, at_k (i := 0), ⟨by simp, by omega⟩, fun x _ => congrArg _ (Nat.zero_add x).symm, ?_⟩
  refine brB_t ?_
  refine ⟨_, i_Coalgebra_coproduct_ok B E.2.2.2.1 (app_old hk) hp hp2 hn hC, ?_⟩
  rintro _ _ ⟨rfl, rfl⟩
  refine ⟨⟨rfl, rfl, rfl, trivial⟩, ?_⟩
  refine brB_t ?_
  refine ⟨_, i_field_pair_ok B E.2.2.2.2 (p := p) (n := (n : Int)) (g := fun _ => 0) (v := v) (w := v) hp hp2, rfl, ?_⟩
  iterate 2 refine brB_t ?_
  refine ⟨rfl, ?_, Ext.app⟩
  have e : eqB 64 (cpF p 8 f v) (otF p v v) = decide (GL p n f v) := by
   rw [cpF_8 hn hv, Bool.eq_iff_iff, eqB_iff, decide_eq_true_eq, gl_iff hp hp2]
   exact ⟨fun z => ⟨h16, z⟩, fun z => z.2⟩
  rw [← e]; rfl
 ·replace h16 := ne_of_beq_false h16
  iterate 8 refine brB_f ?_
  refine ⟨rfl, ?_, Ext.app⟩
  rw [decide_eq_false fun z : GL p n f v => h16 z.1]; rfl

noncomputable def glV (p n : Int) (f v : By) : Bool := if cgQ p n f [v] then decide (GL p n.toNat f v) else false
theorem s_IsGroupLike_ok (B : Bs P ρ) (E : F_s_IsGroupLike P ρ) {p n : Int} {f v : By} :
  CallOK P ρ 397 [.ag [p, n] 522 f, .ag [] 8 v] [] (.tup [.b (glV p n f v), .i .i64 (oc (cgQ p n f [v]) 1)]) [] := by
 refine (CallR.pure (call_of_q B.fn B.mo E.1 rfl (fun _ _ => ?_) rfl) rfl).ok
 refine ⟨_, rfl, ?_⟩
 refine ⟨_, rfl, ?_⟩
 refine .inl ⟨_, _, _, _, rfl, ⟨rfl, by omega⟩, ?_⟩
 refine ⟨_, _, _, _, v, rfl, ⟨by simp, by omega⟩, fun x _ => congrArg _ (Nat.zero_add x).symm, ?_⟩
 refine ⟨_, rfl, ?_⟩
 refine ⟨_, s_l02Code_ok B E.2.1 (p := p) (n := n) (f := f) (L := [v]) (VS.at8 rfl (Nat.le_refl 8) fun x hx => by simp [spl, hx]) (by simp), ?_⟩
 rintro _ _ ⟨rfl, rfl⟩
 refine ⟨fun h12 => ?_, fun h12 => ?_⟩
 ·replace h12 := bne_t h12
  have hq : ¬ cgQ p n f [v] := fun z => h12 (oc_t z)
  first
   | exact ⟨rfl, by unfold glV; rw [if_neg hq, oc_f hq]; rfl, Ext.nil⟩
   | exact ⟨rfl, by unfold glV; rw [if_pos hq, oc_t hq]; rfl, Ext.nil⟩
 ·replace h12 := bne_f h12
  have hq : cgQ p n f [v] := oc_0 h12
  have hb := AShp.p1 hq.1.1
  obtain ⟨n, rfl⟩ : ∃ k : Nat, n = (k : Int) := ⟨n.toNat, by omega⟩
  refine .inl ⟨_, _, _, _, rfl, ⟨rfl, by omega⟩, ?_⟩
  refine ⟨_, _, _, _, v, rfl, ⟨by simp, by omega⟩, fun x _ => congrArg _ (Nat.zero_add x).symm, ?_⟩
  refine ⟨_, s_l02Group_ok B E.2.2 (p := p) (n := n) (f := f) (v := v) (by omega) (by omega) (by omega) hq.1, rfl, ?_⟩
  first
   | exact ⟨rfl, by unfold glV; rw [if_neg hq, oc_f hq]; rfl, Ext.nil⟩
   | exact ⟨rfl, by unfold glV; rw [if_pos hq, oc_t hq]; rfl, Ext.nil⟩

theorem i_IsGroupLike_ok (B : Bs P ρ) (E : F_i_IsGroupLike P ρ) {p n : Int} {f v : By} :
  CallOK P ρ 398 [.ag [p, n] 522 f, .ag [] 8 v] [] (.tup [.b (glV p n f v), .i .i64 (oc (cgQ p n f [v]) 1)]) [] := by
 refine (CallR.pure (call_of_q B.fn B.mo E.1 rfl (fun _ _ => ?_) rfl) rfl).ok
 refine ⟨_, rfl, ?_⟩
 refine ⟨_, rfl, ?_⟩
 refine ⟨_, _, _, _, v, rfl, ⟨by simp, by omega⟩, fun x _ => congrArg _ (Nat.zero_add x).symm, ?_⟩
 refine ⟨_, rfl, ?_⟩
 refine ⟨_, i_Coalgebra_code_ok B E.2.1 (p := p) (n := n) (f := f) (L := [v]) rfl (VS.at8 rfl (Nat.le_refl 8) fun x hx => by simp [spl, hx]) (by simp), ?_⟩
 rintro _ _ ⟨rfl, rfl⟩
 refine ⟨fun h11 => ?_, fun h11 => ?_⟩
 ·replace h11 := bne_t h11
  have hq : ¬ cgQ p n f [v] := fun z => h11 (oc_t z)
  first
   | exact ⟨rfl, by unfold glV; rw [if_neg hq, oc_f hq]; rfl, Ext.nil⟩
   | exact ⟨rfl, by unfold glV; rw [if_pos hq, oc_t hq]; rfl, Ext.nil⟩
 ·replace h11 := bne_f h11
  have hq : cgQ p n f [v] := oc_0 h11
  have hb := AShp.p1 hq.1.1
  obtain ⟨n, rfl⟩ : ∃ k : Nat, n = (k : Int) := ⟨n.toNat, by omega⟩
  refine ⟨_, _, _, _, v, rfl, ⟨by simp, by omega⟩, fun x _ => congrArg _ (Nat.zero_add x).symm, ?_⟩
  refine ⟨_, i_Coalgebra_isGroupLike_ok B E.2.2 (p := p) (n := n) (f := f) (v := v) rfl (by omega) (by omega) (by omega) hq.1 (hq.2 v (by simp)), ?_⟩
  rintro _ _ ⟨rfl, rfl⟩
  first
   | exact ⟨rfl, by unfold glV; rw [if_neg hq, oc_f hq]; rfl, Ext.nil⟩
   | exact ⟨rfl, by unfold glV; rw [if_pos hq, oc_t hq]; rfl, Ext.nil⟩

end Hf
namespace Hf
open Go Classical
variable {P : Program} {ρ : Nat → FuncId}
theorem vp_vec {p : Int} {n : Nat} {v : By} (h : Vp n p v) : Vec p n v 0 := fun k hk => ⟨by rw [Nat.zero_add]; exact h.1 k, fun q => by rw [Nat.zero_add]; exact bz_eq0.2 (h.2 k (by omega))⟩
/-- how many vectors there are, or one too many -/
def cnV (q n : Nat) : Nat := if 5000 < q ^ n then 5001 else q ^ n
noncomputable def gsC (p n : Int) (f : By) : Int := if Cog p n f then (if 5000 < p.toNat ^ n.toNat then 3 else 0) else 1
noncomputable def gsX (p n : Int) (f : By) : List By := if gsC p n f = 0 then gsL p n.toNat f else []
def GsV (H : List Blk) (p n : Int) (f : By) (u : Sv) (G : List Blk) : Prop := ∃ b, u = .tup [b, .i .i64 (gsC p n f)] ∧ Ext H G ∧ VS G b (gsX p n f) ∧ ∀ k ∈ spB b, H.length ≤ k
theorem VW.fresh {m : Nat} {H : List Blk} {a : At} {L : List By} (h : VW m H a L) : ∀ k ∈ spB a, m ≤ k := by
 obtain ⟨k, off, cap, N, f, rfl, -, h3, -⟩ := h
 intro j hj
 simp [spB] at hj
 omega
theorem GsV.n {H G : List Blk} {p n : Int} {f : By} {u : Sv} (h : ¬ Cog p n f) (hu : u = .tup [.sn, .i .i64 1]) (hE : Ext H G) : GsV H p n f u G := by
 have e : gsC p n f = 1 := if_neg h
 exact ⟨.sn, by rw [hu, e], hE, by unfold gsX; rw [if_neg (by rw [e]; decide)]; exact VS.nil, fun k hk => by simp [spB] at hk⟩
theorem GsV.m {H G : List Blk} {q n : Nat} {f : By} {u : Sv} (h : Cog (q : Int) n f) (hm : 5000 < q ^ n) (hu : u = .tup [.sn, .i .i64 3]) (hE : Ext H G) : GsV H q n f u G := by
 have e : gsC (q : Int) n f = 3 := by unfold gsC; rw [if_pos h]; exact if_pos hm
 exact ⟨.sn, by rw [hu, e], hE, by unfold gsX; rw [if_neg (by rw [e]; decide)]; exact VS.nil, fun k hk => by simp [spB] at hk⟩
theorem GsV.y {H G : List Blk} {q n : Nat} {f : By} {u : Sv} {b : At} (h : Cog (q : Int) n f) (hm : ¬ 5000 < q ^ n) (hu : u = .tup [b, .i .i64 0]) (hE : Ext H G) (hV : VS G b (gsL (q : Int) n f)) (hk : ∀ k ∈ spB b, H.length ≤ k) : GsV H q n f u G := by
 have e : gsC (q : Int) n f = 0 := by unfold gsC; rw [if_pos h]; exact if_neg hm
 exact ⟨b, by rw [hu, e], hE, by unfold gsX; rw [if_pos e]; exact hV, hk⟩
theorem pow_le' {q a b : Nat} (hq : 1 ≤ q) (h : a ≤ b) : q ^ a ≤ q ^ b := Nat.pow_le_pow_right hq h
theorem s_l02Count_ok (B : Bs P ρ) (E : F_s_l02Count P ρ) {q n : Nat} (hq : 1 ≤ q) (hq2 : q ≤ 31) (hn : n ≤ 8) :
  CallOK P ρ 420 [.i .i64 (q : Int), .i .i64 (n : Int)] [] (.one (.i .i64 (cnV q n : Int))) [] := by
 refine (CallR.pure (call_of_q B.fn B.mo E rfl (fun _ _ => ?_) rfl) rfl).ok
 refine ⟨Int, (fun a0 (i0 : Nat) (x0 : Int) => [(0, a0), (1, .one (.i .i64 x0)), (5, .one (.i .i64 ((q ^ i0 : Nat) : Int)))]) _ , fun (i0 : Nat) (x0 : Int) (G0 : List Blk) => (x0 = (n : Int) - (i0 : Nat) ∧ (∀ j, j < i0 → q ^ j ≤ 5000) ∧ G0 = []), n, ⟨(n : Int), ⟨by omega, fun j hj => absurd hj (Nat.not_lt_zero _), rfl⟩, ⟨rfl, rfl, rfl, trivial⟩⟩, ?_⟩
 rintro i0 x0 G0 hi0 ⟨hx0, hq0, rfl⟩
 refine ⟨fun h8 => ?_, fun h8 => ?_⟩
 ·replace h8 := of_decide_eq_true h8
  iterate 2 refine brB_t ?_
  refine ⟨fun h11 => ?_, fun h11 => ?_⟩
  ·replace h11 := of_decide_eq_true h11
   have hm : q ^ i0 * q ≤ 5000 * 31 := Nat.mul_le_mul (by omega) hq2
   refine ⟨((q ^ (i0 + 1) : Nat) : Int), by rw [← Int.natCast_mul, ← Nat.pow_succ]; exact w64_id _ (by rw [Nat.pow_succ]; omega) (by rw [Nat.pow_succ]; omega), ?_⟩
   refine ⟨_, w64_id _ (by omega) (by omega), ?_⟩
   refine ⟨by omega, _, ?_, ⟨rfl, rfl, rfl, trivial⟩⟩
   refine ⟨by omega, fun j hj => ?_, rfl⟩
   by_cases e : j = i0
   ·subst e; omega
   ·exact hq0 j (by omega)
  ·replace h11 := of_decide_eq_false h11
   refine ⟨(cnV q n : Int), ?_, ?_⟩
   ·have hle := pow_le' hq (show i0 ≤ n by omega)
    have hc : cnV q n = 5001 := if_pos (by omega)
    rw [hc]
    show (if (5001 : Int) < ((q ^ i0 : Nat) : Int) then (5001 : Int) else ((q ^ i0 : Nat) : Int)) = ((5001 : Nat) : Int)
    split <;> omega
   exact ⟨rfl, rfl, Ext.nil⟩
 ·replace h8 := of_decide_eq_false h8
  iterate 3 refine brB_f ?_
  refine ⟨(cnV q n : Int), ?_, ?_⟩
  ·have e : i0 = n := by omega
   rw [e]
   unfold cnV
   show (if (5001 : Int) < ((q ^ n : Nat) : Int) then (5001 : Int) else ((q ^ n : Nat) : Int)) = _
   split <;> split <;> omega
  exact ⟨rfl, rfl, Ext.nil⟩

set_option maxHeartbeats 2000000 in
theorem s_l02Groups_ok (B : Bs P ρ) (E : F_s_l02Groups P ρ) {H : List Blk} {q n : Nat} {f : By} (hC : Cog (q : Int) n f) (hm : ¬ 5000 < q ^ n) :
  CallR P ρ 421 [.ag [(q : Int), (n : Int)] 522 f] H (fun u G => ∃ b, u = .one b ∧ Ext H G ∧ VW H.length G b (gsL (q : Int) n f)) := by
 have hb := AShp.p1 hC.1
 have hq1 : 1 ≤ q := by omega
 have hn8 : n ≤ 8 := by omega
 have hn1 : 1 ≤ n := by omega
 have hp1 : (1 : Int) ≤ q := by omega
 have hp2 : (q : Int) ≤ 256 := by omega
 refine call_of_q B.fn B.mo E.1 rfl (fun hAr hHp => ?_) rfl
 refine ⟨H.length + 0, rfl, ?_⟩
 refine ⟨_, rfl, ?_⟩
 refine ⟨_, _, app_old (at_k (i := 0)), rfl, ?_⟩
 refine ⟨_, _, app_old (at_k (i := 0)), rfl, ?_⟩
 refine ⟨_, s_l02Count_ok B E.2.1 (q := q) (n := n) hq1 (by omega) hn8, rfl, ?_⟩
 rw [show cnV q n = q ^ n from if_neg hm]
 refine ⟨At, (fun a1 a4 (i0 : Nat) (x0 : At) => [(1, a1), (3, .one x0), (4, a4), (5, .one (.i .i64 ((i0 : Nat) : Int)))]) _ _ , fun (i0 : Nat) (x0 : At) (G0 : List Blk) => (VW (H.length + 1) G0 x0 (gsM (q : Int) n f i0) ∧ Upto (H.length + 1) (H ++ [⟨false, .by [(q : Int), (n : Int)] 522 f⟩]) G0), q ^ n, ⟨_, ⟨VW.nil (by simp), Ext.app.upto⟩, ⟨rfl, rfl, rfl, rfl, trivial⟩⟩, ?_⟩
 rintro i0 x0 G0 hi0 ⟨hV0, hU0⟩
 have hb0 := hU0 (H.length + 0) _ (by omega) (at_k (i := 0))
 have hlG : H.length + 1 ≤ G0.length := by have := lt_of hb0; omega
 have hgl := @gsM_len (q : Int) n f i0
 refine ⟨fun h17 => ?_, fun h17 => ?_⟩
 ·replace h17 := of_decide_eq_true h17
  refine ⟨_, rfl, ?_⟩
  refine ⟨_, _, .by [] 8 (dgS q n i0 0), get_new, cputs_by (by simp) (by omega), ⟨rfl, rfl, fun x _ _ => by rw [dgS_0]; simp [spl]⟩, ?_⟩
  rw [app_set0]
  refine ⟨_, _, app_old hb0, rfl, ?_⟩
  refine ⟨(n : Int) - 1 - ((0 : Nat) : Int), (w64_id ((n : Int) - 1) (by omega) (by omega)).trans (by omega), ?_⟩
  refine ⟨Int × Int, (fun a1 a3 a4 a5 a6 (i1 : Nat) (x1 : Int × Int) => match x1 with | ⟨x1, y1⟩ => [(1, a1), (3, a3), (4, a4), (5, a5), (6, a6), (7, .one (.i .i64 x1)), (8, .one (.i .i64 y1))]) _ _ _ _ _ , fun (i1 : Nat) (x1 : Int × Int) (G1 : List Blk) => match x1 with | ⟨x1, y1⟩ => (x1 = ((i0 / q ^ i1 : Nat) : Int) ∧ y1 = (n : Int) - 1 - (i1 : Nat) ∧ G1 = G0 ++ [⟨false, .by [] 8 (dgS q n i0 i1)⟩]), n, ⟨(_, _), ⟨by simp, rfl, rfl⟩, ⟨rfl, rfl, rfl, rfl, rfl, rfl, rfl, trivial⟩⟩, ?_⟩
  rintro i1 ⟨x1, y1⟩ G1 hi1 ⟨rfl, hy1, rfl⟩
  refine ⟨fun h26 => ?_, fun h26 => ?_⟩
  ·replace h26 := of_decide_eq_true h26
   have ey : y1 = ((n - 1 - i1 : Nat) : Int) := by omega
   subst ey
   have hd1 : i0 / q ^ i1 ≤ i0 := Nat.div_le_self _ _
   have hd2 : i0 / q ^ i1 / q ≤ i0 / q ^ i1 := Nat.div_le_self _ _
   have hd3 : (0 : Int) ≤ ((i0 / q ^ i1 / q : Nat) : Int) := Int.natCast_nonneg _
   refine ⟨_, _, app_old hb0, rfl, ?_⟩
   refine ⟨by omega, ((i0 / q ^ i1 % q : Nat) : Int), (Int.ofNat_tmod _ _).symm, ?_⟩
   refine ⟨n - 1 - i1, _, rfl, by omega, rfl, ?_⟩
   refine ⟨_, _, _, get_new, cput_u (by simp) (by omega), eqBk_rfl, ?_⟩
   rw [app_set0]
   refine ⟨_, _, app_old hb0, rfl, ?_⟩
   refine ⟨by omega, ((i0 / q ^ i1 / q : Nat) : Int), by rw [← Int.ofNat_tdiv]; exact w64_id _ (by omega) (by omega), ?_⟩
   refine ⟨_, w64_id _ (by omega) (by omega), ?_⟩
   refine ⟨by omega, (_, _), ?_, ⟨rfl, rfl, rfl, rfl, rfl, rfl, rfl, trivial⟩⟩
   refine ⟨by rw [Nat.pow_succ, Nat.div_div_eq_div_mul], by omega, ?_⟩
   rw [show 0 + (n - 1 - i1) * 1 = n - 1 - i1 by omega, dgS_s (by omega)]
  ·replace h26 := of_decide_eq_false h26
   have e1 : n = i1 := by omega
   subst e1
   refine .inl ⟨_, _, _, _, app_old hb0, ⟨rfl, by omega⟩, ?_⟩
   refine ⟨_, _, _, _, dgV q n i0, get_new, ⟨by simp, by omega⟩, fun x _ => by rw [dgS_n, Nat.zero_add], ?_⟩
   refine ⟨_, s_l02Counit_ok B E.2.2.1 (p := (q : Int)) (n := (n : Int)) (f := f) (v := dgV q n i0) hp1, rfl, ?_⟩
   refine ⟨fun h44 => ?_, fun h44 => ?_⟩
   ·replace h44 := eq_of_beq h44
    refine .inl ⟨_, _, _, _, app_old hb0, ⟨rfl, by omega⟩, ?_⟩
    refine brB_t ?_
    refine ⟨_, _, _, _, dgV q n i0, get_new, ⟨by simp, by omega⟩, fun x _ => by rw [dgS_n, Nat.zero_add], ?_⟩
    refine brB_t ?_
    refine ⟨_, s_l02Group_ok B E.2.2.2 (p := (q : Int)) (n := n) (f := f) (v := dgV q n i0) hp1 hp2 hn8 hC, rfl, ?_⟩
    refine brB_t ?_
    refine ⟨fun h48 => ?_, fun h48 => ?_⟩
    ·skip
     have hg : GL (q : Int) n f (dgV q n i0) := of_decide_eq_true h48
     refine ⟨_, _, _, _, dgV q n i0, get_new, ⟨by simp, by omega⟩, fun x _ => by rw [dgS_n, Nat.zero_add], ?_⟩
     refine ⟨_, rfl, ?_⟩
     refine ⟨_, vw_app (hV0.ext (Ext.app.trans Ext.app)) VS.one (by simp; omega) (by simp; omega), ?_⟩
     rintro a52 G52 ⟨hv52, hu52⟩
     refine ⟨((i0 + 1 : Nat) : Int), w64_id _ (by omega) (by omega), ?_⟩
     refine ⟨by omega, _, ?_, ⟨rfl, rfl, rfl, rfl, trivial⟩⟩
     refine ⟨?_, fun k B hk e => hu52 k B hk (app_old (app_old (hU0 k B hk e)))⟩
     rw [gsM_s, if_pos (show GL (q : Int) n f (dgV (q : Int).toNat n i0) from hg)]
     exact hv52
    ·skip
     have hg : ¬ GL (q : Int) n f (dgV q n i0) := of_decide_eq_false h48
     refine ⟨((i0 + 1 : Nat) : Int), w64_id _ (by omega) (by omega), ?_⟩
     refine ⟨by omega, _, ?_, ⟨rfl, rfl, rfl, rfl, trivial⟩⟩
     refine ⟨?_, fun k B hk e => app_old (hU0 k B hk e)⟩
     rw [gsM_s, if_neg (show ¬ GL (q : Int) n f (dgV (q : Int).toNat n i0) from fun z => by first | exact hg z | exact h44 z.1), List.append_nil]
     exact hV0.ext Ext.app
   ·replace h44 := ne_of_beq_false h44
    iterate 4 refine brB_f ?_
    refine ⟨((i0 + 1 : Nat) : Int), w64_id _ (by omega) (by omega), ?_⟩
    refine ⟨by omega, _, ?_, ⟨rfl, rfl, rfl, rfl, trivial⟩⟩
    refine ⟨?_, fun k B hk e => app_old (hU0 k B hk e)⟩
    rw [gsM_s, if_neg (show ¬ GL (q : Int) n f (dgV (q : Int).toNat n i0) from fun z => by first | exact hg z | exact h44 z.1), List.append_nil]
    exact hV0.ext Ext.app
 ·replace h17 := of_decide_eq_false h17
  have e0 : q ^ n = i0 := by omega
  subst e0
  exact ⟨rfl, x0, rfl, Upto.ext Ext.app hU0 (by omega), hV0.mono (by omega)⟩

theorem s_GroupLikes_ok (B : Bs P ρ) (E : F_s_GroupLikes P ρ) {H : List Blk} {p n : Int} {f : By} :
  CallR P ρ 400 [.ag [p, n] 522 f] H (GsV H p n f) := by
 refine call_of_q B.fn B.mo E.1 rfl (fun hAr hHp => ?_) rfl
 refine ⟨_, rfl, ?_⟩
 refine .inl ⟨_, _, _, _, get_new, ⟨rfl, by omega⟩, ?_⟩
 refine ⟨_, s_l02Is_ok B E.2.1 (p := p) (n := n) (f := f), rfl, ?_⟩
 refine ⟨fun h4 => ?_, fun h4 => ?_⟩
 ·skip
  have hC : ¬ Cog p n f := fun z => by rw [decide_eq_true z] at h4; cases h4
  exact ⟨rfl, GsV.n hC rfl Ext.app⟩
 ·skip
  have hC : Cog p n f := by simpa using h4
  have hb := AShp.p1 hC.1
  obtain ⟨n, rfl⟩ : ∃ k : Nat, n = (k : Int) := ⟨n.toNat, by omega⟩
  obtain ⟨q, rfl⟩ : ∃ k : Nat, p = (k : Int) := ⟨p.toNat, by omega⟩
  refine ⟨_, _, get_new, rfl, ?_⟩
  refine ⟨_, _, get_new, rfl, ?_⟩
  refine ⟨_, s_l02Count_ok B E.2.2.1 (q := q) (n := n) (by omega) (by omega) (by omega), rfl, ?_⟩
  refine ⟨fun h8 => ?_, fun h8 => ?_⟩
  ·replace h8 := of_decide_eq_true h8
   have hm : 5000 < q ^ n := by
    apply Classical.byContradiction
    intro z
    rw [show cnV q n = q ^ n from if_neg z] at h8
    omega
   exact ⟨rfl, GsV.m hC hm rfl Ext.app⟩
  ·replace h8 := of_decide_eq_false h8
   have hm : ¬ 5000 < q ^ n := fun z => by
    rw [show cnV q n = 5001 from if_pos z] at h8
    omega
   refine .inl ⟨_, _, _, _, get_new, ⟨rfl, by omega⟩, ?_⟩
   refine ⟨_, s_l02Groups_ok B E.2.2.2 hC hm, ?_⟩
   rintro _ G16 ⟨b16, rfl, hE16, hV16⟩
   exact ⟨rfl, GsV.y hC hm rfl (Ext.app.trans hE16) hV16.vs (hV16.mono (show H.length ≤ _ by simp)).fresh⟩

set_option maxHeartbeats 2000000 in
theorem i_GroupLikes_ok (B : Bs P ρ) (E : F_i_GroupLikes P ρ) {H : List Blk} {p n : Int} {f : By} :
  CallR P ρ 401 [.ag [p, n] 522 f] H (GsV H p n f) := by
 refine call_of_q B.fn B.mo E.1 rfl (fun hAr hHp => ?_) rfl
 refine ⟨H.length + 0, rfl, ?_⟩
 refine ⟨_, i_Coalgebra_code_ok B E.2.1 (k := H.length + 0) (p := p) (n := n) (f := f) (L := []) (at_k (i := 0)) VS.nil (by simp), ?_⟩
 rintro _ _ ⟨rfl, rfl⟩
 refine ⟨fun h14 => ?_, fun h14 => ?_⟩
 ·replace h14 := bne_t h14
  have hC : ¬ Cog p n f := fun z => h14 (oc_t ⟨z, fun v hv => absurd hv (by simp)⟩)
  have hz : oc (cgQ p n f []) 1 = 1 := oc_f fun z => hC z.1
  exact ⟨rfl, GsV.n hC (by rw [hz]; rfl) Ext.app⟩
 ·replace h14 := bne_f h14
  have hC : Cog p n f := (oc_0 h14).1
  have hb := AShp.p1 hC.1
  obtain ⟨n, rfl⟩ : ∃ k : Nat, n = (k : Int) := ⟨n.toNat, by omega⟩
  obtain ⟨q, rfl⟩ : ∃ k : Nat, p = (k : Int) := ⟨p.toNat, by omega⟩
  have hq1 : 1 ≤ q := by omega
  have hn8 : n ≤ 8 := by omega
  have hn1 : 1 ≤ n := by omega
  have hp1 : (1 : Int) ≤ q := by omega
  have hp2 : (q : Int) ≤ 256 := by omega
  refine ⟨_, CallOK.at1 (k := H.length + 0) (at_k (i := 0)) (i_Coalgebra_field_ok B E.2.2.1 (p := (q : Int)) (n := (n : Int)) (f := f)) rfl rfl, ?_⟩
  rintro _ _ ⟨rfl, rfl⟩
  refine ⟨H.length + 1, by simp, ?_⟩
  rw [ap2]
  refine ⟨_, _, _, at_k (i := 1), cputs_2, eqBk_rfl, ?_⟩
  rw [app_set]
  refine ⟨_, _, at_k (i := 1), rfl, ?_⟩
  refine ⟨Unit, (fun a1 a5 a18 (i0 : Nat) (x0 : Unit) => [(1, a1), (5, a5), (6, .one (.i .i64 ((q ^ i0 : Nat) : Int))), (18, a18), (19, .one (.i .i64 ((i0 : Nat) : Int)))]) _ _ _ , fun (i0 : Nat) (x0 : Unit) (G0 : List Blk) => (q ^ i0 ≤ 5000 ∧ G0 = H ++ [⟨false, .by [(q : Int), (n : Int)] 522 f⟩, ⟨false, .by [(q : Int), (n : Int)] 2 fun _ => 0⟩]), n, ⟨(), ⟨by simp, rfl⟩, ⟨rfl, rfl, rfl, rfl, rfl, trivial⟩⟩, ?_⟩
  rintro i0 _ G0 hi0 ⟨hq0, rfl⟩
  refine ⟨fun h20 => ?_, fun h20 => ?_⟩
  ·replace h20 := of_decide_eq_true h20
   refine ⟨_, _, at_k (i := 1), rfl, ?_⟩
   have hm : q ^ i0 * q ≤ 5000 * 31 := Nat.mul_le_mul hq0 (by omega)
   refine ⟨((q ^ (i0 + 1) : Nat) : Int), by rw [← Int.natCast_mul, ← Nat.pow_succ]; exact w64_id _ (by rw [Nat.pow_succ]; omega) (by rw [Nat.pow_succ]; omega), ?_⟩
   refine ⟨fun h26 => ?_, fun h26 => ?_⟩
   ·replace h26 := of_decide_eq_true h26
    have hm : 5000 < q ^ n := by
     have := pow_le' hq1 (show i0 + 1 ≤ n by omega)
     omega
    exact ⟨rfl, GsV.m hC hm rfl Ext.app⟩
   ·replace h26 := of_decide_eq_false h26
    refine ⟨((i0 + 1 : Nat) : Int), w64_id _ (by omega) (by omega), ?_⟩
    exact ⟨by omega, (), ⟨by omega, rfl⟩, ⟨rfl, rfl, rfl, rfl, rfl, trivial⟩⟩
  ·replace h20 := of_decide_eq_false h20
   have e0 : n = i0 := by omega
   subst e0
   refine ⟨_, rfl, ?_⟩
   refine ⟨At, (fun a1 a5 a29 (i1 : Nat) (x1 : At) => [(1, a1), (5, a5), (7, .one x1), (29, a29), (30, .one (.i .i64 ((i1 : Nat) : Int)))]) _ _ _ , fun (i1 : Nat) (x1 : At) (G1 : List Blk) => (VW (H.length + 2) G1 x1 (gsM (q : Int) n f i1) ∧ Upto (H.length + 2) (H ++ [⟨false, .by [(q : Int), (n : Int)] 522 f⟩, ⟨false, .by [(q : Int), (n : Int)] 2 fun _ => 0⟩]) G1), q ^ n, ⟨_, ⟨VW.nil (by simp), Ext.app.upto⟩, ⟨rfl, rfl, rfl, rfl, rfl, trivial⟩⟩, ?_⟩
   rintro i1 x1 G1 hi1 ⟨hV0, hU0⟩
   have hb0 := hU0 (H.length + 0) _ (by omega) (at_k (i := 0))
   have hb1 := hU0 (H.length + 1) _ (by omega) (at_k (i := 1))
   have hlG : H.length + 2 ≤ G1.length := by have := lt_of hb1; omega
   have hgl := @gsM_len (q : Int) n f i1
   refine ⟨fun h31 => ?_, fun h31 => ?_⟩
   ·replace h31 := of_decide_eq_true h31
    refine ⟨_, rfl, ?_⟩
    refine ⟨_, _, .by [] 8 (dgS q n i1 0), get_new, cputs_by (by simp) (by omega), ⟨rfl, rfl, fun x _ _ => by rw [dgS_0]; simp [spl]⟩, ?_⟩
    rw [app_set0]
    refine ⟨_, _, app_old hb1, rfl, ?_⟩
    refine ⟨(n : Int) - 1 - ((0 : Nat) : Int), (w64_id ((n : Int) - 1) (by omega) (by omega)).trans (by omega), ?_⟩
    refine ⟨Int × Int, (fun a1 a5 a7 a9 a29 a30 (i2 : Nat) (x2 : Int × Int) => match x2 with | ⟨x2, y2⟩ => [(1, a1), (5, a5), (7, a7), (9, a9), (10, .one (.i .i64 x2)), (11, .one (.i .i64 y2)), (29, a29), (30, a30)]) _ _ _ _ _ _ , fun (i2 : Nat) (x2 : Int × Int) (G2 : List Blk) => match x2 with | ⟨x2, y2⟩ => (x2 = ((i1 / q ^ i2 : Nat) : Int) ∧ y2 = (n : Int) - 1 - (i2 : Nat) ∧ G2 = G1 ++ [⟨false, .by [] 8 (dgS q n i1 i2)⟩]), n, ⟨(_, _), ⟨by simp, rfl, rfl⟩, ⟨rfl, rfl, rfl, rfl, rfl, rfl, rfl, rfl, trivial⟩⟩, ?_⟩
    rintro i2 ⟨x2, y2⟩ G2 hi2 ⟨rfl, hy2, rfl⟩
    refine ⟨fun h39 => ?_, fun h39 => ?_⟩
    ·replace h39 := of_decide_eq_true h39
     have ey : y2 = ((n - 1 - i2 : Nat) : Int) := by omega
     subst ey
     have hd1 : i1 / q ^ i2 ≤ i1 := Nat.div_le_self _ _
     have hd2 : i1 / q ^ i2 / q ≤ i1 / q ^ i2 := Nat.div_le_self _ _
     have hd3 : (0 : Int) ≤ ((i1 / q ^ i2 / q : Nat) : Int) := Int.natCast_nonneg _
     refine ⟨_, _, app_old hb1, rfl, ?_⟩
     refine ⟨by omega, ((i1 / q ^ i2 % q : Nat) : Int), (Int.ofNat_tmod _ _).symm, ?_⟩
     refine ⟨_, _, app_old hb1, rfl, ?_⟩
     refine ⟨by omega, ((i1 / q ^ i2 / q : Nat) : Int), by rw [← Int.ofNat_tdiv]; exact w64_id _ (by omega) (by omega), ?_⟩
     refine ⟨n - 1 - i2, _, rfl, by omega, rfl, ?_⟩
     refine ⟨_, _, _, get_new, cput_u (by simp) (by omega), eqBk_rfl, ?_⟩
     refine ⟨⟨kept1 (app_old hb1) (set_other (app_old hb1) (by omega)), trivial⟩, ?_⟩
     rw [app_set0]
     refine ⟨_, w64_id _ (by omega) (by omega), ?_⟩
     refine ⟨by omega, (_, _), ?_, ⟨rfl, rfl, rfl, rfl, rfl, rfl, rfl, rfl, trivial⟩⟩
     refine ⟨by rw [Nat.pow_succ, Nat.div_div_eq_div_mul], by omega, ?_⟩
     rw [show 0 + (n - 1 - i2) * 1 = n - 1 - i2 by omega, dgS_s (by omega)]
    ·replace h39 := of_decide_eq_false h39
     have e2 : n = i2 := by omega
     subst e2
     refine ⟨_, _, _, _, dgV q n i1, get_new, ⟨by simp, by omega⟩, fun x _ => by rw [dgS_n, Nat.zero_add], ?_⟩
     refine ⟨_, i_Coalgebra_isGroupLike_ok B E.2.2.2 (k := H.length + 0) (p := (q : Int)) (n := n) (f := f) (v := dgV q n i1) (app_old hb0) hp1 hp2 hn8 hC (vp_vec (dgV_vp (by omega) (by omega))), ?_⟩
     rintro _ _ ⟨rfl, rfl⟩
     refine ⟨fun h54 => ?_, fun h54 => ?_⟩
     ·skip
      have hg : GL (q : Int) n f (dgV q n i1) := of_decide_eq_true h54
      refine ⟨_, _, _, _, dgV q n i1, get_new, ⟨by simp, by omega⟩, fun x _ => by rw [dgS_n, Nat.zero_add], ?_⟩
      refine ⟨_, rfl, ?_⟩
      refine ⟨_, vw_app (hV0.ext (Ext.app.trans Ext.app)) VS.one (by simp; omega) (by simp; omega), ?_⟩
      rintro a58 G58 ⟨hv58, hu58⟩
      refine ⟨((i1 + 1 : Nat) : Int), w64_id _ (by omega) (by omega), ?_⟩
      refine ⟨by omega, _, ?_, ⟨rfl, rfl, rfl, rfl, rfl, trivial⟩⟩
      refine ⟨?_, fun k B hk e => hu58 k B hk (app_old (app_old (hU0 k B hk e)))⟩
      rw [gsM_s, if_pos (show GL (q : Int) n f (dgV (q : Int).toNat n i1) from hg)]
      exact hv58
     ·skip
      have hg : ¬ GL (q : Int) n f (dgV q n i1) := of_decide_eq_false h54
      refine ⟨((i1 + 1 : Nat) : Int), w64_id _ (by omega) (by omega), ?_⟩
      refine ⟨by omega, _, ?_, ⟨rfl, rfl, rfl, rfl, rfl, trivial⟩⟩
      refine ⟨?_, fun k B hk e => app_old (hU0 k B hk e)⟩
      rw [gsM_s, if_neg (show ¬ GL (q : Int) n f (dgV (q : Int).toNat n i1) from hg), List.append_nil]
      exact hV0.ext Ext.app
   ·replace h31 := of_decide_eq_false h31
    have e1 : q ^ n = i1 := by omega
    subst e1
    exact ⟨rfl, GsV.y hC (by omega) rfl (Upto.ext Ext.app hU0 (by omega)) hV0.vs (hV0.mono (show H.length ≤ _ by omega)).fresh⟩

end Hf
namespace Hf
open Go Classical
variable {P : Program} {ρ : Nat → FuncId}
theorem ap3 {H : List Blk} {A B C : Blk} : H ++ [A] ++ [B] ++ [C] = H ++ [A, B, C] := by simp
theorem VS.two2 {H : List Blk} {v w g : By} (h : ∀ x, x < 8 → g x = v x) (h' : ∀ x, x < 8 → g (8 + x) = w x) : VS (H ++ [⟨false, .by [] (2 * 8) g⟩]) (.sl H.length 0 2 2) [v, w] := by
 refine .inr ⟨H.length, 0, 2, false, _, _, rfl, get_new, ⟨by omega, by simp⟩, fun i x hi hx => ?_⟩
 have hi : i < 2 := hi
 rcases (show i = 0 ∨ i = 1 by omega) with rfl | rfl
 ·rw [show 0 + 0 * 8 + x = x by omega]; exact h x hx
 ·rw [show 0 + 1 * 8 + x = 8 + x by omega]; exact h' x hx
noncomputable def psC (p n : Int) (f g h : By) : Int := if cgQ p n f [g, h] then (if GL p n.toNat f g ∧ GL p n.toNat f h then 0 else 5) else 1
noncomputable def psX (p n : Int) (f g h : By) : List By := if psC p n f g h = 0 then prK p n.toNat f g h else []
def PsV (H : List Blk) (p n : Int) (f g h : By) (u : Sv) (G : List Blk) : Prop := ∃ b, u = .tup [b, .i .i64 (psC p n f g h)] ∧ Ext H G ∧ VS G b (psX p n f g h)
theorem PsV.e {H G : List Blk} {p n c : Int} {f g h : By} {u : Sv} (e : psC p n f g h = c) (hc : c ≠ 0) (hu : u = .tup [.sn, .i .i64 c]) (hE : Ext H G) : PsV H p n f g h u G :=
 ⟨.sn, by rw [hu, e], hE, by unfold psX; rw [if_neg (by rw [e]; exact hc)]; exact VS.nil⟩
theorem PsV.y {H G : List Blk} {p : Int} {n : Nat} {f g h : By} {u : Sv} {b : At} (e : psC p n f g h = 0) (hu : u = .tup [b, .i .i64 0]) (hE : Ext H G) (hV : VS G b (prK p n f g h)) : PsV H p n f g h u G :=
 ⟨b, by rw [hu, e], hE, by unfold psX; rw [if_pos e]; exact hV⟩
theorem psC_1 {p n : Int} {f g h : By} (hq : ¬ cgQ p n f [g, h]) : psC p n f g h = 1 := if_neg hq
theorem psC_5 {p : Int} {n : Nat} {f g h : By} (hq : cgQ p n f [g, h]) (hz : ¬ (GL p n f g ∧ GL p n f h)) : psC p n f g h = 5 := by
 unfold psC; rw [if_pos hq]; exact if_neg hz
theorem psC_0 {p : Int} {n : Nat} {f g h : By} (hq : cgQ p n f [g, h]) (h1 : GL p n f g) (h2 : GL p n f h) : psC p n f g h = 0 := by
 unfold psC; rw [if_pos hq]; exact if_pos ⟨h1, h2⟩
theorem i_PrimitiveSpace_1_ok (B : Bs P ρ) (E : F_i_PrimitiveSpace_1 P ρ) {H : List Blk} {t c k2 k3 k4 k5 n : Nat} {r2 r3 r4 r5 : Bool} {p p' n' : Int} {f g h q : By} (h2 : H[k2]? = some ⟨r2, .by [p', (n : Int)] 2 q⟩) (h3 : H[k3]? = some ⟨r3, .by [p, n'] 522 f⟩) (h4 : H[k4]? = some ⟨r4, .by [] 8 g⟩) (h5 : H[k5]? = some ⟨r5, .by [] 8 h⟩) (ht : t < n * n) (hn : n ≤ 8) (hc : c < n) :
  CallR P ρ 424 [.i .i64 (t : Int), .i .i64 (c : Int), .pt k2 0, .pt k3 0, .pt k4 0, .pt k5 0] H (fun u G => u = .one (.i .i64 (prI f g h c (t / n) (t % n))) ∧ G = H) := by
 have htd : t / n < n := Nat.div_lt_of_lt_mul ht
 have htm : t % n < n := Nat.mod_lt _ (by omega)
 have htb : t ≤ 64 := Nat.le_trans (Nat.le_of_lt ht) (Nat.mul_le_mul hn hn)
 have hi1 : (0 : Int) ≤ ((t / n : Nat) : Int) := Int.natCast_nonneg _
 have hi2 : (0 : Int) ≤ ((t % n : Nat) : Int) := Int.natCast_nonneg _
 refine call_of_q B.fn B.mo E rfl (fun hAr hHp => ?_) (by simp [At.lt, lt_of h2, lt_of h3, lt_of h4, lt_of h5])
 refine ⟨_, _, h2, rfl, ?_⟩
 refine ⟨by omega, ((t / n : Nat) : Int), by rw [← Int.ofNat_tdiv]; exact w64_id _ (by omega) (by omega), ?_⟩
 refine ⟨_, _, h2, rfl, ?_⟩
 refine ⟨by omega, ((t % n : Nat) : Int), (Int.ofNat_tmod _ _).symm, ?_⟩
 refine ⟨c, _, rfl, by omega, rfl, ?_⟩
 refine ⟨t / n, _, rfl, by omega, rfl, ?_⟩
 refine ⟨t % n, _, rfl, by omega, rfl, ?_⟩
 refine ⟨_, _, h3, cat_bq (10 + c * 64 + t / n * 8 + t % n) (by omega) (by simp <;> omega) (by omega), ?_⟩
 have hx1 := toNat_le (f (10 + c * 64 + t / n * 8 + t % n))
 have hx2 := toNat_le (g (t % n))
 have hx3 := toNat_le (h (t / n))
 refine ⟨fun h31 => ?_, fun h31 => ?_⟩
 ·replace h31 := eq_of_beq h31
  have e31 : t / n = c := by omega
  refine ⟨t % n, _, rfl, by omega, rfl, ?_⟩
  refine ⟨_, _, h4, cat_bq (t % n) (by omega) (by simp) (by omega), ?_⟩
  refine ⟨_, w64_id _ (by omega) (by omega), ?_⟩
  refine ⟨fun h40 => ?_, fun h40 => ?_⟩
  ·replace h40 := eq_of_beq h40
   have e40 : t % n = c := by omega
   refine ⟨t / n, _, rfl, by omega, rfl, ?_⟩
   refine ⟨_, _, h5, cat_bq (t / n) (by omega) (by simp) (by omega), ?_⟩
   refine ⟨_, w64_id _ (by omega) (by omega), ?_⟩
   refine ⟨rfl, ?_, rfl⟩
   rw [show prI f g h c (t / n) (t % n) = bz f (10 + c * 64 + t / n * 8 + t % n) - bz g (t % n) - bz h (t / n) by unfold prI; rw [if_pos e31, if_pos e40]]; rfl
  ·replace h40 := ne_of_beq_false h40
   have e40 : ¬ t % n = c := by omega
   refine ⟨rfl, ?_, rfl⟩
   rw [show prI f g h c (t / n) (t % n) = bz f (10 + c * 64 + t / n * 8 + t % n) - bz g (t % n) by unfold prI; rw [if_pos e31, if_neg e40, Int.sub_zero]]; rfl
 ·replace h31 := ne_of_beq_false h31
  have e31 : ¬ t / n = c := by omega
  refine ⟨fun h40 => ?_, fun h40 => ?_⟩
  ·replace h40 := eq_of_beq h40
   have e40 : t % n = c := by omega
   refine ⟨t / n, _, rfl, by omega, rfl, ?_⟩
   refine ⟨_, _, h5, cat_bq (t / n) (by omega) (by simp) (by omega), ?_⟩
   refine ⟨_, w64_id _ (by omega) (by omega), ?_⟩
   refine ⟨rfl, ?_, rfl⟩
   rw [show prI f g h c (t / n) (t % n) = bz f (10 + c * 64 + t / n * 8 + t % n) - bz h (t / n) by unfold prI; rw [if_neg e31, if_pos e40, Int.sub_zero]]; rfl
  ·replace h40 := ne_of_beq_false h40
   have e40 : ¬ t % n = c := by omega
   refine ⟨rfl, ?_, rfl⟩
   rw [show prI f g h c (t / n) (t % n) = bz f (10 + c * 64 + t / n * 8 + t % n) by unfold prI; rw [if_neg e31, if_neg e40, Int.sub_zero, Int.sub_zero]]; rfl

set_option maxHeartbeats 1000000 in
theorem i_PrimitiveSpace_ok (B : Bs P ρ) (E : F_i_PrimitiveSpace P ρ) {H : List Blk} {p n : Int} {f g h : By} :
  CallR P ρ 405 [.ag [p, n] 522 f, .ag [] 8 g, .ag [] 8 h] H (PsV H p n f g h) := by
 refine call_of_q B.fn B.mo E.1 rfl (fun hAr hHp => ?_) rfl
 refine ⟨H.length + 0, rfl, ?_⟩
 refine ⟨H.length + 1, by simp, ?_⟩
 refine ⟨H.length + 2, by simp, ?_⟩
 rw [ap3]
 refine ⟨_, _, _, _, g, at_k (i := 1), ⟨by simp, by omega⟩, fun x _ => congrArg _ (Nat.zero_add x).symm, ?_⟩
 refine ⟨_, _, _, _, h, at_k (i := 2), ⟨by simp, by omega⟩, fun x _ => congrArg _ (Nat.zero_add x).symm, ?_⟩
 refine ⟨_, rfl, ?_⟩
 refine ⟨_, i_Coalgebra_code_ok B E.2.1 (k := H.length + 0) (p := p) (n := n) (f := f) (L := [g, h]) (app_old (at_k (i := 0))) (VS.two2 (fun x hx => by simp only [spl]; rw [if_neg (by omega), if_pos (by omega)]; exact congrArg _ (by omega)) fun x hx => by simp only [spl]; rw [if_pos (by omega)]; exact congrArg _ (by omega)) (by simp), ?_⟩
 rintro _ _ ⟨rfl, rfl⟩
 refine ⟨fun h17 => ?_, fun h17 => ?_⟩
 ·replace h17 := bne_t h17
  have hq : ¬ cgQ p n f [g, h] := fun z => h17 (oc_t z)
  iterate 4 refine brB_t ?_
  refine ⟨_, i_unless_ok B E.2.2.2.1 , rfl, ?_⟩
  refine ⟨_, rfl, ?_⟩
  refine ⟨_, i_first2_at B E.2.2.2.2.1 get_new, ?_⟩
  rintro _ _ ⟨rfl, rfl⟩
  rw [oc_f hq, mz_hd (by decide)]
  refine ⟨fun h29 => ?_, fun h29 => ?_⟩
  ·replace h29 := bne_t h29
   exact ⟨rfl, PsV.e (psC_1 hq) (by decide) rfl ((Ext.app.trans Ext.app).trans Ext.app)⟩
  ·replace h29 := bne_f h29
   exact absurd h29 (by decide)
 ·replace h17 := bne_f h17
  have hq : cgQ p n f [g, h] := oc_0 h17
  have hb := AShp.p1 hq.1.1
  have hC := hq.1
  obtain ⟨n, rfl⟩ : ∃ k : Nat, n = (k : Int) := ⟨n.toNat, by omega⟩
  have hn : n ≤ 8 := by omega
  have hnn : n * n ≤ 64 := Nat.mul_le_mul hn hn
  refine ⟨_, _, _, _, g, app_old (at_k (i := 1)), ⟨by simp, by omega⟩, fun x _ => congrArg _ (Nat.zero_add x).symm, ?_⟩
  refine brB_f ?_
  refine ⟨_, i_Coalgebra_isGroupLike_ok B E.2.2.1 (k := H.length + 0) (p := p) (n := n) (f := f) (v := g) (app_old (at_k (i := 0))) (by omega) (by omega) hn hC (hq.2 g (by simp)), ?_⟩
  rintro _ _ ⟨rfl, rfl⟩
  refine brB_f ?_
  refine ⟨fun h20 => ?_, fun h20 => ?_⟩
  ·skip
   refine ⟨_, _, _, _, h, app_old (at_k (i := 2)), ⟨by simp, by omega⟩, fun x _ => congrArg _ (Nat.zero_add x).symm, ?_⟩
   refine brB_t ?_
   refine ⟨_, i_Coalgebra_isGroupLike_ok B E.2.2.1 (k := H.length + 0) (p := p) (n := n) (f := f) (v := h) (app_old (at_k (i := 0))) (by omega) (by omega) hn hC (hq.2 h (by simp)), ?_⟩
   rintro _ _ ⟨rfl, rfl⟩
   refine brB_f ?_
   refine brB_t ?_
   refine brB_f ?_
   refine ⟨_, i_unless_ok B E.2.2.2.1 , rfl, ?_⟩
   refine ⟨_, rfl, ?_⟩
   refine ⟨_, i_first2_at B E.2.2.2.2.1 get_new, ?_⟩
   rintro _ _ ⟨rfl, rfl⟩
   rw [oc_t hq, mz_tl]
   refine ⟨fun h29 => ?_, fun h29 => ?_⟩
   ·replace h29 := bne_t h29
    have hz : ¬ GL p n f h := fun z => h29 (by rw [decide_eq_true z]; rfl)
    exact ⟨rfl, PsV.e (psC_5 hq fun z => hz z.2) (by decide) (by rw [decide_eq_false hz]; rfl) ((Ext.app.trans Ext.app).trans Ext.app)⟩
   ·replace h29 := bne_f h29
    have hGh : GL p n f h := Classical.byContradiction fun z => by rw [decide_eq_false z] at h29; cases h29
    refine ⟨_, CallOK.at1 (k := H.length + 0) (app_old (app_old (at_k (i := 0)))) (i_Coalgebra_field_ok B E.2.2.2.2.2.1 (p := p) (n := (n : Int)) (f := f)) rfl rfl, ?_⟩
    rintro _ _ ⟨rfl, rfl⟩
    refine ⟨_, rfl, ?_⟩
    refine ⟨_, _, _, get_new, cputs_2, eqBk_rfl, ?_⟩
    rw [app_set0]
    refine .inl ⟨_, _, _, _, get_new, ⟨rfl, by omega⟩, ?_⟩
    refine ⟨_, _, get_new, rfl, ?_⟩
    refine ⟨_, _, get_new, rfl, ?_⟩
    refine ⟨((n * n : Nat) : Int), (by rw [← Int.natCast_mul]; exact w64_id _ (by omega) (by omega)), ?_⟩
    refine ⟨_, i_kernel_ok B E.2.2.2.2.2.2.2 (p := p) (n := n) (m := n * n) (co := fun t i => prI f g h i (t / n) (t % n)) hC.1.1.1 hn (by omega) (by simp [At.lt] <;> omega) (fun G i j hE hi hj => i_PrimitiveSpace_1_ok B E.2.2.2.2.2.2.1 (hE _ _ get_new) (hE _ _ (app_old (app_old (app_old (at_k (i := 0)))))) (hE _ _ (app_old (app_old (app_old (at_k (i := 1)))))) (hE _ _ (app_old (app_old (app_old (at_k (i := 2)))))) hi hn hj), ?_⟩
    rintro _ G39 ⟨b39, rfl, hE39, hV39⟩
    exact ⟨rfl, PsV.y (psC_0 hq (of_decide_eq_true h20) hGh) rfl ((((Ext.app.trans Ext.app).trans Ext.app).trans Ext.app).trans hE39) hV39.vs⟩
  ·skip
   iterate 4 refine brB_f ?_
   refine ⟨_, i_unless_ok B E.2.2.2.1 , rfl, ?_⟩
   refine ⟨_, rfl, ?_⟩
   refine ⟨_, i_first2_at B E.2.2.2.2.1 get_new, ?_⟩
   rintro _ _ ⟨rfl, rfl⟩
   rw [oc_t hq, mz_tl]
   refine ⟨fun h29 => ?_, fun h29 => ?_⟩
   ·replace h29 := bne_t h29
    exact ⟨rfl, PsV.e (psC_5 hq fun z => by rw [decide_eq_true z.1] at h20; cases h20) (by decide) rfl ((Ext.app.trans Ext.app).trans Ext.app)⟩
   ·replace h29 := bne_f h29
    exact absurd h29 (by decide)

set_option maxHeartbeats 2000000 in
theorem s_l02Primitive_ok (B : Bs P ρ) (E : F_s_l02Primitive P ρ) {H : List Blk} {p : Int} {n : Nat} {f g h : By} (hC : Cog p n f) :
  CallR P ρ 423 [.ag [p, (n : Int)] 522 f, .ag [] 8 g, .ag [] 8 h] H (fun u G => ∃ b, u = .one b ∧ Ext H G ∧ VS G b (prK p n f g h)) := by
 have hb := AShp.p1 hC.1
 have hn : n ≤ 8 := by omega
 refine call_of_q B.fn B.mo E.1 rfl (fun hAr hHp => ?_) rfl
 refine ⟨H.length + 0, rfl, ?_⟩
 refine ⟨H.length + 1, by simp, ?_⟩
 refine ⟨H.length + 2, by simp, ?_⟩
 rw [ap3]
 refine ⟨_, rfl, ?_⟩
 refine ⟨At, (fun a3 a4 a5 (i0 : Nat) (x0 : At) => [(3, a3), (4, a4), (5, a5), (7, .one x0), (8, .one (.i .i64 ((i0 : Nat) : Int)))]) _ _ _ , fun (i0 : Nat) (x0 : At) (G0 : List Blk) => (VW (H.length + 3) G0 x0 (eqnL p n (i0 * n) fun t i => prI f g h i (t / n) (t % n)) ∧ Upto (H.length + 3) (H ++ [⟨false, .by [p, (n : Int)] 522 f⟩, ⟨false, .by [] 8 g⟩, ⟨false, .by [] 8 h⟩]) G0), n, ⟨_, ?_, ⟨rfl, rfl, rfl, rfl, rfl, trivial⟩⟩, ?_⟩
 ·refine ⟨?_, Ext.app.upto⟩
  rw [Nat.zero_mul]
  exact VW.nil (by simp)
 rintro i0 x0 G0 hi0 ⟨hV0, hU0⟩
 have hb0 := hU0 (H.length + 0) _ (by omega) (at_k (i := 0))
 refine ⟨_, _, hb0, rfl, ?_⟩
 refine ⟨fun h17 => ?_, fun h17 => ?_⟩
 ·replace h17 := of_decide_eq_true h17
  refine ⟨At, (fun a3 a4 a5 a8 (i1 : Nat) (x1 : At) => [(3, a3), (4, a4), (5, a5), (7, .one x1), (8, a8), (9, .one (.i .i64 ((i1 : Nat) : Int)))]) _ _ _ _ , fun (i1 : Nat) (x1 : At) (G1 : List Blk) => (VW (H.length + 3) G1 x1 (eqnL p n (i0 * n + i1) fun t i => prI f g h i (t / n) (t % n)) ∧ Upto (H.length + 3) (H ++ [⟨false, .by [p, (n : Int)] 522 f⟩, ⟨false, .by [] 8 g⟩, ⟨false, .by [] 8 h⟩]) G1), n, ⟨_, ⟨hV0, hU0⟩, ⟨rfl, rfl, rfl, rfl, rfl, rfl, trivial⟩⟩, ?_⟩
  rintro i1 x1 G1 hi1 ⟨hV1, hU1⟩
  have hc0 := hU1 (H.length + 0) _ (by omega) (at_k (i := 0))
  have hc1 := hU1 (H.length + 1) _ (by omega) (at_k (i := 1))
  have hc2 := hU1 (H.length + 2) _ (by omega) (at_k (i := 2))
  have hlG : H.length + 3 ≤ G1.length := by have := lt_of hc2; omega
  refine ⟨_, _, hc0, rfl, ?_⟩
  refine ⟨fun h23 => ?_, fun h23 => ?_⟩
  ·replace h23 := of_decide_eq_true h23
   refine ⟨_, rfl, ?_⟩
   refine ⟨_, _, .by [] 8 (vec 0 p fun i => prI f g h i i0 i1), get_new, cputs_by (by simp) (by omega), ⟨rfl, rfl, fun x _ _ => by simp [spl, vec]⟩, ?_⟩
   rw [app_set0]
   refine ⟨Unit, (fun a3 a4 a5 a7 a8 a9 a10 (i2 : Nat) (x2 : Unit) => [(3, a3), (4, a4), (5, a5), (7, a7), (8, a8), (9, a9), (10, a10), (11, .one (.i .i64 ((i2 : Nat) : Int)))]) _ _ _ _ _ _ _ , fun (i2 : Nat) (x2 : Unit) (G2 : List Blk) => (G2 = G1 ++ [⟨false, .by [] 8 (vec i2 p fun i => prI f g h i i0 i1)⟩]), n, ⟨(), rfl, ⟨rfl, rfl, rfl, rfl, rfl, rfl, rfl, rfl, trivial⟩⟩, ?_⟩
   rintro i2 _ G2 hi2 rfl
   refine ⟨_, _, app_old hc0, rfl, ?_⟩
   refine ⟨fun h30 => ?_, fun h30 => ?_⟩
   ·replace h30 := of_decide_eq_true h30
    refine ⟨i2, _, rfl, by omega, rfl, ?_⟩
    refine ⟨i0, _, rfl, by omega, rfl, ?_⟩
    refine ⟨i1, _, rfl, by omega, rfl, ?_⟩
    refine ⟨_, _, app_old hc0, cat_bq (10 + i2 * 64 + i0 * 8 + i1) (by omega) (by simp <;> omega) (by omega), ?_⟩
    have hx1 := toNat_le (f (10 + i2 * 64 + i0 * 8 + i1))
    have hx2 := toNat_le (g i1)
    have hx3 := toNat_le (h i0)
    refine ⟨fun h44 => ?_, fun h44 => ?_⟩
    ·replace h44 := eq_of_beq h44
     have e44 : i0 = i2 := by omega
     refine ⟨i1, _, rfl, by omega, rfl, ?_⟩
     refine ⟨_, _, app_old hc1, cat_bq i1 (by omega) (by simp) (by omega), ?_⟩
     refine ⟨_, w64_id _ (by omega) (by omega), ?_⟩
     refine ⟨fun h53 => ?_, fun h53 => ?_⟩
     ·replace h53 := eq_of_beq h53
      have e53 : i1 = i2 := by omega
      refine ⟨i0, _, rfl, by omega, rfl, ?_⟩
      refine ⟨_, _, app_old hc2, cat_bq i0 (by omega) (by simp) (by omega), ?_⟩
      refine ⟨_, w64_id _ (by omega) (by omega), ?_⟩
      refine ⟨_, _, app_old hc0, rfl, ?_⟩
      refine ⟨_, s_l01Mod_ok B E.2.1 (p := p) (by omega) (by omega), rfl, ?_⟩
      refine ⟨i2, _, rfl, by omega, rfl, ?_⟩
      refine ⟨_, _, _, get_new, cput_u (by simp) (by omega), eqBk_rfl, ?_⟩
      refine ⟨((i2 + 1 : Nat) : Int), w64_id _ (by omega) (by omega), ?_⟩
      refine ⟨by omega, (), ?_, ⟨rfl, rfl, rfl, rfl, rfl, rfl, rfl, rfl, trivial⟩⟩
      rw [app_set0, show 0 + i2 * 1 = i2 by omega, upd_vec (by rw [show prI f g h i2 i0 i1 = bz f (10 + i2 * 64 + i0 * 8 + i1) - bz g i1 - bz h i0 by unfold prI; rw [if_pos e44, if_pos e53]]; rfl)]
     ·replace h53 := ne_of_beq_false h53
      have e53 : ¬ i1 = i2 := by omega
      refine ⟨_, _, app_old hc0, rfl, ?_⟩
      refine ⟨_, s_l01Mod_ok B E.2.1 (p := p) (by omega) (by omega), rfl, ?_⟩
      refine ⟨i2, _, rfl, by omega, rfl, ?_⟩
      refine ⟨_, _, _, get_new, cput_u (by simp) (by omega), eqBk_rfl, ?_⟩
      refine ⟨((i2 + 1 : Nat) : Int), w64_id _ (by omega) (by omega), ?_⟩
      refine ⟨by omega, (), ?_, ⟨rfl, rfl, rfl, rfl, rfl, rfl, rfl, rfl, trivial⟩⟩
      rw [app_set0, show 0 + i2 * 1 = i2 by omega, upd_vec (by rw [show prI f g h i2 i0 i1 = bz f (10 + i2 * 64 + i0 * 8 + i1) - bz g i1 by unfold prI; rw [if_pos e44, if_neg e53, Int.sub_zero]]; rfl)]
    ·replace h44 := ne_of_beq_false h44
     have e44 : ¬ i0 = i2 := by omega
     refine ⟨fun h53 => ?_, fun h53 => ?_⟩
     ·replace h53 := eq_of_beq h53
      have e53 : i1 = i2 := by omega
      refine ⟨i0, _, rfl, by omega, rfl, ?_⟩
      refine ⟨_, _, app_old hc2, cat_bq i0 (by omega) (by simp) (by omega), ?_⟩
      refine ⟨_, w64_id _ (by omega) (by omega), ?_⟩
      refine ⟨_, _, app_old hc0, rfl, ?_⟩
      refine ⟨_, s_l01Mod_ok B E.2.1 (p := p) (by omega) (by omega), rfl, ?_⟩
      refine ⟨i2, _, rfl, by omega, rfl, ?_⟩
      refine ⟨_, _, _, get_new, cput_u (by simp) (by omega), eqBk_rfl, ?_⟩
      refine ⟨((i2 + 1 : Nat) : Int), w64_id _ (by omega) (by omega), ?_⟩
      refine ⟨by omega, (), ?_, ⟨rfl, rfl, rfl, rfl, rfl, rfl, rfl, rfl, trivial⟩⟩
      rw [app_set0, show 0 + i2 * 1 = i2 by omega, upd_vec (by rw [show prI f g h i2 i0 i1 = bz f (10 + i2 * 64 + i0 * 8 + i1) - bz h i0 by unfold prI; rw [if_neg e44, if_pos e53, Int.sub_zero]]; rfl)]
     ·replace h53 := ne_of_beq_false h53
      have e53 : ¬ i1 = i2 := by omega
      refine ⟨_, _, app_old hc0, rfl, ?_⟩
      refine ⟨_, s_l01Mod_ok B E.2.1 (p := p) (by omega) (by omega), rfl, ?_⟩
      refine ⟨i2, _, rfl, by omega, rfl, ?_⟩
      refine ⟨_, _, _, get_new, cput_u (by simp) (by omega), eqBk_rfl, ?_⟩
      refine ⟨((i2 + 1 : Nat) : Int), w64_id _ (by omega) (by omega), ?_⟩
      refine ⟨by omega, (), ?_, ⟨rfl, rfl, rfl, rfl, rfl, rfl, rfl, rfl, trivial⟩⟩
      rw [app_set0, show 0 + i2 * 1 = i2 by omega, upd_vec (by rw [show prI f g h i2 i0 i1 = bz f (10 + i2 * 64 + i0 * 8 + i1) by unfold prI; rw [if_neg e44, if_neg e53, Int.sub_zero, Int.sub_zero]]; rfl)]
   ·replace h30 := of_decide_eq_false h30
    have e2 : n = i2 := by omega
    subst e2
    refine ⟨_, _, _, _, vec n p fun i => prI f g h i i0 i1, get_new, ⟨by simp, by omega⟩, fun x _ => congrArg _ (Nat.zero_add x).symm, ?_⟩
    refine ⟨_, rfl, ?_⟩
    have hm1 : (i0 * n + i1) / n = i0 := by rw [Nat.mul_comm, Nat.mul_add_div (by omega), Nat.div_eq_of_lt (by omega), Nat.add_zero]
    have hm2 : (i0 * n + i1) % n = i1 := by rw [Nat.mul_comm, Nat.mul_add_mod, Nat.mod_eq_of_lt (by omega)]
    have hm3 : i0 * n ≤ 8 * 8 := Nat.mul_le_mul (by omega) hn
    refine ⟨_, vw_app (hV1.ext (Ext.app.trans Ext.app)) VS.one (by simp [eqnL]; omega) (by simp; omega), ?_⟩
    rintro a69 G69 ⟨hv69, hu69⟩
    refine ⟨((i1 + 1 : Nat) : Int), w64_id _ (by omega) (by omega), ?_⟩
    refine ⟨by omega, _, ?_, ⟨rfl, rfl, rfl, rfl, rfl, rfl, trivial⟩⟩
    refine ⟨?_, fun k B hk e => hu69 k B hk (app_old (app_old (hU1 k B hk e)))⟩
    rw [← Nat.add_assoc, eqnL_succ]
    dsimp only
    rw [hm1, hm2]
    exact hv69
  ·replace h23 := of_decide_eq_false h23
   have e1 : n = i1 := by omega
   subst e1
   refine ⟨((i0 + 1 : Nat) : Int), w64_id _ (by omega) (by omega), ?_⟩
   refine ⟨by omega, _, ?_, ⟨rfl, rfl, rfl, rfl, rfl, trivial⟩⟩
   refine ⟨?_, hU1⟩
   rw [Nat.add_mul, Nat.one_mul]
   exact hV1
 ·replace h17 := of_decide_eq_false h17
  have e0 : n = i0 := by omega
  subst e0
  refine ⟨_, _, hb0, rfl, ?_⟩
  refine ⟨_, _, hb0, rfl, ?_⟩
  have hm3 : n * n ≤ 8 * 8 := Nat.mul_le_mul hn hn
  refine ⟨_, s_l02Null_ok B E.2.2 (p := p) (n := n) hC.1.1.1 hn hV0.vs (fun v hv => (eqnL_vp (by omega) (by omega) v hv).mono hn) (by simp [eqnL]; omega), ?_⟩
  rintro _ G75 ⟨b75, rfl, hE75, hV75⟩
  exact ⟨rfl, b75, rfl, (Upto.ext Ext.app hU0 (by omega)).trans hE75, hV75⟩

set_option maxHeartbeats 1000000 in
theorem s_PrimitiveSpace_ok (B : Bs P ρ) (E : F_s_PrimitiveSpace P ρ) {H : List Blk} {p n : Int} {f g h : By} :
  CallR P ρ 404 [.ag [p, n] 522 f, .ag [] 8 g, .ag [] 8 h] H (PsV H p n f g h) := by
 refine call_of_q B.fn B.mo E.1 rfl (fun hAr hHp => ?_) rfl
 refine ⟨H.length + 0, rfl, ?_⟩
 refine ⟨H.length + 1, by simp, ?_⟩
 refine ⟨H.length + 2, by simp, ?_⟩
 rw [ap3]
 refine .inl ⟨_, _, _, _, at_k (i := 0), ⟨rfl, by omega⟩, ?_⟩
 refine ⟨_, _, _, _, g, at_k (i := 1), ⟨by simp, by omega⟩, fun x _ => congrArg _ (Nat.zero_add x).symm, ?_⟩
 refine ⟨_, _, _, _, h, at_k (i := 2), ⟨by simp, by omega⟩, fun x _ => congrArg _ (Nat.zero_add x).symm, ?_⟩
 refine ⟨_, rfl, ?_⟩
 refine ⟨_, s_l02Code_ok B E.2.1 (p := p) (n := n) (f := f) (L := [g, h]) (VS.two2 (fun x hx => by simp only [spl]; rw [if_neg (by omega), if_pos (by omega)]; exact congrArg _ (by omega)) fun x hx => by simp only [spl]; rw [if_pos (by omega)]; exact congrArg _ (by omega)) (by simp), ?_⟩
 rintro _ _ ⟨rfl, rfl⟩
 refine ⟨fun h15 => ?_, fun h15 => ?_⟩
 ·replace h15 := bne_t h15
  have hq : ¬ cgQ p n f [g, h] := fun z => h15 (oc_t z)
  first
   | exact ⟨rfl, PsV.e (psC_1 hq) (by decide) (by rw [oc_f hq]; rfl) (Ext.app.trans Ext.app)⟩
   | exact ⟨rfl, PsV.e (psC_5 hq hz) (by decide) rfl (Ext.app.trans Ext.app)⟩
   | exact ⟨rfl, PsV.y (psC_0 hq hG hG2) rfl ((Ext.app.trans Ext.app).trans hE30) hV30⟩
 ·replace h15 := bne_f h15
  have hq : cgQ p n f [g, h] := oc_0 h15
  have hb := AShp.p1 hq.1.1
  have hC := hq.1
  obtain ⟨n, rfl⟩ : ∃ k : Nat, n = (k : Int) := ⟨n.toNat, by omega⟩
  have hn : n ≤ 8 := by omega
  refine .inl ⟨_, _, _, _, app_old (at_k (i := 0)), ⟨rfl, by omega⟩, ?_⟩
  refine ⟨_, _, _, _, g, app_old (at_k (i := 1)), ⟨by simp, by omega⟩, fun x _ => congrArg _ (Nat.zero_add x).symm, ?_⟩
  refine ⟨_, s_l02Group_ok B E.2.2.1 (p := p) (n := n) (f := f) (v := g) (by omega) (by omega) hn hC, rfl, ?_⟩
  refine ⟨fun h21 => ?_, fun h21 => ?_⟩
  ·skip
   have hz : ¬ (GL p n f g ∧ GL p n f h) := fun z => by rw [decide_eq_true z.1] at h21; cases h21
   iterate 5 refine brB_t ?_
   first
    | exact ⟨rfl, PsV.e (psC_1 hq) (by decide) (by rw [oc_f hq]; rfl) (Ext.app.trans Ext.app)⟩
    | exact ⟨rfl, PsV.e (psC_5 hq hz) (by decide) rfl (Ext.app.trans Ext.app)⟩
    | exact ⟨rfl, PsV.y (psC_0 hq hG hG2) rfl ((Ext.app.trans Ext.app).trans hE30) hV30⟩
  ·skip
   have hG : GL p n f g := by simpa using h21
   refine .inl ⟨_, _, _, _, app_old (at_k (i := 0)), ⟨rfl, by omega⟩, ?_⟩
   refine brB_f ?_
   refine ⟨_, _, _, _, h, app_old (at_k (i := 2)), ⟨by simp, by omega⟩, fun x _ => congrArg _ (Nat.zero_add x).symm, ?_⟩
   refine brB_f ?_
   refine ⟨_, s_l02Group_ok B E.2.2.1 (p := p) (n := n) (f := f) (v := h) (by omega) (by omega) hn hC, rfl, ?_⟩
   iterate 2 refine brB_f ?_
   refine ⟨fun h26 => ?_, fun h26 => ?_⟩
   ·skip
    have hz : ¬ (GL p n f g ∧ GL p n f h) := fun z => by rw [decide_eq_true z.2] at h26; cases h26
    first
     | exact ⟨rfl, PsV.e (psC_1 hq) (by decide) (by rw [oc_f hq]; rfl) (Ext.app.trans Ext.app)⟩
     | exact ⟨rfl, PsV.e (psC_5 hq hz) (by decide) rfl (Ext.app.trans Ext.app)⟩
     | exact ⟨rfl, PsV.y (psC_0 hq hG hG2) rfl ((Ext.app.trans Ext.app).trans hE30) hV30⟩
   ·skip
    have hG2 : GL p n f h := by simpa using h26
    refine .inl ⟨_, _, _, _, app_old (at_k (i := 0)), ⟨rfl, by omega⟩, ?_⟩
    refine ⟨_, _, _, _, g, app_old (at_k (i := 1)), ⟨by simp, by omega⟩, fun x _ => congrArg _ (Nat.zero_add x).symm, ?_⟩
    refine ⟨_, _, _, _, h, app_old (at_k (i := 2)), ⟨by simp, by omega⟩, fun x _ => congrArg _ (Nat.zero_add x).symm, ?_⟩
    refine ⟨_, s_l02Primitive_ok B E.2.2.2 hC, ?_⟩
    rintro _ G30 ⟨b30, rfl, hE30, hV30⟩
    first
     | exact ⟨rfl, PsV.e (psC_1 hq) (by decide) (by rw [oc_f hq]; rfl) (Ext.app.trans Ext.app)⟩
     | exact ⟨rfl, PsV.e (psC_5 hq hz) (by decide) rfl (Ext.app.trans Ext.app)⟩
     | exact ⟨rfl, PsV.y (psC_0 hq hG hG2) rfl ((Ext.app.trans Ext.app).trans hE30) hV30⟩

end Hf
namespace Hf
open Go Classical
variable {P : Program} {ρ : Nat → FuncId}
theorem VW.nil' {m : Nat} {H : List Blk} {k : Nat} {f : By} (h : H[k]? = some ⟨false, .by [] (0 * 8) f⟩) (hm : m ≤ k) : VW m H (.sl k 0 0 0) [] :=
 ⟨k, 0, 0, _, f, rfl, h, ⟨by omega, by simp, hm⟩, fun i x h => by simp at h⟩
/-- the columns of the rows of the first m -/
def lsP (p : Int) (n : Nat) (f v : By) (m : Nat) : List By := (List.range m).flatMap fun j => (List.range n).map fun l => ccC p n f (cpR p f v n j) l
theorem lsP_s {p : Int} {n m : Nat} {f v : By} : lsP p n f v (m + 1) = lsP p n f v m ++ (List.range n).map fun l => ccC p n f (cpR p f v n m) l := by
 unfold lsP; rw [List.range_succ, List.flatMap_append]; simp
theorem lsP_len {p : Int} {n m : Nat} {f v : By} : (lsP p n f v m).length = m * n := by
  induction m with
  | zero => simp [lsP]
  | succ m ih => rw [lsP_s, List.length_append, ih, Nat.add_mul]; simp
theorem cp_row {p : Int} {n : Nat} {f v : By} {j x : Nat} (hj : j < 8) (hx : x < 8) : cpF p n f v (j * 8 + x) = cpR p f v n j x := by
 unfold cpF; rw [if_pos (by omega), show (j * 8 + x) / 8 = j by omega, show (j * 8 + x) % 8 = x by omega]
theorem cp_col {p : Int} {n : Nat} {f v : By} {l x : Nat} (hl : l < 8) (hx : x < 8) : cpF p n f v (x * 8 + l) = ccC p n f v l x := by
 rw [cp_row hx hl]
 unfold cpR ccC cmF vec
 rw [if_pos hl, if_pos hx]
 rfl
theorem getD_map {n i : Nat} {F : Nat → By} (h : i < n) : ((List.range n).map F).getD i z0 = F i := by
 simp [List.getD_eq_getElem?_getD, h]
noncomputable def lsX (p n : Int) (f v : By) : List By := if cgQ p n f [v] then redL p (lsL p n.toNat f v) else []
def LsV (H : List Blk) (p n : Int) (f v : By) (u : Sv) (G : List Blk) : Prop := ∃ b, u = .tup [b, .i .i64 (oc (cgQ p n f [v]) 1)] ∧ Ext H G ∧ VS G b (lsX p n f v)
theorem LsV.n {H G : List Blk} {p n : Int} {f v : By} {u : Sv} (h : ¬ cgQ p n f [v]) (hu : u = .tup [.sn, .i .i64 1]) (hE : Ext H G) : LsV H p n f v u G :=
 ⟨.sn, by rw [hu, oc_f h], hE, by unfold lsX; rw [if_neg h]; exact VS.nil⟩
theorem LsV.y {H G : List Blk} {p : Int} {n : Nat} {f v : By} {u : Sv} {b : At} (h : cgQ p n f [v]) (hu : u = .tup [b, .i .i64 0]) (hE : Ext H G) (hV : VS G b (redL p (lsL p n f v))) : LsV H p n f v u G :=
 ⟨b, by rw [hu, oc_t h], hE, by unfold lsX; rw [if_pos h]; exact hV⟩
set_option maxHeartbeats 2000000 in
theorem i_LeastSubcoalgebra_ok (B : Bs P ρ) (E : F_i_LeastSubcoalgebra P ρ) {H : List Blk} {p n : Int} {f v : By} :
  CallR P ρ 408 [.ag [p, n] 522 f, .ag [] 8 v] H (LsV H p n f v) := by
 refine call_of_q B.fn B.mo E.1 rfl (fun hAr hHp => ?_) rfl
 refine ⟨H.length + 0, rfl, ?_⟩
 refine ⟨H.length + 1, by simp, ?_⟩
 rw [ap2]
 refine ⟨_, _, _, _, v, at_k (i := 1), ⟨by simp, by omega⟩, fun x _ => congrArg _ (Nat.zero_add x).symm, ?_⟩
 refine ⟨H.length + 2, by simp, ?_⟩
 rw [as1]
 refine ⟨_, i_Coalgebra_code_ok B E.2.1 (k := H.length + 0) (p := p) (n := n) (f := f) (L := [v]) (at_k (i := 0)) (VS.at8 (at_k (i := 2)) (Nat.le_refl 8) fun x hx => by simp [spl, hx]) (by simp), ?_⟩
 rintro _ _ ⟨rfl, rfl⟩
 refine ⟨fun h17 => ?_, fun h17 => ?_⟩
 ·replace h17 := bne_t h17
  have hq : ¬ cgQ p n f [v] := fun z => h17 (oc_t z)
  exact ⟨rfl, LsV.n hq (by rw [oc_f hq]; rfl) Ext.app⟩
 ·replace h17 := bne_f h17
  have hq : cgQ p n f [v] := oc_0 h17
  have hb := AShp.p1 hq.1.1
  have hC := hq.1
  have hT := hC.1.2.2
  obtain ⟨n, rfl⟩ : ∃ k : Nat, n = (k : Int) := ⟨n.toNat, by omega⟩
  have hn : n ≤ 8 := by omega
  have hp1 : 1 ≤ p := by omega
  have hp2 : p ≤ 256 := by omega
  refine ⟨_, CallOK.at1 (k := H.length + 0) (at_k (i := 0)) (i_Coalgebra_field_ok B E.2.2.1 (p := p) (n := (n : Int)) (f := f)) rfl rfl, ?_⟩
  rintro _ _ ⟨rfl, rfl⟩
  refine ⟨H.length + 3, by simp, ?_⟩
  rw [as1]
  refine ⟨H.length + 4, by simp, ?_⟩
  rw [as1]
  refine ⟨_, _, _, at_k (i := 4), cputs_2, eqBk_rfl, ?_⟩
  rw [app_set]
  refine ⟨_, _, _, _, v, at_k (i := 1), ⟨by simp, by omega⟩, fun x _ => congrArg _ (Nat.zero_add x).symm, ?_⟩
  refine ⟨_, i_Coalgebra_coproduct_ok B E.2.2.2.1 (k := H.length + 0) (p := p) (n := n) (f := f) (v := v) (at_k (i := 0)) hp1 hp2 hn hC, ?_⟩
  rintro _ _ ⟨rfl, rfl⟩
  rw [cpF_8 hn (hq.2 v (by simp))]
  refine ⟨H.length + 5, by simp, ?_⟩
  rw [as1]
  refine ⟨_, _, .by [] 64 (cpF p n f v), at_k (i := 5), cputs_by (by simp) (by omega), ⟨rfl, rfl, fun x _ _ => congrFun spl_cp x⟩, ?_⟩
  rw [app_set]
  refine ⟨_, _, at_k (i := 4), rfl, ?_⟩
  refine ⟨At, (fun a2 a7 a9 a24 (i0 : Nat) (x0 : At) => [(2, a2), (7, a7), (8, .one x0), (9, a9), (24, a24), (25, .one (.i .i64 ((i0 : Nat) : Int)))]) _ _ _ _ , fun (i0 : Nat) (x0 : At) (G0 : List Blk) => (VW (H.length + 3) G0 x0 (lsP p n f v i0) ∧ (blkOf x0 ≠ H.length + 4 ∧ blkOf x0 ≠ H.length + 5) ∧ H.length + 6 ≤ G0.length ∧ G0[H.length + 0]? = some ⟨false, .by [p, (n : Int)] 522 f⟩ ∧ G0[H.length + 4]? = some ⟨false, .by [p, (n : Int)] 2 fun _ => 0⟩ ∧ G0[H.length + 5]? = some ⟨false, .by [] 64 (cpF p n f v)⟩ ∧ Ext H G0), n, ⟨_, ⟨VW.nil' (at_k (i := 3)) (by omega), ⟨by simp [blkOf], by simp [blkOf]⟩, by simp, at_k (i := 0), at_k (i := 4), at_k (i := 5), Ext.app⟩, ⟨rfl, rfl, rfl, rfl, rfl, rfl, trivial⟩⟩, ?_⟩
  rintro i0 x0 G0 hi0 ⟨hV0, hne, hlG, hb0, hb4, hb5, hE0⟩
  refine ⟨fun h26 => ?_, fun h26 => ?_⟩
  ·replace h26 := of_decide_eq_true h26
   refine ⟨i0, _, rfl, by omega, rfl, ?_⟩
   refine ⟨_, _, _, _, cpR p f v n i0, hb5, ⟨by simp, by omega⟩, fun x hx => by rw [show 0 + i0 * 8 + x = i0 * 8 + x by omega, cp_row (by omega) hx], ?_⟩
   refine ⟨_, i_Coalgebra_coproduct_ok B E.2.2.2.1 (k := H.length + 0) (p := p) (n := n) (f := f) (v := cpR p f v n i0) hb0 hp1 hp2 hn hC, ?_⟩
   rintro _ G31 ⟨rfl, rfl⟩
   rw [cpF_8 hn (vp_vec (cpR_vn hp1 hp2 hT hn (by omega)))]
   refine ⟨_, rfl, ?_⟩
   refine ⟨_, _, .by [] 64 (cpF p n f (cpR p f v n i0)), get_new, cputs_by (by simp) (by omega), ⟨rfl, rfl, fun x _ _ => congrFun spl_cp x⟩, ?_⟩
   rw [app_set0]
   refine ⟨_, CallOK.at1 get_new (i_transposed_ok B E.2.2.2.2.1 (F := cpF p n f (cpR p f v n i0))) rfl rfl, ?_⟩
   rintro _ _ ⟨rfl, rfl⟩
   refine ⟨_, rfl, ?_⟩
   refine ⟨_, _, _, get_new, cputs_by (by simp) (by omega), eqBk_rfl, ?_⟩
   rw [app_set0]
   refine ⟨_, _, app_old (app_old hb4), rfl, ?_⟩
   refine ⟨0, n, rfl, rfl, ⟨by omega, by omega, by omega⟩, ?_⟩
   have hVM : VS (G31 ++ [⟨false, .by [] 64 (cpF p n f (cpR p f v n i0))⟩] ++ [⟨false, .by [] 64 (spl (fun _ => 0) 0 64 (trT (cpF p n f (cpR p f v n i0))))⟩]) (.sl (G31 ++ [(⟨false, .by [] 64 (cpF p n f (cpR p f v n i0))⟩ : Blk)]).length 0 n 8) ((List.range n).map fun l => ccC p n f (cpR p f v n i0) l) := by
    refine .inr ⟨_, 0, 8, false, 64, _, by simp, get_new, ⟨by simp <;> omega, by simp <;> omega⟩, fun i x hi hx => ?_⟩
    have hi : i < n := by simpa using hi
    rw [getD_map hi, show 0 + i * 8 + x = i * 8 + x by omega]
    unfold spl
    rw [if_pos (by omega), Nat.sub_zero, trT_app (by omega) hx, cp_col (by omega) hx]
   have hle := @lsP_len p n i0 f v
   have hmul : i0 * n ≤ 8 * 8 := Nat.mul_le_mul (by omega) hn
   refine ⟨_, vw_appF (hV0.ext (Ext.app.trans Ext.app)) hVM (by simp; omega) (by simp; omega), ?_⟩
   rintro a37 G37 ⟨hv37, hf37, hb37, hl37⟩
   refine ⟨((i0 + 1 : Nat) : Int), w64_id _ (by omega) (by omega), ?_⟩
   refine ⟨by omega, _, ?_, ⟨rfl, rfl, rfl, rfl, rfl, rfl, trivial⟩⟩
   dsimp only
   rw [List.length_append, List.length_append] at hl37 hb37
   simp only [List.length_singleton] at hl37 hb37
   refine ⟨by rw [lsP_s]; exact hv37, ⟨by omega, by omega⟩, by omega, hf37.get (app_old (app_old hb0)) (by have := hV0.ge; omega), hf37.get (app_old (app_old hb4)) (by omega), hf37.get (app_old (app_old hb5)) (by omega), ((hE0.trans Ext.app).trans Ext.app).fr' hf37 (by have := hV0.ge; omega)⟩
  ·replace h26 := of_decide_eq_false h26
   have e0 : n = i0 := by omega
   subst e0
   refine ⟨_, _, hb4, rfl, ?_⟩
   have hle := @lsP_len p n n f v
   have hmul : n * n ≤ 8 * 8 := Nat.mul_le_mul hn hn
   refine ⟨_, i_reduced_ok B E.2.2.2.2.2 (p := p) hC.1.1.1 hV0.vs (ls_vp hp1 hp2) (by omega), ?_⟩
   rintro _ G42 ⟨b42, rfl, hE42, hV42⟩
   exact ⟨rfl, LsV.y hq rfl (hE0.trans hE42) hV42.vs⟩

set_option maxHeartbeats 2000000 in
theorem s_l02Sub_ok (B : Bs P ρ) (E : F_s_l02Sub P ρ) {H : List Blk} {p : Int} {n : Nat} {f v : By} (hC : Cog p n f) :
  CallR P ρ 425 [.ag [p, (n : Int)] 522 f, .ag [] 8 v] H (fun u G => ∃ b, u = .one b ∧ Ext H G ∧ VS G b (redL p (lsL p n f v))) := by
 have hb := AShp.p1 hC.1
 have hT := hC.1.2.2
 have hpr := hC.1.1.1
 have hn : n ≤ 8 := by omega
 have hp1 : 1 ≤ p := by omega
 have hp2 : p ≤ 256 := by omega
 refine call_of_q B.fn B.mo E.1 rfl (fun hAr hHp => ?_) rfl
 refine ⟨H.length + 0, rfl, ?_⟩
 refine ⟨H.length + 1, by simp, ?_⟩
 rw [ap2]
 refine ⟨H.length + 2, by simp, ?_⟩
 rw [as1]
 refine .inl ⟨_, _, _, _, at_k (i := 0), ⟨rfl, by omega⟩, ?_⟩
 refine ⟨_, _, _, _, v, at_k (i := 1), ⟨by simp, by omega⟩, fun x _ => congrArg _ (Nat.zero_add x).symm, ?_⟩
 refine ⟨_, s_l02Coproduct_ok B E.2.1 (p := p) (n := n) (f := f) (v := v) hp1 hp2 hn hC, rfl, ?_⟩
 refine ⟨H.length + 3, by simp, ?_⟩
 rw [as1]
 refine ⟨_, _, .by [] 64 (cpF p n f v), at_k (i := 3), cputs_by (by simp) (by omega), ⟨rfl, rfl, fun x _ _ => congrFun spl_cp x⟩, ?_⟩
 rw [app_set]
 refine ⟨At, (fun a2 a6 (i0 : Nat) (x0 : At) => [(2, a2), (5, .one x0), (6, a6), (7, .one (.i .i64 ((i0 : Nat) : Int)))]) _ _ , fun (i0 : Nat) (x0 : At) (G0 : List Blk) => (VS G0 x0 (redL p (lsP p n f v i0)) ∧ Ext H G0 ∧ G0[H.length + 0]? = some ⟨false, .by [p, (n : Int)] 522 f⟩ ∧ G0[H.length + 3]? = some ⟨false, .by [] 64 (cpF p n f v)⟩), n, ⟨_, ⟨(VW.nil' (m := 0) (at_k (i := 2)) (by omega)).vs, Ext.app, at_k (i := 0), at_k (i := 3)⟩, ⟨rfl, rfl, rfl, rfl, trivial⟩⟩, ?_⟩
 rintro i0 x0 G0 hi0 ⟨hV0, hE0, hb0, hb3⟩
 refine ⟨_, _, hb0, rfl, ?_⟩
 refine ⟨fun h19 => ?_, fun h19 => ?_⟩
 ·replace h19 := of_decide_eq_true h19
  refine .inl ⟨_, _, _, _, hb0, ⟨rfl, by omega⟩, ?_⟩
  refine ⟨i0, _, rfl, by omega, rfl, ?_⟩
  refine ⟨_, _, _, _, cpR p f v n i0, hb3, ⟨by simp, by omega⟩, fun x hx => by rw [show 0 + i0 * 8 + x = i0 * 8 + x by omega, cp_row (by omega) hx], ?_⟩
  refine ⟨_, s_l02Coproduct_ok B E.2.1 (p := p) (n := n) (f := f) (v := cpR p f v n i0) hp1 hp2 hn hC, rfl, ?_⟩
  refine ⟨_, rfl, ?_⟩
  refine ⟨⟨kept1 hb3 (app_old hb3), kept1 hb0 (app_old hb0), trivial⟩, ?_⟩
  refine ⟨_, _, .by [] 64 (cpF p n f (cpR p f v n i0)), get_new, cputs_by (by simp) (by omega), ⟨rfl, rfl, fun x _ _ => congrFun spl_cp x⟩, ?_⟩
  rw [app_set0]
  refine ⟨At, (fun a2 a6 a7 a8 (i1 : Nat) (x1 : At) => [(2, a2), (5, .one x1), (6, a6), (7, a7), (8, a8), (9, .one (.i .i64 ((i1 : Nat) : Int)))]) _ _ _ _ , fun (i1 : Nat) (x1 : At) (G1 : List Blk) => (VS G1 x1 (redL p (lsP p n f v i0 ++ (List.range i1).map fun l => ccC p n f (cpR p f v n i0) l)) ∧ Ext (G0 ++ [⟨false, .by [] 64 (cpF p n f (cpR p f v n i0))⟩]) G1), n, ⟨_, ?_, ⟨rfl, rfl, rfl, rfl, rfl, rfl, trivial⟩⟩, ?_⟩
  ·refine ⟨?_, Ext.refl⟩
   rw [List.range_zero, List.map_nil, List.append_nil]
   exact hV0.ext Ext.app
  rintro i1 x1 G1 hi1 ⟨hV1, hE1⟩
  have hc0 := hE1 _ _ (app_old hb0)
  have hc8 := hE1 _ _ (get_new (H := G0) (B := ⟨false, .by [] 64 (cpF p n f (cpR p f v n i0))⟩))
  have hvp : ∀ u ∈ lsP p n f v i0 ++ (List.range i1).map fun l => ccC p n f (cpR p f v n i0) l, Vp 8 p u := fun u hu => by
   rcases List.mem_append.1 hu with z | z
   ·obtain ⟨j, -, z⟩ := List.mem_flatMap.1 z
    obtain ⟨l, -, rfl⟩ := List.mem_map.1 z
    exact ccC_vp hp1 hp2
   ·obtain ⟨l, -, rfl⟩ := List.mem_map.1 z
    exact ccC_vp hp1 hp2
  have hrr := (redL_rr hpr hvp).1
  refine ⟨_, _, hc0, rfl, ?_⟩
  refine ⟨fun h30 => ?_, fun h30 => ?_⟩
  ·replace h30 := of_decide_eq_true h30
   refine ⟨_, rfl, ?_⟩
   refine ⟨_, _, _, get_new, cputs_by (by simp) (by omega), eqBk_rfl, ?_⟩
   rw [app_set0]
   refine ⟨Unit, (fun a2 a5 a6 a7 a8 a9 a10 (i2 : Nat) (x2 : Unit) => [(2, a2), (5, a5), (6, a6), (7, a7), (8, a8), (9, a9), (10, a10), (11, .one (.i .i64 ((i2 : Nat) : Int)))]) _ _ _ _ _ _ _ , fun (i2 : Nat) (x2 : Unit) (G2 : List Blk) => (∃ w, G2 = G1 ++ [⟨false, .by [] 8 w⟩] ∧ ∀ x, x < 8 → w x = if x < i2 then ccC p n f (cpR p f v n i0) i1 x else 0), n, ⟨(), ⟨_, rfl, fun x hx => by simp [spl]⟩, ⟨rfl, rfl, rfl, rfl, rfl, rfl, rfl, rfl, trivial⟩⟩, ?_⟩
   rintro i2 _ G2 hi2 ⟨w2, rfl, hw2⟩
   refine ⟨_, _, app_old hc0, rfl, ?_⟩
   refine ⟨fun h37 => ?_, fun h37 => ?_⟩
   ·replace h37 := of_decide_eq_true h37
    refine ⟨i2, _, rfl, by omega, rfl, ?_⟩
    refine ⟨i1, _, rfl, by omega, rfl, ?_⟩
    refine ⟨_, _, app_old hc8, cat_bq (i2 * 8 + i1) (by omega) (by simp <;> omega) (by omega), ?_⟩
    refine ⟨i2, _, rfl, by omega, rfl, ?_⟩
    refine ⟨_, _, _, get_new, cput_u (by simp) (by omega), eqBk_rfl, ?_⟩
    refine ⟨((i2 + 1 : Nat) : Int), w64_id _ (by omega) (by omega), ?_⟩
    refine ⟨by omega, (), ?_, ⟨rfl, rfl, rfl, rfl, rfl, rfl, rfl, rfl, trivial⟩⟩
    refine ⟨_, app_set0, fun x hx => ?_⟩
    by_cases e : x = i2
    ·subst e
     rw [show 0 + x * 1 = x by omega, upd_same, if_pos (by omega), cp_col (by omega) hx]
    ·rw [upd_ne _ _ _ _ (by omega), hw2 x hx]
     exact ifc (by omega)
   ·replace h37 := of_decide_eq_false h37
    have e2 : n = i2 := by omega
    subst e2
    refine ⟨_, _, app_old hc0, rfl, ?_⟩
    refine ⟨_, _, _, _, ccC p n f (cpR p f v n i0) i1, get_new, ⟨by simp, by omega⟩, fun x hx => by
     rw [Nat.zero_add, hw2 x hx]
     split
     ·rfl
     ·exact (ccC_vn hp1 hp2 hT hn (by omega)).2 x (by omega), ?_⟩
    have hle := hrr.len
    refine ⟨_, s_l01Put_ok B E.2.2 hp1 hp2 (hV1.ext Ext.app) (fun r hr => hrr.fs r hr) (by omega), ?_⟩
    rintro _ G51 ⟨b51, rfl, hE51, hV51⟩
    refine ⟨((i1 + 1 : Nat) : Int), w64_id _ (by omega) (by omega), ?_⟩
    refine ⟨by omega, _, ?_, ⟨rfl, rfl, rfl, rfl, rfl, rfl, trivial⟩⟩
    refine ⟨?_, hE1.trans (Ext.app.trans hE51)⟩
    rw [List.range_succ, List.map_append, ← List.append_assoc]
    show VS _ _ (redL p (_ ++ [_]))
    rw [redL_snoc]
    exact hV51
  ·replace h30 := of_decide_eq_false h30
   have e1 : n = i1 := by omega
   subst e1
   refine ⟨((i0 + 1 : Nat) : Int), w64_id _ (by omega) (by omega), ?_⟩
   refine ⟨by omega, _, ?_, ⟨rfl, rfl, rfl, rfl, trivial⟩⟩
   refine ⟨by rw [lsP_s]; exact hV1, hE0.trans (Ext.app.trans hE1), hE1 _ _ (app_old hb0), hE1 _ _ (app_old hb3)⟩
 ·replace h19 := of_decide_eq_false h19
  have e0 : n = i0 := by omega
  subst e0
  exact ⟨rfl, x0, rfl, hE0, hV0⟩

theorem s_LeastSubcoalgebra_ok (B : Bs P ρ) (E : F_s_LeastSubcoalgebra P ρ) {H : List Blk} {p n : Int} {f v : By} :
  CallR P ρ 407 [.ag [p, n] 522 f, .ag [] 8 v] H (LsV H p n f v) := by
 refine call_of_q B.fn B.mo E.1 rfl (fun hAr hHp => ?_) rfl
 refine ⟨H.length + 0, rfl, ?_⟩
 refine ⟨H.length + 1, by simp, ?_⟩
 rw [ap2]
 refine .inl ⟨_, _, _, _, at_k (i := 0), ⟨rfl, by omega⟩, ?_⟩
 refine ⟨_, _, _, _, v, at_k (i := 1), ⟨by simp, by omega⟩, fun x _ => congrArg _ (Nat.zero_add x).symm, ?_⟩
 refine ⟨H.length + 2, by simp, ?_⟩
 rw [as1]
 refine ⟨_, s_l02Code_ok B E.2.1 (p := p) (n := n) (f := f) (L := [v]) (VS.at8 (at_k (i := 2)) (Nat.le_refl 8) fun x hx => by simp [spl, hx]) (by simp), ?_⟩
 rintro _ _ ⟨rfl, rfl⟩
 refine ⟨fun h12 => ?_, fun h12 => ?_⟩
 ·replace h12 := bne_t h12
  have hq : ¬ cgQ p n f [v] := fun z => h12 (oc_t z)
  exact ⟨rfl, LsV.n hq (by rw [oc_f hq]; rfl) Ext.app⟩
 ·replace h12 := bne_f h12
  have hq : cgQ p n f [v] := oc_0 h12
  obtain ⟨n, rfl⟩ : ∃ k : Nat, n = (k : Int) := ⟨n.toNat, by have := hq.1.1.1.2.1; omega⟩
  refine .inl ⟨_, _, _, _, at_k (i := 0), ⟨rfl, by omega⟩, ?_⟩
  refine ⟨_, _, _, _, v, at_k (i := 1), ⟨by simp, by omega⟩, fun x _ => congrArg _ (Nat.zero_add x).symm, ?_⟩
  refine ⟨_, s_l02Sub_ok B E.2.2 hq.1, ?_⟩
  rintro _ G16 ⟨b16, rfl, hE16, hV16⟩
  exact ⟨rfl, LsV.y hq rfl (Ext.app.trans hE16) hV16⟩

end Hf
namespace Hf
open Go Classical
variable {P : Program} {ρ : Nat → FuncId}
theorem sp_by {p : Int} (hp : 1 ≤ p) (hp2 : p ≤ 256) {S : List By} (hS : RR 8 p S) {v : By} (hv : Vp 8 p v) : eqB 8 (byL p v S) (fun _ => 0) = true ↔ Sp' 8 p S v := by
 rw [hS.in_iff hp hp2 hv, eqB_iff, byL_W]
 have hw : Vp 8 p (byW 8 p v S) := byW_vp hp hp2 hv
 refine ⟨fun h => ?_, fun h x _ => by rw [h]; rfl⟩
 funext x
 by_cases e : x < 8
 ·exact h x e
 ·exact hw.2 x (by omega)
theorem rw8_cp {p : Int} {n : Nat} {f v : By} (hp : 1 ≤ p) (hp2 : p ≤ 256) {j : Nat} (hj : j < 8) : rw8 (cpF p n f v) j = cpR p f v n j := by
 funext x
 unfold rw8
 split
 ·rename_i h; exact cp_row hj h
 ·exact ((cpR_vp hp hp2).2 x (by omega)).symm
theorem rw8_tr {p : Int} {n : Nat} {f v : By} (hp : 1 ≤ p) (hp2 : p ≤ 256) {j : Nat} (hj : j < 8) : rw8 (trT (cpF p n f v)) j = ccC p n f v j := by
 funext x
 unfold rw8
 split
 ·rename_i h; rw [trT_app hj h]; exact cp_col hj h
 ·exact ((ccC_vp hp hp2).2 x (by omega)).symm
theorem cpR_0 {p : Int} {n : Nat} {f v : By} (hp : 1 ≤ p) (hp2 : p ≤ 256) (hT : Tab p n f 10) (hn : n ≤ 8) {j : Nat} (hj : j < 8) (h : n ≤ j) : cpR p f v n j = z0 := by
 funext x
 by_cases e : x < 8
 ·have q : bz (cpR p f v n j) x = 0 := by
   unfold cpR
   rw [bz_vec hp hp2 e, sm_zero fun i hi => by rw [show bz f (10 + i * 64 + j * 8 + x) = 0 from hT.out (by omega) hj e (by omega), Int.mul_zero], Int.zero_emod]
  exact bz_eq0.1 q
 ·exact (cpR_vp hp hp2).2 x (by omega)
theorem ccC_0 {p : Int} {n : Nat} {f v : By} (hp : 1 ≤ p) (hp2 : p ≤ 256) (hT : Tab p n f 10) (hn : n ≤ 8) {j : Nat} (hj : j < 8) (h : n ≤ j) : ccC p n f v j = z0 := by
 funext x
 by_cases e : x < 8
 ·have q : bz (ccC p n f v j) x = 0 := by
   unfold ccC cmF
   rw [bz_vec hp hp2 e, sm_zero fun i hi => by rw [show bz (fun y => f (10 + i * 64 + y * 8 + j)) x = 0 from hT.out (by omega) e hj (by omega), Int.mul_zero], Int.zero_emod]
  exact bz_eq0.1 q
 ·exact (ccC_vp hp hp2).2 x (by omega)
/-- the legs of one vector -/
def LegU (p : Int) (n : Nat) (f : By) (S : List By) (u : By) : Prop := ∀ j, j < n → Sp' 8 p S (cpR p f u n j) ∧ Sp' 8 p S (ccC p n f u j)
theorem in_leg {p : Int} {n : Nat} {f u : By} (hp : 1 ≤ p) (hp2 : p ≤ 256) (hT : Tab p n f 10) (hn : n ≤ 8) {S : List By} (hS : RR 8 p S) : inL p S (rows8 (cpF p n f u) ++ rows8 (trT (cpF p n f u))) = true ↔ LegU p n f S u := by
 have hz : ∀ v, eqB 8 (byL p v S) z0 = eqB 8 (byL p v S) fun _ => 0 := fun v => rfl
 unfold inL LegU
 rw [List.all_eq_true]
 constructor
 ·intro h j hj
  have q1 := h (cpR p f u n j) (List.mem_append_left _ (List.mem_map.2 ⟨j, List.mem_range.2 (by omega), rw8_cp hp hp2 (by omega)⟩))
  have q2 := h (ccC p n f u j) (List.mem_append_right _ (List.mem_map.2 ⟨j, List.mem_range.2 (by omega), rw8_tr hp hp2 (by omega)⟩))
  exact ⟨(sp_by hp hp2 hS (cpR_vp hp hp2)).1 q1, (sp_by hp hp2 hS (ccC_vp hp hp2)).1 q2⟩
 ·intro h v hv
  rcases List.mem_append.1 hv with z | z
  ·obtain ⟨j, hj, rfl⟩ := List.mem_map.1 z
   have hj := List.mem_range.1 hj
   rw [rw8_cp hp hp2 hj]
   refine (sp_by hp hp2 hS (cpR_vp hp hp2)).2 ?_
   by_cases e : j < n
   ·exact (h j e).1
   ·rw [cpR_0 hp hp2 hT hn hj (by omega)]; exact .z
  ·obtain ⟨j, hj, rfl⟩ := List.mem_map.1 z
   have hj := List.mem_range.1 hj
   rw [rw8_tr hp hp2 hj]
   refine (sp_by hp hp2 hS (ccC_vp hp hp2)).2 ?_
   by_cases e : j < n
   ·exact (h j e).2
   ·rw [ccC_0 hp hp2 hT hn hj (by omega)]; exact .z
noncomputable def iscV (p n : Int) (f : By) (L : List By) : Bool := if cgQ p n f L then decide (LegN p n.toNat f (redL p L)) else false
theorem cgQ_vn {p : Int} {n : Nat} {f : By} {L : List By} (h : cgQ p n f L) (hz : ∀ v ∈ L, ∀ x, 8 ≤ x → v x = 0) : ∀ v ∈ L, Vp n p v :=
 rvQ.vp ⟨h.1.1.1, fun v hv => ⟨h.2 v hv, hz v hv⟩⟩
set_option maxHeartbeats 2000000 in
theorem i_IsSubcoalgebra_ok (B : Bs P ρ) (E : F_i_IsSubcoalgebra P ρ) {H : List Blk} {a : At} {L : List By} {p n : Int} {f : By} (hL : VS H a L) (hz : ∀ v ∈ L, ∀ x, 8 ≤ x → v x = 0) (hlen : L.length ≤ 1000000) :
  CallR P ρ 411 [.ag [p, n] 522 f, a] H (fun u G => u = .tup [.b (iscV p n f L), .i .i64 (oc (cgQ p n f L) 1)] ∧ Ext H G) := by
 refine call_of_q B.fn B.mo E.1 rfl (fun hAr hHp => ?_) (by simp only [List.all_cons, List.all_nil, hL.lt]; rfl)
 refine ⟨H.length + 0, rfl, ?_⟩
 refine ⟨_, i_Coalgebra_code_ok B E.2.1 (k := H.length + 0) (p := p) (n := n) (f := f) (L := L) (at_k (i := 0)) (hL.ext Ext.app) hlen, ?_⟩
 rintro _ _ ⟨rfl, rfl⟩
 refine ⟨fun h13 => ?_, fun h13 => ?_⟩
 ·replace h13 := bne_t h13
  have hq : ¬ cgQ p n f L := fun z => h13 (oc_t z)
  exact ⟨rfl, by unfold iscV; rw [if_neg hq, oc_f hq]; rfl, Ext.app⟩
 ·replace h13 := bne_f h13
  have hq : cgQ p n f L := oc_0 h13
  have hb := AShp.p1 hq.1.1
  have hC := hq.1
  have hT := hC.1.2.2
  have hpr := hC.1.1.1
  obtain ⟨n, rfl⟩ : ∃ k : Nat, n = (k : Int) := ⟨n.toNat, by omega⟩
  have hn : n ≤ 8 := by omega
  have hp1 : 1 ≤ p := by omega
  have hp2 : p ≤ 256 := by omega
  have hvn := cgQ_vn hq hz
  have hrr := (redL_rr hpr fun v hv => (hvn v hv).mono hn).1
  have hrn := redL_vp hpr hn hvn
  have hrl := hrr.len
  refine ⟨_, _, at_k (i := 0), rfl, ?_⟩
  refine ⟨_, i_reduced_ok B E.2.2.1 hpr (hL.ext Ext.app) (fun v hv => (hvn v hv).mono hn) hlen, ?_⟩
  rintro _ G18 ⟨b18, rfl, hE18, hV18⟩
  refine ⟨_, (hV18.vs).len, ?_⟩
  refine ⟨Unit, (fun a2 a7 a19 a20 (i0 : Nat) (x0 : Unit) => [(2, a2), (7, a7), (19, a19), (20, a20), (21, .one (.i .i64 ((i0 : Nat) : Int)))]) _ _ _ _ , fun (i0 : Nat) (x0 : Unit) (G0 : List Blk) => ((∀ i, i < i0 → LegU p n f (redL p L) ((redL p L).getD i z0)) ∧ Ext G18 G0), (redL p L).length, ⟨(), ⟨fun i hi => absurd hi (Nat.not_lt_zero _), Ext.refl⟩, ⟨rfl, rfl, rfl, rfl, rfl, trivial⟩⟩, ?_⟩
  rintro i0 _ G0 hi0 ⟨hF0, hE0⟩
  have hb0 := hE0 _ _ (hE18 _ _ (at_k (i := 0)))
  refine ⟨fun h22 => ?_, fun h22 => ?_⟩
  ·replace h22 := of_decide_eq_true h22
   have zz23 := (hV18.vs.ext hE0).at i0 (by omega)
   obtain ⟨k23, o23, n23, c23, q23, ea23, hl23, hq23, r23, N23, f23, hk23, hN23, hf23⟩ := zz23
   refine ⟨k23, o23, n23, c23, i0, q23, ea23, rfl, hl23, hq23, ?_⟩
   refine ⟨_, _, _, _, _, hk23, ⟨by simp, hN23⟩, hf23, ?_⟩
   refine ⟨_, rfl, ?_⟩
   refine ⟨_, _, _, get_new, cputs_by (by simp) (by omega), eqBk_rfl, ?_⟩
   rw [app_set0]
   refine ⟨_, _, app_old hb0, rfl, ?_⟩
   refine ⟨_, _, _, _, (redL p L).getD i0 z0, get_new, ⟨by simp, by omega⟩, fun x hx => by simp [spl, hx], ?_⟩
   refine ⟨_, i_Coalgebra_coproduct_ok B E.2.2.2.1 (k := H.length + 0) (p := p) (n := n) (f := f) (v := (redL p L).getD i0 z0) (app_old hb0) hp1 hp2 hn hC, ?_⟩
   rintro _ _ ⟨rfl, rfl⟩
   refine ⟨⟨rfl, trivial⟩, ?_⟩
   rw [cpF_8 hn (vp_vec (hrn _ (getD_mem (by omega))))]
   refine ⟨_, i_legs_ok B E.2.2.2.2.1 , ?_⟩
   rintro _ G30 ⟨b30, rfl, hV30, hE30⟩
   refine ⟨⟨kept1 (app_old hb0) (hE30 _ _ (app_old hb0)), trivial⟩, ?_⟩
   refine ⟨_, i_within_ok B E.2.2.2.2.2 (p := p) (L := redL p L) (M := rows8 (cpF p n f ((redL p L).getD i0 z0)) ++ rows8 (trT (cpF p n f ((redL p L).getD i0 z0)))) hp1 hp2 (hV18.vs.ext ((hE0.trans Ext.app).trans hE30)) (fun r hr => hrr.fs r hr) (by omega) hV30.vs (fun v hv x _ => by
    rcases List.mem_append.1 hv with z | z
    ·obtain ⟨j, hj, rfl⟩ := List.mem_map.1 z
     rw [rw8_cp hp1 hp2 (List.mem_range.1 hj)]; exact (cpR_vp hp1 hp2).1 x
    ·obtain ⟨j, hj, rfl⟩ := List.mem_map.1 z
     rw [rw8_tr hp1 hp2 (List.mem_range.1 hj)]; exact (ccC_vp hp1 hp2).1 x) (by simp [rows8]), ?_⟩
   rintro _ G31 ⟨rfl, rfl⟩
   refine ⟨fun h32 => ?_, fun h32 => ?_⟩
   ·skip
    have hN : ¬ LegN p n f (redL p L) := fun z => by
     rw [(in_leg hp1 hp2 hT hn hrr).2 (z _ (getD_mem (by omega)))] at h32; cases h32
    exact ⟨rfl, by unfold iscV; rw [if_pos hq, oc_t hq, decide_eq_false (show ¬ LegN p (n : Int).toNat f (redL p L) from hN)]; rfl, (Ext.app.trans hE18).trans ((hE0.trans Ext.app).trans hE30)⟩
   ·skip
    have hU : LegU p n f (redL p L) ((redL p L).getD i0 z0) := (in_leg hp1 hp2 hT hn hrr).1 (by simpa using h32)
    refine ⟨((i0 + 1 : Nat) : Int), w64_id _ (by omega) (by omega), ?_⟩
    refine ⟨by omega, (), ?_, ⟨rfl, rfl, rfl, rfl, rfl, trivial⟩⟩
    refine ⟨fun i hi => ?_, (hE0.trans Ext.app).trans hE30⟩
    by_cases e : i = i0
    ·subst e; exact hU
    ·exact hF0 i (by omega)
  ·replace h22 := of_decide_eq_false h22
   have e0 : (redL p L).length = i0 := by omega
   subst e0
   refine ⟨rfl, ?_, (Ext.app.trans hE18).trans hE0⟩
   unfold iscV
   rw [if_pos hq, oc_t hq, decide_eq_true (show LegN p (n : Int).toNat f (redL p L) from fun u hu j hj => ?_)]
   ·rfl
   ·obtain ⟨i, hi, rfl⟩ := List.mem_iff_getElem.1 hu
    have := hF0 i hi j hj
    rwa [List.getD_eq_getElem?_getD, List.getElem?_eq_getElem hi] at this

set_option maxHeartbeats 2000000 in
theorem s_l02Closed_ok (B : Bs P ρ) (E : F_s_l02Closed P ρ) {H : List Blk} {a : At} {S : List By} {p : Int} {n : Nat} {f : By} (hC : Cog p n f) (hL : VS H a S) (hr : RR 8 p S) :
    CallR P ρ 427 [.ag [p, (n : Int)] 522 f, a] H (fun u G => u = .one (.b (decide (LegN p n f S))) ∧ Ext H G) := by
  have hb := AShp.p1 hC.1
  have hT := hC.1.2.2
  have hn : n ≤ 8 := by omega
  have hp1 : 1 ≤ p := by omega
  have hp2 : p ≤ 256 := by omega
  have hrl := hr.len
  refine call_of_q B.fn B.mo E.1 rfl (fun hAr hHp => ?_) (by simp only [List.all_cons, List.all_nil, hL.lt]; rfl)
  refine ⟨H.length + 0, rfl, ?_⟩
  refine ⟨Unit, (fun a1 a2 (i0 : Nat) (x0 : Unit) => [(1, a1), (2, a2), (5, .one (.i .i64 ((i0 : Nat) : Int)))]) _ _ , fun (i0 : Nat) (x0 : Unit) (G0 : List Blk) => ((∀ i, i < i0 → LegU p n f S (S.getD i z0)) ∧ Ext (H ++ [⟨false, .by [p, (n : Int)] 522 f⟩]) G0), S.length, ⟨(), ⟨fun i hi => absurd hi (Nat.not_lt_zero _), Ext.refl⟩, ⟨rfl, rfl, rfl, trivial⟩⟩, ?_⟩
  rintro i0 _ G0 hi0 ⟨hF0, hE0⟩
  have hb0 := hE0 _ _ (at_k (i := 0))
  have hL0 := hL.ext (Ext.app.trans hE0)
  refine ⟨_, (hL0).len, ?_⟩
  refine ⟨fun h13 => ?_, fun h13 => ?_⟩
  · replace h13 := of_decide_eq_true h13
    refine .inl ⟨_, _, _, _, hb0, ⟨rfl, by omega⟩, ?_⟩
    have zz19 := (hL0).at i0 (by omega)
    obtain ⟨k19, o19, n19, c19, q19, ea19, hl19, hq19, r19, N19, f19, hk19, hN19, hf19⟩ := zz19
    refine ⟨k19, o19, n19, c19, i0, q19, ea19, rfl, hl19, hq19, ?_⟩
    refine ⟨_, _, _, _, _, hk19, ⟨by simp, hN19⟩, hf19, ?_⟩
    refine ⟨_, s_l02Coproduct_ok B E.2.1 (p := p) (n := n) (f := f) (v := S.getD i0 z0) hp1 hp2 hn hC, rfl, ?_⟩
    refine ⟨_, rfl, ?_⟩
    refine ⟨⟨kept1 hk19 (app_old hk19), kept1 hb0 (app_old hb0), trivial⟩, ?_⟩
    refine ⟨_, _, .by [] 64 (cpF p n f (S.getD i0 z0)), get_new, cputs_by (by simp) (by omega), ⟨rfl, rfl, fun x _ _ => congrFun spl_cp x⟩, ?_⟩
    rw [app_set0]
    refine ⟨Unit, (fun a1 a2 a5 a6 (i1 : Nat) (x1 : Unit) => [(1, a1), (2, a2), (5, a5), (6, a6), (7, .one (.i .i64 ((i1 : Nat) : Int)))]) _ _ _ _ , fun (i1 : Nat) (x1 : Unit) (G1 : List Blk) => ((∀ j, j < i1 → Sp' 8 p S (cpR p f (S.getD i0 z0) n j) ∧ Sp' 8 p S (ccC p n f (S.getD i0 z0) j)) ∧ Ext (G0 ++ [⟨false, .by [] 64 (cpF p n f (S.getD i0 z0))⟩]) G1), n, ⟨(), ⟨fun i hi => absurd hi (Nat.not_lt_zero _), Ext.refl⟩, ⟨rfl, rfl, rfl, rfl, rfl, trivial⟩⟩, ?_⟩
    rintro i1 _ G1 hi1 ⟨hF1, hE1⟩
    have hc0 := hE1 _ _ (app_old hb0)
    have hc6 := hE1 _ _ (get_new (H := G0) (B := ⟨false, .by [] 64 (cpF p n f (S.getD i0 z0))⟩))
    have hL1 := (hL0.ext Ext.app).ext hE1
    refine ⟨_, _, hc0, rfl, ?_⟩
    refine ⟨fun h25 => ?_, fun h25 => ?_⟩
    · replace h25 := of_decide_eq_true h25
      refine ⟨_, rfl, ?_⟩
      refine ⟨_, _, _, get_new, cputs_by (by simp) (by omega), eqBk_rfl, ?_⟩
      rw [app_set0]
      refine ⟨Unit, (fun a1 a2 a5 a6 a7 a8 (i2 : Nat) (x2 : Unit) => [(1, a1), (2, a2), (5, a5), (6, a6), (7, a7), (8, a8), (9, .one (.i .i64 ((i2 : Nat) : Int)))]) _ _ _ _ _ _ , fun (i2 : Nat) (x2 : Unit) (G2 : List Blk) => (∃ w, G2 = G1 ++ [⟨false, .by [] 8 w⟩] ∧ ∀ x, x < 8 → w x = if x < i2 then ccC p n f (S.getD i0 z0) i1 x else 0), n, ⟨(), ⟨_, rfl, fun x hx => by simp [spl]⟩, ⟨rfl, rfl, rfl, rfl, rfl, rfl, rfl, trivial⟩⟩, ?_⟩
      rintro i2 _ G2 hi2 ⟨w2, rfl, hw2⟩
      refine ⟨_, _, app_old hc0, rfl, ?_⟩
      refine ⟨fun h32 => ?_, fun h32 => ?_⟩
      · replace h32 := of_decide_eq_true h32
        refine ⟨i2, _, rfl, by omega, rfl, ?_⟩
        refine ⟨i1, _, rfl, by omega, rfl, ?_⟩
        refine ⟨_, _, app_old hc6, cat_bq (i2 * 8 + i1) (by omega) (by simp <;> omega) (by omega), ?_⟩
        refine ⟨i2, _, rfl, by omega, rfl, ?_⟩
        refine ⟨_, _, _, get_new, cput_u (by simp) (by omega), eqBk_rfl, ?_⟩
        refine ⟨((i2 + 1 : Nat) : Int), w64_id _ (by omega) (by omega), ?_⟩
        refine ⟨by omega, (), ?_, ⟨rfl, rfl, rfl, rfl, rfl, rfl, rfl, trivial⟩⟩
        refine ⟨_, app_set0, fun x hx => ?_⟩
        by_cases e : x = i2
        · subst e
          rw [show 0 + x * 1 = x by omega, upd_same, if_pos (by omega), cp_col (by omega) hx]
        · rw [upd_ne _ _ _ _ (by omega), hw2 x hx]
          exact ifc (by omega)
      · replace h32 := of_decide_eq_false h32
        have e2 : n = i2 := by omega
        subst e2
        refine ⟨_, _, app_old hc0, rfl, ?_⟩
        refine ⟨i1, _, rfl, by omega, rfl, ?_⟩
        refine ⟨_, _, _, _, cpR p f (S.getD i0 z0) n i1, app_old hc6, ⟨by simp <;> omega, by omega⟩, fun x hx => by rw [show 0 + i1 * 8 + x = i1 * 8 + x by omega, cp_row (by omega) hx], ?_⟩
        refine ⟨_, s_l01By_ok B E.2.2.1 hp1 hp2 (hL1.ext Ext.app) (fun r h => hr.fs r h) (by omega), ?_⟩
        rintro _ G48 ⟨rfl, rfl⟩
        refine ⟨_, s_l01Zero_ok B E.2.2.2 , rfl, ?_⟩
        refine ⟨fun h51 => ?_, fun h51 => ?_⟩
        · skip
          have hN : ¬ LegN p n f S := fun z => by
            rw [(sp_by hp1 hp2 hr (cpR_vp hp1 hp2)).2 (z _ (getD_mem (show i0 < S.length by omega)) i1 (by omega)).1] at h51; cases h51
          iterate 8 refine brB_t ?_
          first
            | exact ⟨rfl, by rw [decide_eq_false hN]; rfl, (Ext.app.trans hE0).trans ((Ext.app.trans hE1).trans Ext.app)⟩
            | (refine ⟨rfl, ?_, Ext.app.trans hE0⟩
               rw [decide_eq_true (show LegN p n f S from fun u hu j hj => by
                 obtain ⟨i, hi, rfl⟩ := List.mem_iff_getElem.1 hu
                 have := hF0 i hi j hj
                 rwa [List.getD_eq_getElem?_getD, List.getElem?_eq_getElem hi] at this)]
               rfl)
        · skip
          have hS1 : Sp' 8 p S (cpR p f (S.getD i0 z0) n i1) := (sp_by hp1 hp2 hr (cpR_vp hp1 hp2)).1 (by simpa using h51)
          refine brB_f ?_
          refine ⟨_, _, app_old hc0, rfl, ?_⟩
          refine brB_f ?_
          refine ⟨_, _, _, _, ccC p n f (S.getD i0 z0) i1, get_new, ⟨by simp, by omega⟩, fun x hx => by
            rw [Nat.zero_add, hw2 x hx]
            split
            · rfl
            · exact (ccC_vn hp1 hp2 hT hn (by omega)).2 x (by omega), ?_⟩
          iterate 2 refine brB_f ?_
          refine ⟨_, s_l01By_ok B E.2.2.1 hp1 hp2 (hL1.ext Ext.app) (fun r h => hr.fs r h) (by omega), ?_⟩
          rintro _ G56 ⟨rfl, rfl⟩
          refine brB_f ?_
          refine ⟨_, s_l01Zero_ok B E.2.2.2 , rfl, ?_⟩
          iterate 2 refine brB_f ?_
          refine ⟨fun h59 => ?_, fun h59 => ?_⟩
          · skip
            have hN : ¬ LegN p n f S := fun z => by
              rw [(sp_by hp1 hp2 hr (ccC_vp hp1 hp2)).2 (z _ (getD_mem (show i0 < S.length by omega)) i1 (by omega)).2] at h59; cases h59
            first
              | exact ⟨rfl, by rw [decide_eq_false hN]; rfl, (Ext.app.trans hE0).trans ((Ext.app.trans hE1).trans Ext.app)⟩
              | (refine ⟨rfl, ?_, Ext.app.trans hE0⟩
                 rw [decide_eq_true (show LegN p n f S from fun u hu j hj => by
                   obtain ⟨i, hi, rfl⟩ := List.mem_iff_getElem.1 hu
                   have := hF0 i hi j hj
                   rwa [List.getD_eq_getElem?_getD, List.getElem?_eq_getElem hi] at this)]
                 rfl)
          · skip
            have hS2 : Sp' 8 p S (ccC p n f (S.getD i0 z0) i1) := (sp_by hp1 hp2 hr (ccC_vp hp1 hp2)).1 (by simpa using h59)
            refine ⟨((i1 + 1 : Nat) : Int), w64_id _ (by omega) (by omega), ?_⟩
            refine ⟨by omega, (), ?_, ⟨rfl, rfl, rfl, rfl, rfl, trivial⟩⟩
            refine ⟨fun j hj => ?_, hE1.trans Ext.app⟩
            by_cases e : j = i1
            · subst e; exact ⟨hS1, hS2⟩
            · exact hF1 j (by omega)
    · replace h25 := of_decide_eq_false h25
      have e1 : n = i1 := by omega
      subst e1
      refine ⟨((i0 + 1 : Nat) : Int), w64_id _ (by omega) (by omega), ?_⟩
      refine ⟨by omega, (), ?_, ⟨rfl, rfl, rfl, trivial⟩⟩
      refine ⟨fun i hi => ?_, hE0.trans (Ext.app.trans hE1)⟩
      by_cases e : i = i0
      · subst e; exact hF1
      · exact hF0 i (by omega)
  · replace h13 := of_decide_eq_false h13
    have e0 : S.length = i0 := by omega
    subst e0
    first
      | exact ⟨rfl, by rw [decide_eq_false hN]; rfl, (Ext.app.trans hE0).trans ((Ext.app.trans hE1).trans Ext.app)⟩
      | (refine ⟨rfl, ?_, Ext.app.trans hE0⟩
         rw [decide_eq_true (show LegN p n f S from fun u hu j hj => by
           obtain ⟨i, hi, rfl⟩ := List.mem_iff_getElem.1 hu
           have := hF0 i hi j hj
           rwa [List.getD_eq_getElem?_getD, List.getElem?_eq_getElem hi] at this)]
         rfl)

set_option maxHeartbeats 1000000 in
theorem s_IsSubcoalgebra_ok (B : Bs P ρ) (E : F_s_IsSubcoalgebra P ρ) {H : List Blk} {a : At} {L : List By} {p n : Int} {f : By} (hL : VS H a L) (hz : ∀ v ∈ L, ∀ x, 8 ≤ x → v x = 0) (hlen : L.length ≤ 1000000) :
  CallR P ρ 410 [.ag [p, n] 522 f, a] H (fun u G => u = .tup [.b (iscV p n f L), .i .i64 (oc (cgQ p n f L) 1)] ∧ Ext H G) := by
 refine call_of_q B.fn B.mo E.1 rfl (fun hAr hHp => ?_) (by simp only [List.all_cons, List.all_nil, hL.lt]; rfl)
 refine ⟨H.length + 0, rfl, ?_⟩
 refine .inl ⟨_, _, _, _, at_k (i := 0), ⟨rfl, by omega⟩, ?_⟩
 refine ⟨_, s_l02Code_ok B E.2.1 (p := p) (n := n) (f := f) (L := L) (hL.ext Ext.app) hlen, ?_⟩
 rintro _ _ ⟨rfl, rfl⟩
 refine ⟨fun h11 => ?_, fun h11 => ?_⟩
 ·replace h11 := bne_t h11
  have hq : ¬ cgQ p n f L := fun z => h11 (oc_t z)
  exact ⟨rfl, by unfold iscV; rw [if_neg hq, oc_f hq]; rfl, Ext.app⟩
 ·replace h11 := bne_f h11
  have hq : cgQ p n f L := oc_0 h11
  have hb := AShp.p1 hq.1.1
  have hC := hq.1
  have hpr := hC.1.1.1
  obtain ⟨n, rfl⟩ : ∃ k : Nat, n = (k : Int) := ⟨n.toNat, by omega⟩
  have hn : n ≤ 8 := by omega
  have hvn := cgQ_vn hq hz
  have hrr := (redL_rr hpr fun v hv => (hvn v hv).mono hn).1
  refine .inl ⟨_, _, _, _, at_k (i := 0), ⟨rfl, by omega⟩, ?_⟩
  refine ⟨_, _, at_k (i := 0), rfl, ?_⟩
  refine ⟨_, s_l01Reduce_ok B E.2.2.1 hpr (hL.ext Ext.app) (fun v hv => (hvn v hv).mono hn) hlen, ?_⟩
  rintro _ G17 ⟨b17, rfl, hE17, hV17⟩
  refine ⟨⟨kept1 (at_k (i := 0)) (hE17 _ _ (at_k (i := 0))), trivial⟩, ?_⟩
  refine ⟨_, s_l02Closed_ok B E.2.2.2 hC hV17 hrr, ?_⟩
  rintro _ G18 ⟨rfl, hE18⟩
  exact ⟨rfl, by unfold iscV; rw [if_pos hq, oc_t hq]; rfl, (Ext.app.trans hE17).trans hE18⟩

end Hf
namespace Hf
open Go Classical
variable {P : Program} {ρ : Nat → FuncId}
theorem Src.frk {H G : List Blk} {s k : Nat} {A : Blk} (h : Src H s) (e : Fr [k] H G) (hk : H[k]? = some A) (ho : own A.c = true) (hn : s ≠ k) : Src G s := by
 obtain ⟨c, j, x, h1, h2, h3⟩ := h
 refine ⟨c, j, x, e.get h1 hn, ?_, h3⟩
 rcases h2 with rfl | ⟨i, off, len, cap, r, cs, fz, rfl, q1, q2⟩
 ·exact .inl rfl
 ·refine .inr ⟨i, off, len, cap, r, cs, fz, rfl, e.get q1 ?_, q2⟩
  rintro rfl
  rw [q1] at hk
  cases hk
  cases ho
theorem VW.own {m : Nat} {H : List Blk} {a : At} {L : List By} (h : VW m H a L) : ∃ A, H[blkOf a]? = some A ∧ own A.c = true := by
 obtain ⟨k, off, cap, N, f, rfl, hk, -⟩ := h
 exact ⟨_, hk, rfl⟩
theorem VS.set2 {H : List Blk} {k0 : Nat} {B : Blk} {r : Bool} {x y : Int} {N : Nat} {g : By} {a : At} {L : List By} (h : VS H a L) (hk : H[k0]? = some ⟨r, .by [x, y] N g⟩) : VS (H.set k0 B) a L := by
 rcases h with h | ⟨k, off, cap, r', N', f, h1, h2, h3, h4⟩
 ·exact .inl h
 ·refine .inr ⟨k, off, cap, r', N', f, h1, set_other h2 ?_, h3, h4⟩
  rintro rfl
  rw [h2] at hk
  cases hk
def tr8 (v : By) : By := fun x => if x < 8 then v x else 0
theorem nsp {s : Nat} {b : At} (h : ∀ k ∈ spB b, s < k) : ∀ k ∈ spB b, k ∉ [s] := fun k hk => by
 have := h k hk
 simp; omega
set_option maxHeartbeats 4000000 in
theorem s_DrawPrimitiveSpace_ok (B : Bs P ρ) (E : F_s_DrawPrimitiveSpace P ρ) {H : List Blk} {a : At} (hC : CB H a) :
  CallR P ρ 403 [a] H (fun u G => ∃ (p q : Int) (f g h : By), u = .tup [.ag [p, q] 522 f, .ag [] 8 g, .ag [] 8 h] ∧ Ext H G) := by
 refine call_of_q B.fn B.mo E.1 rfl (fun hAr hHp => ?_) (by simp only [List.all_cons, List.all_nil, hC.lt]; rfl)
 refine ⟨H.length + 0, rfl, ?_⟩
 refine ⟨H.length + 1, by simp, ?_⟩
 refine ⟨H.length + 2, by simp, ?_⟩
 rw [ap3]
 refine ⟨_, s_l01From_ok B E.2.1 (hC.ext Ext.app), ?_⟩
 rintro _ G10 ⟨rfl, hE10, hS10⟩
 generalize hs : (H ++ [(⟨false, (Zk.by 2 522).bk⟩ : Blk), ⟨false, (Zk.by 0 8).bk⟩, ⟨false, (Zk.by 0 8).bk⟩]).length = s at hS10
 have hs2 : s = H.length + 3 := by rw [← hs]; simp
 refine ⟨_, s_l02Spoil_ok B E.2.2.1 hS10, ?_⟩
 rintro _ G12 ⟨p, q, f, rfl, hf12, hS12⟩
 have hX12 : Ext H G12 := (Ext.app.trans hE10).fr' hf12 (by omega)
 have hl12 := hS12.lt
 refine ⟨_, rfl, ?_⟩
 refine ⟨_, _, _, get_new, cputs_2, eqBk_rfl, ?_⟩
 rw [app_set0]
 refine .inl ⟨_, _, _, _, get_new, ⟨rfl, by omega⟩, ?_⟩
 refine ⟨_, s_GroupLikes_ok B E.2.2.2.1 (p := p) (n := q) (f := f), ?_⟩
 rintro _ G15 ⟨b15, rfl, hE15, hV15, hk15⟩
 have h2E := hE15 _ _ (app_old (hf12.get (hE10 _ _ (at_k (i := 0))) (by omega)))
 have h3E := hE15 _ _ (app_old (hf12.get (hE10 _ _ (at_k (i := 1))) (by omega)))
 have h4E := hE15 _ _ (app_old (hf12.get (hE10 _ _ (at_k (i := 2))) (by omega)))
 have h6E := hE15 _ _ (get_new (H := G12) (B := ⟨false, .by [p, q] 522 f⟩))
 have hSE := (hS12.ext Ext.app).ext hE15
 have hXE : Ext H G15 := (hX12.trans Ext.app).trans hE15
 have hlE := lt_of h6E
 have hk15 : ∀ k ∈ spB b15, s < k ∧ G12.length < k := fun k hk => by
  have := hk15 k hk
  rw [List.length_append] at this
  simp at this
  omega
 refine ⟨fun h20 => ?_, fun h20 => ?_⟩
 ·replace h20 := eq_of_beq h20
  refine brB_t ?_
  refine ⟨_, (hV15).len, ?_⟩
  iterate 2 refine brB_t ?_
  refine ⟨fun h25 => ?_, fun h25 => ?_⟩
  ·replace h25 := of_decide_eq_true h25
   refine brB_t ?_
   refine ⟨_, s_l01Next_ok B E.2.2.2.2.1 hSE, ?_⟩
   rintro _ G27 ⟨z27, rfl, hz27, hf27, hS27⟩
   replace h2E := hf27.get h2E (by omega)
   replace h3E := hf27.get h3E (by omega)
   replace h4E := hf27.get h4E (by omega)
   replace h6E := hf27.get h6E (by omega)
   replace hSE := hS27
   replace hXE := hXE.fr' hf27 (by omega)
   have hV27 := hV15.fr hf27 (nsp fun k hk => (hk15 k hk).1)
   iterate 2 refine brB_t ?_
   refine ⟨fun h29 => ?_, fun h29 => ?_⟩
   ·replace h29 := of_decide_eq_true h29
    refine .inl ⟨_, _, _, _, h6E, ⟨rfl, by omega⟩, ?_⟩
    refine ⟨_, (hV27).len, ?_⟩
    refine ⟨_, (hV27).len, ?_⟩
    refine ⟨_, s_l01Next_ok B E.2.2.2.2.1 hS27, ?_⟩
    rintro _ G35 ⟨z35, rfl, hz35, hf35, hS35⟩
    refine ⟨⟨kept1 h6E (hf35.get h6E (by omega)), trivial⟩, ?_⟩
    have hV35 := hV27.fr hf35 (nsp fun k hk => (hk15 k hk).1)
    obtain ⟨x35, rfl⟩ : ∃ x : Nat, z35 = (x : Int) := ⟨z35.toNat, by have := hz35.1; omega⟩
    have hb35 := hz35.2.2 (by omega)
    have zz36 := (hV35).at x35 (by omega)
    obtain ⟨k36, o36, n36, c36, q36, ea36, hl36, hq36, r36, N36, f36, hk36, hN36, hf36⟩ := zz36
    refine ⟨k36, o36, n36, c36, x35, q36, ea36, rfl, hl36, hq36, ?_⟩
    refine ⟨_, _, _, _, _, hk36, ⟨by simp, hN36⟩, hf36, ?_⟩
    refine ⟨_, s_l01Next_ok B E.2.2.2.2.1 hS35, ?_⟩
    rintro _ G42 ⟨z42, rfl, hz42, hf42, hS42⟩
    have hkA := (hk15 k36 (by rw [ea36]; simp [spB]))
    have hkA2 := hf42.get hk36 (by omega)
    refine ⟨⟨kept1 hk36 hkA2, kept1 (hf35.get h6E (by omega)) (hf42.get (hf35.get h6E (by omega)) (by omega)), trivial⟩, ?_⟩
    have hV42 := hV35.fr hf42 (nsp fun k hk => (hk15 k hk).1)
    obtain ⟨x42, rfl⟩ : ∃ x : Nat, z42 = (x : Int) := ⟨z42.toNat, by have := hz42.1; omega⟩
    have hb42 := hz42.2.2 (by omega)
    have e2 := hf42.get (hf35.get h2E (by omega)) (by omega)
    have e3 := hf42.get (hf35.get h3E (by omega)) (by omega)
    have e4 := hf42.get (hf35.get h4E (by omega)) (by omega)
    have e6 := hf42.get (hf35.get h6E (by omega)) (by omega)
    have hXF := (hXE.fr' hf35 (by omega)).fr' hf42 (by omega)
    have zz43 := (hV42).at x42 (by omega)
    obtain ⟨k43, o43, n43, c43, q43, ea43, hl43, hq43, r43, N43, f43, hk43, hN43, hf43⟩ := zz43
    refine ⟨k43, o43, n43, c43, x42, q43, ea43, rfl, hl43, hq43, ?_⟩
    refine ⟨_, _, _, _, _, hk43, ⟨by simp, hN43⟩, hf43, ?_⟩
    have hkB := (hk15 k43 (by rw [ea43]; simp [spB]))
    refine ⟨_, _, _, e2, cputs_2, eqBk_rfl, ?_⟩
    refine ⟨⟨kept1 hk43 (set_other hk43 (by omega)), kept1 hkA2 (set_other hkA2 (by omega)), kept1 e6 (set_other e6 (by omega)), trivial⟩, ?_⟩
    refine ⟨_, _, _, set_other e3 (by omega), cputs_by (by simp) (by omega), eqBk_rfl, ?_⟩
    refine ⟨⟨kept1 (set_other hk43 (by omega)) (set_other (set_other hk43 (by omega)) (by omega)), kept1 (set_other hkA2 (by omega)) (set_other (set_other hkA2 (by omega)) (by omega)), kept1 (set_other e6 (by omega)) (set_other (set_other e6 (by omega)) (by omega)), trivial⟩, ?_⟩
    refine ⟨_, _, _, set_other (set_other e4 (by omega)) (by omega), cputs_by (by simp) (by omega), eqBk_rfl, ?_⟩
    exact ⟨rfl, false, _, 522, _, set_other (set_other (set_same e2) (by omega)) (by omega), ⟨rfl, by omega⟩, false, [], 8, _, _, set_other (set_same (set_other e3 (by omega))) (by omega), ⟨by simp, by omega⟩, fun x hx => rfl, false, [], 8, _, _, set_same (set_other (set_other e4 (by omega)) (by omega)), ⟨by simp, by omega⟩, fun x hx => rfl, ⟨_, _, _, _, _, rfl, ((hXF.set (by omega)).set (by omega)).set (by omega)⟩⟩
   ·replace h29 := of_decide_eq_false h29
    refine .inl ⟨_, _, _, _, h6E, ⟨rfl, by omega⟩, ?_⟩
    refine .inl ⟨_, _, _, _, h6E, ⟨rfl, by omega⟩, ?_⟩
    refine .inl ⟨_, _, _, _, h6E, ⟨rfl, by omega⟩, ?_⟩
    refine ⟨_, s_l02Any_ok B E.2.2.2.2.2 (p := p) (q := q) (f := f) hSE, ?_⟩
    rintro _ G48 ⟨v48, rfl, hf48, hS48⟩
    refine ⟨⟨kept1 h6E (hf48.get h6E (by omega)), kept1 h6E (hf48.get h6E (by omega)), trivial⟩, ?_⟩
    refine ⟨_, s_l02Any_ok B E.2.2.2.2.2 (p := p) (q := q) (f := f) hS48, ?_⟩
    rintro _ G51 ⟨v51, rfl, hf51, hS51⟩
    refine ⟨⟨kept1 (hf48.get h6E (by omega)) (hf51.get (hf48.get h6E (by omega)) (by omega)), kept1 (hf48.get h6E (by omega)) (hf51.get (hf48.get h6E (by omega)) (by omega)), trivial⟩, ?_⟩
    have e2 := hf51.get (hf48.get h2E (by omega)) (by omega)
    have e3 := hf51.get (hf48.get h3E (by omega)) (by omega)
    have e4 := hf51.get (hf48.get h4E (by omega)) (by omega)
    have hXF := (hXE.fr' hf48 (by omega)).fr' hf51 (by omega)
    refine ⟨_, _, _, e2, cputs_2, eqBk_rfl, ?_⟩
    refine ⟨_, _, _, set_other e3 (by omega), cputs_by (by simp) (by omega), eqBk_rfl, ?_⟩
    refine ⟨_, _, _, set_other (set_other e4 (by omega)) (by omega), cputs_by (by simp) (by omega), eqBk_rfl, ?_⟩
    exact ⟨rfl, false, _, 522, _, set_other (set_other (set_same e2) (by omega)) (by omega), ⟨rfl, by omega⟩, false, [], 8, _, _, set_other (set_same (set_other e3 (by omega))) (by omega), ⟨by simp, by omega⟩, fun x hx => rfl, false, [], 8, _, _, set_same (set_other (set_other e4 (by omega)) (by omega)), ⟨by simp, by omega⟩, fun x hx => rfl, ⟨_, _, _, _, _, rfl, ((hXF.set (by omega)).set (by omega)).set (by omega)⟩⟩
  ·replace h25 := of_decide_eq_false h25
   iterate 4 refine brB_f ?_
   refine .inl ⟨_, _, _, _, h6E, ⟨rfl, by omega⟩, ?_⟩
   refine .inl ⟨_, _, _, _, h6E, ⟨rfl, by omega⟩, ?_⟩
   refine .inl ⟨_, _, _, _, h6E, ⟨rfl, by omega⟩, ?_⟩
   refine ⟨_, s_l02Any_ok B E.2.2.2.2.2 (p := p) (q := q) (f := f) hSE, ?_⟩
   rintro _ G48 ⟨v48, rfl, hf48, hS48⟩
   refine ⟨⟨kept1 h6E (hf48.get h6E (by omega)), kept1 h6E (hf48.get h6E (by omega)), trivial⟩, ?_⟩
   refine ⟨_, s_l02Any_ok B E.2.2.2.2.2 (p := p) (q := q) (f := f) hS48, ?_⟩
   rintro _ G51 ⟨v51, rfl, hf51, hS51⟩
   refine ⟨⟨kept1 (hf48.get h6E (by omega)) (hf51.get (hf48.get h6E (by omega)) (by omega)), kept1 (hf48.get h6E (by omega)) (hf51.get (hf48.get h6E (by omega)) (by omega)), trivial⟩, ?_⟩
   have e2 := hf51.get (hf48.get h2E (by omega)) (by omega)
   have e3 := hf51.get (hf48.get h3E (by omega)) (by omega)
   have e4 := hf51.get (hf48.get h4E (by omega)) (by omega)
   have hXF := (hXE.fr' hf48 (by omega)).fr' hf51 (by omega)
   refine ⟨_, _, _, e2, cputs_2, eqBk_rfl, ?_⟩
   refine ⟨_, _, _, set_other e3 (by omega), cputs_by (by simp) (by omega), eqBk_rfl, ?_⟩
   refine ⟨_, _, _, set_other (set_other e4 (by omega)) (by omega), cputs_by (by simp) (by omega), eqBk_rfl, ?_⟩
   exact ⟨rfl, false, _, 522, _, set_other (set_other (set_same e2) (by omega)) (by omega), ⟨rfl, by omega⟩, false, [], 8, _, _, set_other (set_same (set_other e3 (by omega))) (by omega), ⟨by simp, by omega⟩, fun x hx => rfl, false, [], 8, _, _, set_same (set_other (set_other e4 (by omega)) (by omega)), ⟨by simp, by omega⟩, fun x hx => rfl, ⟨_, _, _, _, _, rfl, ((hXF.set (by omega)).set (by omega)).set (by omega)⟩⟩
 ·replace h20 := ne_of_beq_false h20
  iterate 8 refine brB_f ?_
  refine .inl ⟨_, _, _, _, h6E, ⟨rfl, by omega⟩, ?_⟩
  refine .inl ⟨_, _, _, _, h6E, ⟨rfl, by omega⟩, ?_⟩
  refine .inl ⟨_, _, _, _, h6E, ⟨rfl, by omega⟩, ?_⟩
  refine ⟨_, s_l02Any_ok B E.2.2.2.2.2 (p := p) (q := q) (f := f) hSE, ?_⟩
  rintro _ G48 ⟨v48, rfl, hf48, hS48⟩
  refine ⟨⟨kept1 h6E (hf48.get h6E (by omega)), kept1 h6E (hf48.get h6E (by omega)), trivial⟩, ?_⟩
  refine ⟨_, s_l02Any_ok B E.2.2.2.2.2 (p := p) (q := q) (f := f) hS48, ?_⟩
  rintro _ G51 ⟨v51, rfl, hf51, hS51⟩
  refine ⟨⟨kept1 (hf48.get h6E (by omega)) (hf51.get (hf48.get h6E (by omega)) (by omega)), kept1 (hf48.get h6E (by omega)) (hf51.get (hf48.get h6E (by omega)) (by omega)), trivial⟩, ?_⟩
  have e2 := hf51.get (hf48.get h2E (by omega)) (by omega)
  have e3 := hf51.get (hf48.get h3E (by omega)) (by omega)
  have e4 := hf51.get (hf48.get h4E (by omega)) (by omega)
  have hXF := (hXE.fr' hf48 (by omega)).fr' hf51 (by omega)
  refine ⟨_, _, _, e2, cputs_2, eqBk_rfl, ?_⟩
  refine ⟨_, _, _, set_other e3 (by omega), cputs_by (by simp) (by omega), eqBk_rfl, ?_⟩
  refine ⟨_, _, _, set_other (set_other e4 (by omega)) (by omega), cputs_by (by simp) (by omega), eqBk_rfl, ?_⟩
  exact ⟨rfl, false, _, 522, _, set_other (set_other (set_same e2) (by omega)) (by omega), ⟨rfl, by omega⟩, false, [], 8, _, _, set_other (set_same (set_other e3 (by omega))) (by omega), ⟨by simp, by omega⟩, fun x hx => rfl, false, [], 8, _, _, set_same (set_other (set_other e4 (by omega)) (by omega)), ⟨by simp, by omega⟩, fun x hx => rfl, ⟨_, _, _, _, _, rfl, ((hXF.set (by omega)).set (by omega)).set (by omega)⟩⟩

set_option maxHeartbeats 2000000 in
theorem s_DrawIsSubcoalgebra_ok (B : Bs P ρ) (E : F_s_DrawIsSubcoalgebra P ρ) {H : List Blk} {a : At} (hC : CB H a) :
  CallR P ρ 409 [a] H (fun u G => ∃ (p q : Int) (f : By) (b : At) (L : List By), u = .tup [.ag [p, q] 522 f, b] ∧ VS G b L ∧ (∀ v ∈ L, ∀ x, 8 ≤ x → v x = 0) ∧ L.length ≤ 100 ∧ Ext H G) := by
 refine call_of_q B.fn B.mo E.1 rfl (fun hAr hHp => ?_) (by simp only [List.all_cons, List.all_nil, hC.lt]; rfl)
 refine ⟨_, rfl, ?_⟩
 refine ⟨_, s_l01From_ok B E.2.1 (hC.ext Ext.app), ?_⟩
 rintro _ G10 ⟨rfl, hE10, hS10⟩
 generalize hs : (H ++ [(⟨false, (Zk.by 2 522).bk⟩ : Blk)]).length = s at hS10
 have hs2 : s = H.length + 1 := by rw [← hs]; simp
 refine ⟨_, s_l02One_ok B E.2.2.1 (hC.ext (Ext.app.trans hE10)), ?_⟩
 rintro _ G13 ⟨p, q, f, v, rfl, hE13⟩
 have hm2 := hE13 _ _ (hE10 _ _ get_new)
 have hS13 := hS10.ext hE13
 have hl13 := hS13.lt
 have hX13 : Ext H G13 := (Ext.app.trans hE10).trans hE13
 refine ⟨G13.length + 0, rfl, ?_⟩
 refine ⟨G13.length + 1, by simp, ?_⟩
 rw [ap2]
 refine ⟨_, _, _, at_k, cputs_2, eqBk_rfl, ?_⟩
 rw [app_set]
 refine ⟨_, _, _, at_k, cputs_by (by simp) (by omega), eqBk_rfl, ?_⟩
 rw [app_set]
 refine .inl ⟨_, _, _, _, at_k, ⟨rfl, by omega⟩, ?_⟩
 refine ⟨_, _, _, _, v, at_k, ⟨by simp, by omega⟩, fun x hx => by simp [spl, hx], ?_⟩
 refine ⟨G13.length + 2, by simp, ?_⟩
 rw [as1]
 refine ⟨_, s_l02Code_ok B E.2.2.2.1 (p := p) (n := q) (f := f) (L := [v]) (VS.at8 (at_k (i := 2)) (Nat.le_refl 8) fun x hx => by simp [spl, hx]) (by simp), ?_⟩
 rintro _ _ ⟨rfl, rfl⟩
 generalize hGG : G13 ++ _ = GG
 have h2E : GG[H.length]? = some ⟨false, (Zk.by 2 522).bk⟩ := by rw [← hGG]; exact app_old hm2
 have h5E : GG[G13.length + 0]? = some ⟨false, .by [p, q] 522 f⟩ := by rw [← hGG]; exact at_k (i := 0)
 have h6E : GG[G13.length + 1]? = some ⟨false, .by [] 8 (spl (fun _ => 0) 0 8 v)⟩ := by rw [← hGG]; exact at_k (i := 1)
 have hSE : Src GG s := by rw [← hGG]; exact hS13.ext Ext.app
 have hXE : Ext H GG := by rw [← hGG]; exact hX13.trans Ext.app
 refine ⟨fun h21 => ?_, fun h21 => ?_⟩
 ·replace h21 := eq_of_beq h21
  have hq : cgQ p q f [v] := oc_0 h21
  refine brB_t ?_
  refine ⟨_, s_l01Next_ok B E.2.2.2.2.1 hSE, ?_⟩
  rintro _ G23 ⟨z23, rfl, hz23, hf23, hS23⟩
  replace h2E := hf23.get h2E (by omega)
  replace h5E := hf23.get h5E (by omega)
  replace h6E := hf23.get h6E (by omega)
  replace hSE := hS23
  replace hXE := hXE.fr' hf23 (by omega)
  iterate 2 refine brB_t ?_
  refine ⟨fun h25 => ?_, fun h25 => ?_⟩
  ·replace h25 := eq_of_beq h25
   obtain ⟨q, rfl⟩ : ∃ k : Nat, q = (k : Int) := ⟨q.toNat, by have := hq.1.1.1.2.1; omega⟩
   refine .inl ⟨_, _, _, _, h5E, ⟨rfl, by omega⟩, ?_⟩
   refine .inl ⟨_, _, _, _, h5E, ⟨rfl, by omega⟩, ?_⟩
   refine ⟨_, _, _, _, v, h6E, ⟨by simp, by omega⟩, fun x hx => by simp [spl, hx], ?_⟩
   refine ⟨_, s_l02Sub_ok B E.2.2.2.2.2.1 hq.1, ?_⟩
   rintro _ G29 ⟨b29, rfl, hE29, hV29⟩
   refine ⟨⟨kept1 h5E (hE29 _ _ h5E), trivial⟩, ?_⟩
   refine ⟨_, _, _, hE29 _ _ h2E, cputs_2, eqBk_rfl, ?_⟩
   refine ⟨rfl, false, _, 522, _, set_same (hE29 _ _ h2E), ⟨rfl, by omega⟩, ⟨_, _, _, _, _, rfl, hV29.set2 (hE29 _ _ h2E), ?_, ?_, (hXE.trans hE29).set (by omega)⟩⟩
   ·have hb := AShp.p1 hq.1.1
    exact fun u hu => ((redL_rr hq.1.1.1.1 (ls_vp (n := q) (f := f) (v := v) (by omega) (by omega))).1.vp u hu).2
   ·have hb := AShp.p1 hq.1.1
    have := (redL_rr hq.1.1.1.1 (ls_vp (n := q) (f := f) (v := v) (by omega) (by omega))).1.len
    omega
  ·replace h25 := ne_of_beq_false h25
   have hlE := lt_of h6E
   refine ⟨_, rfl, ?_⟩
   refine ⟨_, s_l01Next_ok B E.2.2.2.2.1 (hSE.ext Ext.app), ?_⟩
   rintro _ G32 ⟨z32, rfl, hz32, hf32, hS32⟩
   have h2F := hf32.get (app_old h2E) (by omega)
   have h5F := hf32.get (app_old h5E) (by omega)
   have hVF := VW.nil' (m := G13.length + 1) (hf32.get get_new (by omega)) (by omega)
   have hXF := (hXE.trans Ext.app).fr' hf32 (by omega)
   obtain ⟨x32, rfl⟩ : ∃ x : Nat, z32 = (x : Int) := ⟨z32.toNat, by have := hz32.1; omega⟩
   have hb32 := hz32.2.2 (by omega)
   refine ⟨At × List By × Int, (fun a2 a4 a5 (i0 : Nat) (x0 : At × List By × Int) => match x0 with | ⟨x, L, z⟩ => [(2, a2), (4, a4), (5, a5), (7, .one x), (8, .one (.i .i64 z))]) _ _ _ , fun (i0 : Nat) (x0 : At × List By × Int) (G0 : List Blk) => match x0 with | ⟨x, L, z⟩ => (VW (G13.length + 1) G0 x L ∧ z = (x32 : Int) - (i0 : Nat) ∧ L.length = i0 ∧ (∀ v ∈ L, ∀ y, 8 ≤ y → v y = 0) ∧ G0[H.length]? = some ⟨false, (Zk.by 2 522).bk⟩ ∧ G0[G13.length + 0]? = some ⟨false, .by [p, q] 522 f⟩ ∧ Src G0 s ∧ Ext H G0), x32, ⟨(_, [], _), ⟨hVF, by omega, rfl, fun v hv => by simp at hv, h2F, h5F, hS32, hXF⟩, ⟨rfl, rfl, rfl, rfl, rfl, trivial⟩⟩, ?_⟩
   rintro i0 ⟨x, L, z⟩ G0 hi0 ⟨hV0, hz0, hL0, hZ0, h20, h50, hS0, hX0⟩
   refine ⟨fun h34 => ?_, fun h34 => ?_⟩
   ·replace h34 := of_decide_eq_true h34
    refine .inl ⟨_, _, _, _, h50, ⟨rfl, by omega⟩, ?_⟩
    refine ⟨_, s_l02Any_ok B E.2.2.2.2.2.2 (p := p) (q := q) (f := f) hS0, ?_⟩
    rintro _ G40 ⟨v40, rfl, hf40, hS40⟩
    refine ⟨_, rfl, ?_⟩
    have hge := hV0.ge
    have hV40 := (hV0.fr hf40 (by simp; omega)).ext (Ext.app (G := [(⟨false, .by [] (1 * 8) (spl (fun _ => 0) (0 * 8) 8 v40)⟩ : Blk)]))
    have hl40 := lt_of (hf40.get h50 (by omega))
    refine ⟨_, vw_appF hV40 (M := [tr8 v40]) (VS.at8 get_new (Nat.le_refl 8) fun x hx => by simp [spl, tr8, hx]) (by simp; omega) (by simp; omega), ?_⟩
    rintro a42 G42 ⟨hv42, hf42, hb42, hl42⟩
    refine ⟨_, w64_id _ (by omega) (by omega), ?_⟩
    refine ⟨by omega, (_, L ++ [tr8 v40], _), ?_, ⟨rfl, rfl, rfl, rfl, rfl, trivial⟩⟩
    obtain ⟨A, hA1, hA2⟩ := hV40.own
    dsimp only
    refine ⟨hv42, by omega, by simp; omega, fun u hu y hy => ?_, hf42.get (app_old (hf40.get h20 (by omega))) (by omega), hf42.get (app_old (hf40.get h50 (by omega))) (by omega), (hS40.ext Ext.app).frk hf42 hA1 hA2 (by omega), ((hX0.fr' hf40 (by omega)).trans Ext.app).fr' hf42 (by omega)⟩
    rcases List.mem_append.1 hu with h | h
    ·exact hZ0 u h y hy
    ·rw [List.mem_singleton.1 h]; unfold tr8; rw [if_neg (by omega)]
   ·replace h34 := of_decide_eq_false h34
    refine .inl ⟨_, _, _, _, h50, ⟨rfl, by omega⟩, ?_⟩
    refine ⟨_, _, _, h20, cputs_2, eqBk_rfl, ?_⟩
    exact ⟨rfl, false, _, 522, _, set_same h20, ⟨rfl, by omega⟩, ⟨_, _, _, _, _, rfl, hV0.vs.set2 h20, hZ0, by omega, hX0.set (by omega)⟩⟩
 ·replace h21 := ne_of_beq_false h21
  iterate 4 refine brB_f ?_
  have hlE := lt_of h6E
  refine ⟨_, rfl, ?_⟩
  refine ⟨_, s_l01Next_ok B E.2.2.2.2.1 (hSE.ext Ext.app), ?_⟩
  rintro _ G32 ⟨z32, rfl, hz32, hf32, hS32⟩
  have h2F := hf32.get (app_old h2E) (by omega)
  have h5F := hf32.get (app_old h5E) (by omega)
  have hVF := VW.nil' (m := G13.length + 1) (hf32.get get_new (by omega)) (by omega)
  have hXF := (hXE.trans Ext.app).fr' hf32 (by omega)
  obtain ⟨x32, rfl⟩ : ∃ x : Nat, z32 = (x : Int) := ⟨z32.toNat, by have := hz32.1; omega⟩
  have hb32 := hz32.2.2 (by omega)
  refine ⟨At × List By × Int, (fun a2 a4 a5 (i1 : Nat) (x1 : At × List By × Int) => match x1 with | ⟨x, L, z⟩ => [(2, a2), (4, a4), (5, a5), (7, .one x), (8, .one (.i .i64 z))]) _ _ _ , fun (i1 : Nat) (x1 : At × List By × Int) (G1 : List Blk) => match x1 with | ⟨x, L, z⟩ => (VW (G13.length + 1) G1 x L ∧ z = (x32 : Int) - (i1 : Nat) ∧ L.length = i1 ∧ (∀ v ∈ L, ∀ y, 8 ≤ y → v y = 0) ∧ G1[H.length]? = some ⟨false, (Zk.by 2 522).bk⟩ ∧ G1[G13.length + 0]? = some ⟨false, .by [p, q] 522 f⟩ ∧ Src G1 s ∧ Ext H G1), x32, ⟨(_, [], _), ⟨hVF, by omega, rfl, fun v hv => by simp at hv, h2F, h5F, hS32, hXF⟩, ⟨rfl, rfl, rfl, rfl, rfl, trivial⟩⟩, ?_⟩
  rintro i1 ⟨x, L, z⟩ G1 hi1 ⟨hV0, hz0, hL0, hZ0, h20, h50, hS0, hX0⟩
  refine ⟨fun h34 => ?_, fun h34 => ?_⟩
  ·replace h34 := of_decide_eq_true h34
   refine .inl ⟨_, _, _, _, h50, ⟨rfl, by omega⟩, ?_⟩
   refine ⟨_, s_l02Any_ok B E.2.2.2.2.2.2 (p := p) (q := q) (f := f) hS0, ?_⟩
   rintro _ G40 ⟨v40, rfl, hf40, hS40⟩
   refine ⟨_, rfl, ?_⟩
   have hge := hV0.ge
   have hV40 := (hV0.fr hf40 (by simp; omega)).ext (Ext.app (G := [(⟨false, .by [] (1 * 8) (spl (fun _ => 0) (0 * 8) 8 v40)⟩ : Blk)]))
   have hl40 := lt_of (hf40.get h50 (by omega))
   refine ⟨_, vw_appF hV40 (M := [tr8 v40]) (VS.at8 get_new (Nat.le_refl 8) fun x hx => by simp [spl, tr8, hx]) (by simp; omega) (by simp; omega), ?_⟩
   rintro a42 G42 ⟨hv42, hf42, hb42, hl42⟩
   refine ⟨_, w64_id _ (by omega) (by omega), ?_⟩
   refine ⟨by omega, (_, L ++ [tr8 v40], _), ?_, ⟨rfl, rfl, rfl, rfl, rfl, trivial⟩⟩
   obtain ⟨A, hA1, hA2⟩ := hV40.own
   dsimp only
   refine ⟨hv42, by omega, by simp; omega, fun u hu y hy => ?_, hf42.get (app_old (hf40.get h20 (by omega))) (by omega), hf42.get (app_old (hf40.get h50 (by omega))) (by omega), (hS40.ext Ext.app).frk hf42 hA1 hA2 (by omega), ((hX0.fr' hf40 (by omega)).trans Ext.app).fr' hf42 (by omega)⟩
   rcases List.mem_append.1 hu with h | h
   ·exact hZ0 u h y hy
   ·rw [List.mem_singleton.1 h]; unfold tr8; rw [if_neg (by omega)]
  ·replace h34 := of_decide_eq_false h34
   refine .inl ⟨_, _, _, _, h50, ⟨rfl, by omega⟩, ?_⟩
   refine ⟨_, _, _, h20, cputs_2, eqBk_rfl, ?_⟩
   exact ⟨rfl, false, _, 522, _, set_same h20, ⟨rfl, by omega⟩, ⟨_, _, _, _, _, rfl, hV0.vs.set2 h20, hZ0, by omega, hX0.set (by omega)⟩⟩

end Hf
namespace Hf
open Go Classical
variable {P : Program} {ρ : Nat → FuncId}
theorem cg_tm {p x : Int} (h : cg p x 0) : x.tmod p = 0 := by
 unfold cg at h
 rw [Int.zero_emod] at h
 exact Int.tmod_eq_zero_of_dvd (Int.dvd_of_emod_eq_zero h)
theorem gsC_0 {p n : Int} {f : By} (h : gsC p n f = 0) : Cog p n f ∧ p.toNat ^ n.toNat ≤ 5000 ∧ gsX p n f = gsL p n.toNat f := by
 refine ⟨?_, ?_, if_pos h⟩
 ·apply Classical.byContradiction
  intro z
  unfold gsC at h
  rw [if_neg z] at h
  cases h
 ·apply Classical.byContradiction
  intro z
  unfold gsC at h
  split at h
  ·rw [if_pos (by omega)] at h; cases h
  ·cases h
theorem gsX_len {p n : Int} {f : By} : (gsX p n f).length ≤ 5000 := by
 by_cases h : gsC p n f = 0
 ·obtain ⟨h1, h2, h3⟩ := gsC_0 h
  rw [h3]
  exact Nat.le_trans gsM_len h2
 ·unfold gsX; rw [if_neg h]; simp
theorem vp_rv {p : Int} {n : Nat} {v : By} (hn : n ≤ 8) (h : Vp n p v) : Vec p n v 0 ∧ ∀ x, 8 ≤ x → v x = 0 := ⟨vp_vec h, fun x hx => h.2 x (by omega)⟩
theorem gs_rv {p n : Int} {f : By} (h : gsC p n f = 0) : rvQ p n (gsX p n f) ∧ (redL p (gsX p n f)).length = (gsX p n f).length := by
 obtain ⟨hC, -, h3⟩ := gsC_0 h
 have hb := AShp.p1 hC.1
 obtain ⟨n, rfl⟩ : ∃ k : Nat, n = (k : Int) := ⟨n.toNat, by omega⟩
 rw [h3, Int.toNat_natCast]
 exact ⟨⟨hC.1.1, fun v hv => vp_rv (by omega) (gsL_mem hC.1.1.1 hv).1⟩, gsL_red hC.1.1.1 (by omega)⟩
theorem ps_0 {p n : Int} {f g h : By} (e : psC p n f g h = 0) : cgQ p n f [g, h] ∧ psX p n f g h = prK p n.toNat f g h := by
 refine ⟨?_, if_pos e⟩
 apply Classical.byContradiction
 intro z
 rw [psC_1 z] at e
 cases e
theorem psX_len {p n : Int} {f g h : By} : (psX p n f g h).length ≤ 8 := by
 by_cases e : psC p n f g h = 0
 ·obtain ⟨h1, h2⟩ := ps_0 e
  have hb := AShp.p1 h1.1.1
  rw [h2]
  exact (prK_rr h1.1.1.1.1 (by omega)).len
 ·unfold psX; rw [if_neg e]; simp
theorem psX_vn {p : Int} {n : Nat} {f g h : By} (e : psC p n f g h = 0) : ∀ v ∈ psX p n f g h, Vp n p v ∧ Sp' 8 p (prK p n f g h) v := by
 obtain ⟨h1, h2⟩ := ps_0 e
 have hb := AShp.p1 h1.1.1
 intro v hv
 rw [h2, Int.toNat_natCast] at hv
 have hs : Sp' 8 p (prK p n f g h) v := .mem (by omega) (by omega) hv ((prK_rr h1.1.1.1.1 (by omega)).vp v hv)
 exact ⟨((kerL_iff h1.1.1.1.1 (by omega) (eqnL_vp (by omega) (by omega))).1 hs).1, hs⟩
theorem lsX_t {p : Int} {n : Nat} {f v : By} (h : cgQ p n f [v]) : lsX p n f v = redL p (lsL p n f v) := by unfold lsX; rw [if_pos h, Int.toNat_natCast]
theorem lsX_len {p n : Int} {f v : By} : (lsX p n f v).length ≤ 8 := by
 unfold lsX
 split
 ·rename_i h
  have hb := AShp.p1 h.1.1
  exact (redL_rr h.1.1.1.1 (ls_vp (by omega) (by omega))).1.len
 ·simp
theorem lsL_tr8 {p : Int} {n : Nat} {f v : By} (hn : n ≤ 8) : lsL p n f (tr8 v) = lsL p n f v := by
 have e : ∀ j, cpR p f (tr8 v) n j = cpR p f v n j := fun j => by
  unfold cpR
  exact vec_congr fun y hy => cg_of_eq (sm_congr fun i hi => by rw [bz_c (show tr8 v i = v i by unfold tr8; rw [if_pos (by omega)])])
 unfold lsL
 simp only [e]
/-- what the law says of the least subcoalgebra -/
theorem lsX_law {p : Int} {n : Nat} {f v : By} (h : cgQ p n f [v]) : (iscV p n f (lsX p n f v) = true ∧ cgQ p n f (lsX p n f v)) ∧ (∀ u ∈ lsX p n f v, ∀ x, 8 ≤ x → u x = 0) ∧ rvQ p n (lsX p n f v ++ [tr8 v]) ∧ redL p (lsX p n f v ++ [tr8 v]) = lsX p n f v := by
 have hb := AShp.p1 h.1.1
 have hn : n ≤ 8 := by omega
 have hv : Vp n p (tr8 v) := by
  have q := h.2 v (by simp)
  refine rvQ.vp (L := [tr8 v]) ⟨h.1.1.1, fun w hw => ?_⟩ _ (by simp)
  rw [List.mem_singleton.1 hw]
  refine ⟨fun k hk => ?_, fun x hx => by unfold tr8; rw [if_neg (by omega)]⟩
  have e : bz (tr8 v) (0 + k) = bz v (0 + k) := bz_c (by unfold tr8; rw [if_pos (by omega)])
  rw [e]; exact q k hk
 obtain ⟨q1, q2, q3, q4⟩ := ls_law h.1 hv
 rw [lsL_tr8 hn] at q1 q2 q3 q4
 rw [lsX_t h]
 have hc : cgQ p n f (redL p (lsL p n f v)) := ⟨h.1, fun u hu => vp_vec (q4 u hu)⟩
 refine ⟨⟨?_, hc⟩, fun u hu x hx => (q4 u hu).2 x (by omega), ⟨h.1.1.1, fun u hu => ?_⟩, q3⟩
 ·unfold iscV
  rw [if_pos hc, q2]
  exact decide_eq_true q1
 ·rcases List.mem_append.1 hu with z | z
  ·exact vp_rv hn (q4 u z)
  ·rw [List.mem_singleton.1 z]; exact vp_rv hn hv
set_option maxRecDepth 100000 in
set_option maxHeartbeats 8000000 in
theorem l_FnGroupLikes_ok (B : Bs P ρ) (E : F_l_FnGroupLikes P ρ) {H : List Blk} {a : At} (hV : CV H a) :
  CallR P ρ 414 [a] H (fun u G => u = .one (.b true) ∧ G = H) := by
 obtain ⟨n0, hn0, hn1⟩ := hV.len
 refine CallR.pure (call_of_q B.fn B.mo E.1 rfl (fun hAr hHp => ?_) (by simp only [List.all_cons, List.all_nil, hV.lt]; rfl)) rfl
 refine ⟨_, l_big_ok B E.2.1 hn0 hV.lt, ?_⟩
 rintro _ H ⟨rfl, rfl⟩
 refine ⟨fun h45 => ?_, fun h45 => ?_⟩
 ·skip
  exact ⟨rfl, rfl, Ext.refl⟩
 ·skip
  have hC : CB H a := hV.cb hn0 (by have hh := h45; simp at hh; omega)
  refine ⟨_, s_DrawIsGroupLike_ok B E.2.2.1 hC, ?_⟩
  rintro _ G48 ⟨pa, na, fa, va, rfl, hE48⟩
  refine ⟨G48.length + 0, rfl, ?_⟩
  refine ⟨G48.length + 1, by simp, ?_⟩
  rw [ap2]
  refine ⟨_, _, _, at_k, cputs_2, eqBk_rfl, ?_⟩
  rw [app_set]
  refine ⟨_, _, _, at_k, cputs_by (by simp) (by omega), eqBk_rfl, ?_⟩
  rw [app_set]
  refine .inl ⟨_, _, _, _, at_k, ⟨rfl, by omega⟩, ?_⟩
  refine ⟨_, _, _, _, va, at_k, ⟨by simp, by omega⟩, fun x hx => by simp [spl, hx], ?_⟩
  refine ⟨_, s_IsGroupLike_ok B E.2.2.2.1 (p := pa) (n := na) (f := fa) (v := va), rfl, ?_⟩
  refine .inl ⟨_, _, _, _, at_k, ⟨rfl, by omega⟩, ?_⟩
  refine ⟨_, _, _, _, va, at_k, ⟨by simp, by omega⟩, fun x hx => by simp [spl, hx], ?_⟩
  refine ⟨_, i_IsGroupLike_ok B E.2.2.2.2.1 (p := pa) (n := na) (f := fa) (v := va), rfl, ?_⟩
  refine ⟨fun h66 => ?_, fun h66 => ?_⟩
  ·replace h66 := bne_t h66
   exact absurd rfl h66
  ·replace h66 := bne_f h66
   iterate 3 refine brB_f ?_
   refine brB_f' (by simp) ?_
   refine ⟨_, s_DrawGroupLikes_ok B E.2.2.2.2.2.1 (hC.ext (hE48.trans Ext.app)), ?_⟩
   rintro _ G72 ⟨pb, nb, fb, rfl, hE72⟩
   refine ⟨G72.length + 0, rfl, ?_⟩
   refine ⟨_, _, _, at_k, cputs_2, eqBk_rfl, ?_⟩
   rw [app_set]
   refine .inl ⟨_, _, _, _, at_k, ⟨rfl, by omega⟩, ?_⟩
   refine ⟨_, s_GroupLikes_ok B E.2.2.2.2.2.2.1 (p := pb) (n := nb) (f := fb), ?_⟩
   rintro _ G75 ⟨b75, rfl, hE75, hV75, -⟩
   refine .inl ⟨_, _, _, _, hE75 _ _ (at_k (i := 0)), ⟨rfl, by omega⟩, ?_⟩
   refine ⟨_, i_GroupLikes_ok B E.2.2.2.2.2.2.2.1 (p := pb) (n := nb) (f := fb), ?_⟩
   rintro _ G80 ⟨b80, rfl, hE80, hV80, -⟩
   refine ⟨fun h86 => ?_, fun h86 => ?_⟩
   ·replace h86 := bne_t h86
    exact absurd rfl h86
   ·replace h86 := bne_f h86
    iterate 2 refine brB_f ?_
    refine ⟨_, l_vectors9_ok B E.2.2.2.2.2.2.2.2.1 (L := gsX pb nb fb) hV80 (hV75.ext hE80) (by have := @gsX_len pb nb fb; omega), ?_⟩
    rintro _ G89 ⟨rfl, rfl⟩
    have hk9 := hE80 _ _ (hE75 _ _ (at_k (i := 0)))
    have hX89 : Ext H G89 := (hE48.trans Ext.app).trans (hE72.trans (Ext.app.trans (hE75.trans hE80)))
    iterate 3 refine brB_f ?_
    refine ⟨_, s_DrawPrimitiveSpace_ok B E.2.2.2.2.2.2.2.2.2.1 (hC.ext hX89), ?_⟩
    rintro _ G94 ⟨pc, nc, fc, gc, hh, rfl, hE94⟩
    refine ⟨G94.length + 0, rfl, ?_⟩
    refine ⟨G94.length + 1, by simp, ?_⟩
    refine ⟨G94.length + 2, by simp, ?_⟩
    rw [ap3]
    refine ⟨_, _, _, at_k, cputs_2, eqBk_rfl, ?_⟩
    rw [app_set]
    refine ⟨_, _, _, at_k, cputs_by (by simp) (by omega), eqBk_rfl, ?_⟩
    rw [app_set]
    refine ⟨_, _, _, at_k, cputs_by (by simp) (by omega), eqBk_rfl, ?_⟩
    rw [app_set]
    refine .inl ⟨_, _, _, _, at_k, ⟨rfl, by omega⟩, ?_⟩
    refine ⟨_, _, _, _, gc, at_k, ⟨by simp, by omega⟩, fun x hx => by simp [spl, hx], ?_⟩
    refine ⟨_, _, _, _, hh, at_k, ⟨by simp, by omega⟩, fun x hx => by simp [spl, hx], ?_⟩
    refine ⟨_, s_PrimitiveSpace_ok B E.2.2.2.2.2.2.2.2.2.2.1 (p := pc) (n := nc) (f := fc) (g := gc) (h := hh), ?_⟩
    rintro _ G102 ⟨b102, rfl, hE102, hV102⟩
    refine .inl ⟨_, _, _, _, hE102 _ _ (at_k (i := 0)), ⟨rfl, by omega⟩, ?_⟩
    refine ⟨_, _, _, _, gc, hE102 _ _ (at_k (i := 1)), ⟨by simp, by omega⟩, fun x hx => by simp [spl, hx], ?_⟩
    refine ⟨_, _, _, _, hh, hE102 _ _ (at_k (i := 2)), ⟨by simp, by omega⟩, fun x hx => by simp [spl, hx], ?_⟩
    refine ⟨_, i_PrimitiveSpace_ok B E.2.2.2.2.2.2.2.2.2.2.2.1 (p := pc) (n := nc) (f := fc) (g := gc) (h := hh), ?_⟩
    rintro _ G109 ⟨b109, rfl, hE109, hV109⟩
    refine ⟨fun h115 => ?_, fun h115 => ?_⟩
    ·replace h115 := bne_t h115
     exact absurd rfl h115
    ·replace h115 := bne_f h115
     iterate 2 refine brB_f ?_
     refine ⟨_, l_vectors9_ok B E.2.2.2.2.2.2.2.2.1 (L := psX pc nc fc gc hh) hV109 (hV102.ext hE109) (by have := @psX_len pc nc fc gc hh; omega), ?_⟩
     rintro _ G118 ⟨rfl, rfl⟩
     have hk14 := hE109 _ _ (hE102 _ _ (at_k (i := 0)))
     have hk15 := hE109 _ _ (hE102 _ _ (at_k (i := 1)))
     have hk16 := hE109 _ _ (hE102 _ _ (at_k (i := 2)))
     have hY118 : Ext G89 G118 := hE94.trans (Ext.app.trans (hE102.trans hE109))
     iterate 3 refine brB_f ?_
     refine ⟨_, s_DrawLeastSubcoalgebra_ok B E.2.2.2.2.2.2.2.2.2.2.2.2.1 (hC.ext (hX89.trans hY118)), ?_⟩
     rintro _ G123 ⟨pd, nd, fd, vd, rfl, hE123⟩
     refine ⟨G123.length + 0, rfl, ?_⟩
     refine ⟨G123.length + 1, by simp, ?_⟩
     rw [ap2]
     refine ⟨_, _, _, at_k, cputs_2, eqBk_rfl, ?_⟩
     rw [app_set]
     refine ⟨_, _, _, at_k, cputs_by (by simp) (by omega), eqBk_rfl, ?_⟩
     rw [app_set]
     refine .inl ⟨_, _, _, _, at_k, ⟨rfl, by omega⟩, ?_⟩
     refine ⟨_, _, _, _, vd, at_k, ⟨by simp, by omega⟩, fun x hx => by simp [spl, hx], ?_⟩
     refine ⟨_, s_LeastSubcoalgebra_ok B E.2.2.2.2.2.2.2.2.2.2.2.2.2.1 (p := pd) (n := nd) (f := fd) (v := vd), ?_⟩
     rintro _ G129 ⟨b129, rfl, hE129, hV129⟩
     refine .inl ⟨_, _, _, _, hE129 _ _ (at_k (i := 0)), ⟨rfl, by omega⟩, ?_⟩
     refine ⟨_, _, _, _, vd, hE129 _ _ (at_k (i := 1)), ⟨by simp, by omega⟩, fun x hx => by simp [spl, hx], ?_⟩
     refine ⟨_, i_LeastSubcoalgebra_ok B E.2.2.2.2.2.2.2.2.2.2.2.2.2.2.1 (p := pd) (n := nd) (f := fd) (v := vd), ?_⟩
     rintro _ G135 ⟨b135, rfl, hE135, hV135⟩
     refine ⟨fun h141 => ?_, fun h141 => ?_⟩
     ·replace h141 := bne_t h141
      exact absurd rfl h141
     ·replace h141 := bne_f h141
      iterate 2 refine brB_f ?_
      refine ⟨_, l_vectors9_ok B E.2.2.2.2.2.2.2.2.1 (L := lsX pd nd fd vd) hV135 (hV129.ext hE135) (by have := @lsX_len pd nd fd vd; omega), ?_⟩
      rintro _ G144 ⟨rfl, rfl⟩
      have hk21 := hE135 _ _ (hE129 _ _ (at_k (i := 0)))
      have hk22 := hE135 _ _ (hE129 _ _ (at_k (i := 1)))
      have hY144 : Ext G118 G144 := hE123.trans (Ext.app.trans (hE129.trans hE135))
      iterate 3 refine brB_f ?_
      refine ⟨_, s_DrawIsSubcoalgebra_ok B E.2.2.2.2.2.2.2.2.2.2.2.2.2.2.2.1 (hC.ext ((hX89.trans hY118).trans hY144)), ?_⟩
      rintro _ G149 ⟨pe, ne, fe, be, Le, rfl, hVe, hZe, hle, hE149⟩
      refine ⟨G149.length + 0, rfl, ?_⟩
      refine ⟨_, _, _, at_k, cputs_2, eqBk_rfl, ?_⟩
      rw [app_set]
      refine .inl ⟨_, _, _, _, at_k, ⟨rfl, by omega⟩, ?_⟩
      refine ⟨_, s_IsSubcoalgebra_ok B E.2.2.2.2.2.2.2.2.2.2.2.2.2.2.2.2.1 (p := pe) (n := ne) (f := fe) (L := Le) (hVe.ext Ext.app) hZe (by omega), ?_⟩
      rintro _ G155 ⟨rfl, hE155⟩
      refine .inl ⟨_, _, _, _, hE155 _ _ (at_k (i := 0)), ⟨rfl, by omega⟩, ?_⟩
      refine ⟨_, i_IsSubcoalgebra_ok B E.2.2.2.2.2.2.2.2.2.2.2.2.2.2.2.2.2.1 (p := pe) (n := ne) (f := fe) (L := Le) ((hVe.ext Ext.app).ext hE155) hZe (by omega), ?_⟩
      rintro _ G161 ⟨rfl, hE161⟩
      have hY161 : Ext G144 G161 := hE149.trans (Ext.app.trans (hE155.trans hE161))
      have hX161 : Ext H G161 := ((hX89.trans hY118).trans hY144).trans hY161
      have hm9 := hY161 _ _ (hY144 _ _ (hY118 _ _ hk9))
      have hm14 := hY161 _ _ (hY144 _ _ hk14)
      have hm15 := hY161 _ _ (hY144 _ _ hk15)
      have hm16 := hY161 _ _ (hY144 _ _ hk16)
      have hm21 := hY161 _ _ hk21
      have hm22 := hY161 _ _ hk22
      have hG80 := hV80.ext ((hY118.trans hY144).trans hY161)
      have hG109 := hV109.ext (hY144.trans hY161)
      have hG135 := hV135.ext hY161
      refine ⟨fun h167 => ?_, fun h167 => ?_⟩
      ·replace h167 := bne_t h167
       exact absurd rfl h167
      ·replace h167 := bne_f h167
       iterate 3 refine brB_f ?_
       refine brB_f' (by simp) ?_
       refine ⟨Unit, (fun (y0 : Unit) => [(14, .one (.pt (G94.length + 0) 0)), (15, .one (.pt (G94.length + 1) 0)), (16, .one (.pt (G94.length + 2) 0)), (19, .one b109), (20, .one (.i .i64 (psC pc nc fc gc hh))), (21, .one (.pt (G123.length + 0) 0)), (22, .one (.pt (G123.length + 1) 0)), (25, .one b135), (26, .one (.i .i64 (oc (cgQ pd nd fd [vd]) 1)))]), fun (y0 : Unit) (GK0 : List Blk) => (Ext G161 GK0), ?_, ?_⟩
       ·skip
        refine ⟨fun h173 => ?_, fun h173 => ?_⟩
        ·replace h173 := eq_of_beq h173
         refine ⟨_, _, hm9, rfl, ?_⟩
         refine ⟨_, _, hm9, rfl, ?_⟩
         obtain ⟨hrv, hrl⟩ := gs_rv h173
         refine ⟨_, i_ReduceVectors_ok B E.2.2.2.2.2.2.2.2.2.2.2.2.2.2.2.2.2.2.1 (p := pb) (n := nb) (L := gsX pb nb fb) hG80 hrv (by have := @gsX_len pb nb fb; omega), ?_⟩
         rintro _ G180 ⟨b180, rfl, hE180, hV180⟩
         refine ⟨fun h185 => ?_, fun h185 => ?_⟩
         ·replace h185 := bne_t h185
          exact absurd rfl h185
         ·replace h185 := bne_f h185
          refine brB_f ?_
          refine ⟨_, (hV180.vs).len, ?_⟩
          iterate 2 refine brB_f ?_
          refine ⟨_, (hG80.ext hE180).len, ?_⟩
          iterate 2 refine brB_f ?_
          refine ⟨fun h191 => ?_, fun h191 => ?_⟩
          ·replace h191 := bne_t h191
           exact absurd (by rw [hrl]) h191
          ·replace h191 := bne_f h191
           exact ⟨(), hE180, ⟨rfl, rfl, rfl, rfl, rfl, rfl, rfl, rfl, rfl, trivial⟩⟩
        ·replace h173 := ne_of_beq_false h173
         exact ⟨(), Ext.refl, ⟨rfl, rfl, rfl, rfl, rfl, rfl, rfl, rfl, rfl, trivial⟩⟩
       rintro _ GK0 hK0
       have hn14 := hK0 _ _ hm14
       have hn15 := hK0 _ _ hm15
       have hn16 := hK0 _ _ hm16
       have hn21 := hK0 _ _ hm21
       have hn22 := hK0 _ _ hm22
       have hH109 := hG109.ext hK0
       have hH135 := hG135.ext hK0
       have hXK : Ext H GK0 := hX161.trans hK0
       refine ⟨Unit, (fun (y1 : Unit) => [(21, .one (.pt (G123.length + 0) 0)), (22, .one (.pt (G123.length + 1) 0)), (25, .one b135), (26, .one (.i .i64 (oc (cgQ pd nd fd [vd]) 1)))]), fun (y1 : Unit) (GK1 : List Blk) => (Ext GK0 GK1), ?_, ?_⟩
       ·skip
        refine ⟨fun h193 => ?_, fun h193 => ?_⟩
        ·replace h193 := eq_of_beq h193
         obtain ⟨hpq, hpx⟩ := ps_0 h193
         have hb := AShp.p1 hpq.1.1
         obtain ⟨nc, rfl⟩ : ∃ k : Nat, nc = (k : Int) := ⟨nc.toNat, by omega⟩
         have hnc : nc ≤ 8 := by omega
         have hpn := psX_vn h193
         refine ⟨Unit, (fun a14 a15 a16 a19 a21 a22 a25 a26 (i0 : Nat) (x0 : Unit) => [(14, a14), (15, a15), (16, a16), (19, a19), (21, a21), (22, a22), (25, a25), (26, a26), (35, .one (.i .i64 ((i0 : Nat) : Int)))]) _ _ _ _ _ _ _ _ , fun (i0 : Nat) (x0 : Unit) (G0 : List Blk) => (Ext GK0 G0), (psX pc nc fc gc hh).length, ⟨(), Ext.refl, ⟨rfl, rfl, rfl, rfl, rfl, rfl, rfl, rfl, rfl, trivial⟩⟩, ?_⟩
         rintro i0 _ G0 hi0 hE0
         have hpl := @psX_len pc nc fc gc hh
         have hb14 := hE0 _ _ hn14
         have hb15 := hE0 _ _ hn15
         have hb16 := hE0 _ _ hn16
         have hV0 := hH109.ext hE0
         refine ⟨_, (hV0).len, ?_⟩
         refine ⟨fun h197 => ?_, fun h197 => ?_⟩
         ·replace h197 := of_decide_eq_true h197
          refine .inl ⟨_, _, _, _, hb14, ⟨rfl, by omega⟩, ?_⟩
          have zz204 := (hV0).at i0 (by omega)
          obtain ⟨k204, o204, n204, c204, q204, ea204, hl204, hq204, r204, N204, f204, hk204, hN204, hf204⟩ := zz204
          refine ⟨k204, o204, n204, c204, i0, q204, ea204, rfl, hl204, hq204, ?_⟩
          obtain ⟨u, hu⟩ : ∃ u, (psX pc nc fc gc hh).getD i0 z0 = u := ⟨_, rfl⟩
          rw [hu] at hf204
          have hum : u ∈ psX pc nc fc gc hh := by rw [← hu]; exact getD_mem (by omega)
          have hqi := cgQ_1 hpq.1 (vp_vec (hpn u hum).1)
          refine ⟨_, _, _, _, _, hk204, ⟨by simp, hN204⟩, hf204, ?_⟩
          refine ⟨_, i_CoproductIn_ok B E.2.2.2.2.2.2.2.2.2.2.2.2.2.2.2.2.2.2.2 (p := pc) (n := (nc : Int)) (f := fc) (v := u), rfl, ?_⟩
          rw [oc_t hqi, coV_t hqi]
          refine ⟨_, rfl, ?_⟩
          refine ⟨⟨kept1 hk204 (app_old hk204), kept1 hb14 (app_old hb14), trivial⟩, ?_⟩
          refine ⟨_, _, .by [] 64 (cpF pc nc fc u), get_new, cputs_by (by simp) (by omega), ⟨rfl, rfl, fun x _ _ => congrFun spl_cp x⟩, ?_⟩
          rw [app_set0]
          refine ⟨fun h210 => ?_, fun h210 => ?_⟩
          ·replace h210 := bne_t h210
           exact absurd rfl h210
          ·replace h210 := bne_f h210
           refine ⟨Unit, (fun a14 a15 a16 a19 a21 a22 a25 a26 a35 a36 (i1 : Nat) (x1 : Unit) => [(14, a14), (15, a15), (16, a16), (19, a19), (21, a21), (22, a22), (25, a25), (26, a26), (35, a35), (36, a36), (38, .one (.i .i64 ((i1 : Nat) : Int)))]) _ _ _ _ _ _ _ _ _ _ , fun (i1 : Nat) (x1 : Unit) (G1 : List Blk) => (G1 = G0 ++ [⟨false, .by [] 64 (cpF pc nc fc u)⟩]), nc, ⟨(), rfl, ⟨rfl, rfl, rfl, rfl, rfl, rfl, rfl, rfl, rfl, rfl, rfl, trivial⟩⟩, ?_⟩
           rintro i1 _ G1 hi1 rfl
           refine ⟨_, _, app_old hb14, rfl, ?_⟩
           refine ⟨fun h214 => ?_, fun h214 => ?_⟩
           ·replace h214 := of_decide_eq_true h214
            refine ⟨Unit, (fun a14 a15 a16 a19 a21 a22 a25 a26 a35 a36 a38 (i2 : Nat) (x2 : Unit) => [(14, a14), (15, a15), (16, a16), (19, a19), (21, a21), (22, a22), (25, a25), (26, a26), (35, a35), (36, a36), (38, a38), (39, .one (.i .i64 ((i2 : Nat) : Int)))]) _ _ _ _ _ _ _ _ _ _ _ , fun (i2 : Nat) (x2 : Unit) (G2 : List Blk) => (G2 = G0 ++ [⟨false, .by [] 64 (cpF pc nc fc u)⟩]), nc, ⟨(), rfl, ⟨rfl, rfl, rfl, rfl, rfl, rfl, rfl, rfl, rfl, rfl, rfl, rfl, trivial⟩⟩, ?_⟩
            rintro i2 _ G2 hi2 rfl
            have hVp := hV0.ext (Ext.app (G := [(⟨false, .by [] 64 (cpF pc nc fc u)⟩ : Blk)]))
            have q0 := bz_nn (cpF pc nc fc u) (i1 * 8 + i2)
            have q1 := bz_le (cpF pc nc fc u) (i1 * 8 + i2)
            have q2 := bz2 u gc i1 i2
            have q3 := bz2 hh u i1 i2
            refine ⟨_, _, app_old hb14, rfl, ?_⟩
            refine ⟨fun h220 => ?_, fun h220 => ?_⟩
            ·replace h220 := of_decide_eq_true h220
             refine ⟨i1, _, rfl, by omega, rfl, ?_⟩
             refine ⟨i2, _, rfl, by omega, rfl, ?_⟩
             refine ⟨_, _, get_new, cat_bq (i1 * 8 + i2) (by omega) (by simp <;> omega) (by omega), ?_⟩
             have zz232 := (hVp).at i0 (by omega)
             obtain ⟨k232, o232, n232, c232, q232, ea232, hl232, hq232, r232, N232, f232, hk232, hN232, hf232⟩ := zz232
             refine ⟨k232, o232, n232, c232, i0, q232, ea232, rfl, hl232, hq232, ?_⟩
             rw [hu] at hf232
             refine ⟨i1, _, rfl, by omega, rfl, ?_⟩
             refine ⟨_, .u (u i1), hk232, (by rw [cat_bq (q232 + i1) (by omega) (by simp) (by omega), hf232 i1 (by omega)]), ?_⟩
             refine ⟨i2, _, rfl, by omega, rfl, ?_⟩
             refine ⟨_, .u (gc i2), app_old hb15, (by rw [cat_bq i2 (by omega) (by simp) (by omega)]; unfold spl; rw [if_pos (by omega), Nat.sub_zero]), ?_⟩
             refine ⟨bz u i1 * bz gc i2, w64_id (bz u i1 * bz gc i2) (by omega) (by omega), ?_⟩
             refine ⟨bz (cpF pc nc fc u) (i1 * 8 + i2) - bz u i1 * bz gc i2, w64_id (bz (cpF pc nc fc u) (i1 * 8 + i2) - bz u i1 * bz gc i2) (by omega) (by omega), ?_⟩
             refine ⟨i1, _, rfl, by omega, rfl, ?_⟩
             refine ⟨_, .u (hh i1), app_old hb16, (by rw [cat_bq i1 (by omega) (by simp) (by omega)]; unfold spl; rw [if_pos (by omega), Nat.sub_zero]), ?_⟩
             have zz249 := (hVp).at i0 (by omega)
             obtain ⟨k249, o249, n249, c249, q249, ea249, hl249, hq249, r249, N249, f249, hk249, hN249, hf249⟩ := zz249
             refine ⟨k249, o249, n249, c249, i0, q249, ea249, rfl, hl249, hq249, ?_⟩
             rw [hu] at hf249
             refine ⟨i2, _, rfl, by omega, rfl, ?_⟩
             refine ⟨_, .u (u i2), hk249, (by rw [cat_bq (q249 + i2) (by omega) (by simp) (by omega), hf249 i2 (by omega)]), ?_⟩
             refine ⟨bz hh i1 * bz u i2, w64_id (bz hh i1 * bz u i2) (by omega) (by omega), ?_⟩
             refine ⟨bz (cpF pc nc fc u) (i1 * 8 + i2) - bz u i1 * bz gc i2 - bz hh i1 * bz u i2, w64_id (bz (cpF pc nc fc u) (i1 * 8 + i2) - bz u i1 * bz gc i2 - bz hh i1 * bz u i2) (by omega) (by omega), ?_⟩
             refine ⟨_, _, app_old hb14, rfl, ?_⟩
             refine ⟨by omega, 0, cg_tm (prK_law hpq.1.1.1.1 hnc (hpn u hum).2 (by omega) (by omega)), ?_⟩
             refine ⟨fun h258 => ?_, fun h258 => ?_⟩
             ·replace h258 := bne_t h258
              exact absurd rfl h258
             ·replace h258 := bne_f h258
              refine ⟨((i2 + 1 : Nat) : Int), w64_id _ (by omega) (by omega), ?_⟩
              exact ⟨by omega, (), rfl, ⟨rfl, rfl, rfl, rfl, rfl, rfl, rfl, rfl, rfl, rfl, rfl, rfl, trivial⟩⟩
            ·replace h220 := of_decide_eq_false h220
             have e2 : nc = i2 := by omega
             subst e2
             refine ⟨((i1 + 1 : Nat) : Int), w64_id _ (by omega) (by omega), ?_⟩
             exact ⟨by omega, (), rfl, ⟨rfl, rfl, rfl, rfl, rfl, rfl, rfl, rfl, rfl, rfl, rfl, trivial⟩⟩
           ·replace h214 := of_decide_eq_false h214
            have e1 : nc = i1 := by omega
            subst e1
            refine ⟨((i0 + 1 : Nat) : Int), w64_id _ (by omega) (by omega), ?_⟩
            exact ⟨by omega, (), hE0.trans Ext.app, ⟨rfl, rfl, rfl, rfl, rfl, rfl, rfl, rfl, rfl, trivial⟩⟩
         ·replace h197 := of_decide_eq_false h197
          have e0 : (psX pc nc fc gc hh).length = i0 := by omega
          subst e0
          exact ⟨(), hE0, ⟨rfl, rfl, rfl, rfl, trivial⟩⟩
        ·replace h193 := ne_of_beq_false h193
         exact ⟨(), Ext.refl, ⟨rfl, rfl, rfl, rfl, trivial⟩⟩
       rintro _ GK1 hK1
       have ho21 := hK1 _ _ hn21
       have ho22 := hK1 _ _ hn22
       have hI135 := hH135.ext hK1
       have hXL : Ext H GK1 := hXK.trans hK1
       refine ⟨fun h260 => ?_, fun h260 => ?_⟩
       ·replace h260 := bne_t h260
        have hls : lsX pd nd fd vd = [] := by
         unfold lsX
         rw [if_neg fun z => h260 (oc_t z)]
        refine ⟨_, (hI135).len, ?_⟩
        refine ⟨rfl, ?_, hXL⟩
        show Sv.one (.b ((((lsX pd nd fd vd).length : Nat) : Int) == 0)) = _
        rw [hls]; rfl
       ·replace h260 := bne_f h260
        have hq : cgQ pd nd fd [vd] := oc_0 h260
        obtain ⟨nd, rfl⟩ : ∃ k : Nat, nd = (k : Int) := ⟨nd.toNat, by have := hq.1.1.1.2.1; omega⟩
        obtain ⟨⟨hw1, hw2⟩, hw3, hw4, hw5⟩ := lsX_law hq
        have hwl := @lsX_len pd nd fd vd
        refine .inl ⟨_, _, _, _, ho21, ⟨rfl, by omega⟩, ?_⟩
        refine ⟨_, i_IsSubcoalgebra_ok B E.2.2.2.2.2.2.2.2.2.2.2.2.2.2.2.2.2.1 (p := pd) (n := (nd : Int)) (f := fd) (L := lsX pd nd fd vd) hI135 hw3 (by omega), ?_⟩
        rintro _ G267 ⟨rfl, hE267⟩
        rw [hw1, oc_t hw2]
        have hp21 := hE267 _ _ ho21
        have hp22 := hE267 _ _ ho22
        have hJ135 := hI135.ext hE267
        refine ⟨_, _, hp21, rfl, ?_⟩
        refine ⟨_, _, hp21, rfl, ?_⟩
        refine ⟨_, _, _, _, tr8 vd, hp22, ⟨by simp, by omega⟩, fun x hx => by simp [spl, hx, tr8], ?_⟩
        refine ⟨?_, ?_, trivial⟩
        ·skip
         refine ⟨_, rfl, ?_⟩
         refine ⟨⟨kept1 hp22 (app_old hp22), kept1 hp21 (app_old hp21), kept1 hp21 (app_old hp21), trivial⟩, ?_⟩
         refine ⟨?_, ?_, trivial⟩
         ·skip
          refine ⟨_, vw_appF (VW.nil (Nat.le_refl _)) (hJ135.ext Ext.app) (by simp only [List.length_nil]; omega) (by simp), ?_⟩
          rintro a91 G91 ⟨hv91, hf91, -, hl91⟩
          have hE91 : Ext G267 G91 := Ext.app.fr' hf91 (Nat.le_refl _)
          refine ⟨⟨kept1 (app_old hp22) (hE91 _ _ hp22), kept1 (app_old hp21) (hE91 _ _ hp21), kept1 (app_old hp21) (hE91 _ _ hp21), trivial⟩, ?_⟩
          refine ⟨?_, trivial⟩
          refine ⟨_, rfl, ?_⟩
          refine ⟨⟨kept1 (hE91 _ _ hp22) (app_old (hE91 _ _ hp22)), kept1 (hE91 _ _ hp21) (app_old (hE91 _ _ hp21)), kept1 (hE91 _ _ hp21) (app_old (hE91 _ _ hp21)), trivial⟩, ?_⟩
          refine ⟨?_, trivial⟩
          refine ⟨_, vw_appF (hv91.ext Ext.app) VS.one (by simp; omega) (Nat.le_trans (by simp) (Nat.le_trans hl91 (by simp))), ?_⟩
          rintro a95 G95 ⟨hv95, hf95, -, hl95⟩
          have hE95 : Ext G267 G95 := (hE91.trans Ext.app).fr' hf95 hv91.ge
          refine ⟨⟨kept1 (app_old (hE91 _ _ hp22)) (hE95 _ _ hp22), kept1 (app_old (hE91 _ _ hp21)) (hE95 _ _ hp21), kept1 (app_old (hE91 _ _ hp21)) (hE95 _ _ hp21), trivial⟩, ?_⟩
          refine ⟨?_, trivial⟩
          refine ⟨_, i_ReduceVectors_ok B E.2.2.2.2.2.2.2.2.2.2.2.2.2.2.2.2.2.2.1 (p := pd) (n := (nd : Int)) (L := lsX pd nd fd vd ++ [tr8 vd]) hv95.vs hw4 (by simp; omega), ?_⟩
          rintro _ G96 ⟨b96, rfl, hE96, hV96⟩
          rw [hw5] at hV96
          have hXZ : Ext H G96 := (hXL.trans hE267).trans (hE95.trans hE96)
          have hZ135 := hJ135.ext (hE95.trans hE96)
          refine ⟨?_, trivial⟩
          refine ⟨?_, ?_, trivial⟩
          ·skip
           refine ⟨?_, ?_, trivial⟩
           ·skip
            refine ⟨?_, trivial⟩
            refine ⟨?_, trivial⟩
            refine ⟨fun h286 => ?_, fun h286 => ?_⟩
            ·replace h286 := eq_of_beq h286
             refine brB_t ?_
             refine ⟨fun h289 => ?_, fun h289 => ?_⟩
             ·skip
              iterate 2 refine brB_t ?_
              refine ⟨fun h293 => ?_, fun h293 => ?_⟩
              ·replace h293 := eq_of_beq h293
               iterate 2 refine brB_t ?_
               refine ⟨_, l_vectors9_ok B E.2.2.2.2.2.2.2.2.1 (L := lsX pd nd fd vd) hV96.vs hZ135 (by omega), ?_⟩
               rintro _ G97 ⟨rfl, rfl⟩
               refine brB_t ?_
               exact ⟨rfl, rfl, hXZ⟩
              ·replace h293 := ne_of_beq_false h293
               exact absurd rfl h293
             ·skip
              exact absurd h289 (by decide)
            ·replace h286 := ne_of_beq_false h286
             exact absurd rfl h286
           ·skip
            refine ⟨?_, trivial⟩
            refine ⟨?_, trivial⟩
            refine ⟨fun h286 => ?_, fun h286 => ?_⟩
            ·replace h286 := eq_of_beq h286
             refine brB_t ?_
             refine ⟨fun h289 => ?_, fun h289 => ?_⟩
             ·skip
              iterate 2 refine brB_t ?_
              refine ⟨fun h293 => ?_, fun h293 => ?_⟩
              ·replace h293 := eq_of_beq h293
               iterate 2 refine brB_t ?_
               refine ⟨_, l_vectors9_ok B E.2.2.2.2.2.2.2.2.1 (L := lsX pd nd fd vd) hV96.vs hZ135 (by omega), ?_⟩
               rintro _ G97 ⟨rfl, rfl⟩
               refine brB_t ?_
               exact ⟨rfl, rfl, hXZ⟩
              ·replace h293 := ne_of_beq_false h293
               exact absurd rfl h293
             ·skip
              exact absurd h289 (by decide)
            ·replace h286 := ne_of_beq_false h286
             exact absurd rfl h286
          ·skip
           refine ⟨?_, trivial⟩
           refine ⟨?_, trivial⟩
           refine ⟨?_, trivial⟩
           refine ⟨fun h286 => ?_, fun h286 => ?_⟩
           ·replace h286 := eq_of_beq h286
            refine brB_t ?_
            refine ⟨fun h289 => ?_, fun h289 => ?_⟩
            ·skip
             iterate 2 refine brB_t ?_
             refine ⟨fun h293 => ?_, fun h293 => ?_⟩
             ·replace h293 := eq_of_beq h293
              iterate 2 refine brB_t ?_
              refine ⟨_, l_vectors9_ok B E.2.2.2.2.2.2.2.2.1 (L := lsX pd nd fd vd) hV96.vs hZ135 (by omega), ?_⟩
              rintro _ G97 ⟨rfl, rfl⟩
              refine brB_t ?_
              exact ⟨rfl, rfl, hXZ⟩
             ·replace h293 := ne_of_beq_false h293
              exact absurd rfl h293
            ·skip
             exact absurd h289 (by decide)
           ·replace h286 := ne_of_beq_false h286
            exact absurd rfl h286
         ·skip
          refine ⟨_, rfl, ?_⟩
          refine ⟨⟨kept1 (app_old hp22) (app_old (app_old hp22)), kept1 (app_old hp21) (app_old (app_old hp21)), kept1 (app_old hp21) (app_old (app_old hp21)), trivial⟩, ?_⟩
          refine ⟨?_, trivial⟩
          refine ⟨_, vw_appF ((VW.nil (Nat.le_refl _)).ext Ext.app) (hJ135.ext (Ext.app.trans Ext.app)) (by simp only [List.length_nil]; omega) (by simp), ?_⟩
          rintro a91 G91 ⟨hv91, hf91, -, hl91⟩
          have hE91 : Ext G267 G91 := (Ext.app.trans Ext.app).fr' hf91 (Nat.le_refl _)
          have hu91 := VS.one.fr hf91 (by simp [spB, blkOf])
          refine ⟨⟨kept1 (app_old (app_old hp22)) (hE91 _ _ hp22), kept1 (app_old (app_old hp21)) (hE91 _ _ hp21), kept1 (app_old (app_old hp21)) (hE91 _ _ hp21), trivial⟩, ?_⟩
          refine ⟨?_, trivial⟩
          refine ⟨_, vw_appF hv91 hu91 (by simp; omega) (by simp at hl91 ⊢ <;> omega), ?_⟩
          rintro a95 G95 ⟨hv95, hf95, -, hl95⟩
          have hE95 : Ext G267 G95 := hE91.fr' hf95 (by have := hv91.ge; simp at this ⊢ <;> omega)
          refine ⟨⟨kept1 (hE91 _ _ hp22) (hE95 _ _ hp22), kept1 (hE91 _ _ hp21) (hE95 _ _ hp21), kept1 (hE91 _ _ hp21) (hE95 _ _ hp21), trivial⟩, ?_⟩
          refine ⟨?_, trivial⟩
          refine ⟨_, i_ReduceVectors_ok B E.2.2.2.2.2.2.2.2.2.2.2.2.2.2.2.2.2.2.1 (p := pd) (n := (nd : Int)) (L := lsX pd nd fd vd ++ [tr8 vd]) hv95.vs hw4 (by simp; omega), ?_⟩
          rintro _ G96 ⟨b96, rfl, hE96, hV96⟩
          rw [hw5] at hV96
          have hXZ : Ext H G96 := (hXL.trans hE267).trans (hE95.trans hE96)
          have hZ135 := hJ135.ext (hE95.trans hE96)
          refine ⟨?_, trivial⟩
          refine ⟨?_, ?_, trivial⟩
          ·skip
           refine ⟨?_, ?_, trivial⟩
           ·skip
            refine ⟨?_, trivial⟩
            refine ⟨?_, trivial⟩
            refine ⟨fun h286 => ?_, fun h286 => ?_⟩
            ·replace h286 := eq_of_beq h286
             refine brB_t ?_
             refine ⟨fun h289 => ?_, fun h289 => ?_⟩
             ·skip
              iterate 2 refine brB_t ?_
              refine ⟨fun h293 => ?_, fun h293 => ?_⟩
              ·replace h293 := eq_of_beq h293
               iterate 2 refine brB_t ?_
               refine ⟨_, l_vectors9_ok B E.2.2.2.2.2.2.2.2.1 (L := lsX pd nd fd vd) hV96.vs hZ135 (by omega), ?_⟩
               rintro _ G97 ⟨rfl, rfl⟩
               refine brB_t ?_
               exact ⟨rfl, rfl, hXZ⟩
              ·replace h293 := ne_of_beq_false h293
               exact absurd rfl h293
             ·skip
              exact absurd h289 (by decide)
            ·replace h286 := ne_of_beq_false h286
             exact absurd rfl h286
           ·skip
            refine ⟨?_, trivial⟩
            refine ⟨?_, trivial⟩
            refine ⟨fun h286 => ?_, fun h286 => ?_⟩
            ·replace h286 := eq_of_beq h286
             refine brB_t ?_
             refine ⟨fun h289 => ?_, fun h289 => ?_⟩
             ·skip
              iterate 2 refine brB_t ?_
              refine ⟨fun h293 => ?_, fun h293 => ?_⟩
              ·replace h293 := eq_of_beq h293
               iterate 2 refine brB_t ?_
               refine ⟨_, l_vectors9_ok B E.2.2.2.2.2.2.2.2.1 (L := lsX pd nd fd vd) hV96.vs hZ135 (by omega), ?_⟩
               rintro _ G97 ⟨rfl, rfl⟩
               refine brB_t ?_
               exact ⟨rfl, rfl, hXZ⟩
              ·replace h293 := ne_of_beq_false h293
               exact absurd rfl h293
             ·skip
              exact absurd h289 (by decide)
            ·replace h286 := ne_of_beq_false h286
             exact absurd rfl h286
          ·skip
           refine ⟨?_, trivial⟩
           refine ⟨?_, trivial⟩
           refine ⟨?_, trivial⟩
           refine ⟨fun h286 => ?_, fun h286 => ?_⟩
           ·replace h286 := eq_of_beq h286
            refine brB_t ?_
            refine ⟨fun h289 => ?_, fun h289 => ?_⟩
            ·skip
             iterate 2 refine brB_t ?_
             refine ⟨fun h293 => ?_, fun h293 => ?_⟩
             ·replace h293 := eq_of_beq h293
              iterate 2 refine brB_t ?_
              refine ⟨_, l_vectors9_ok B E.2.2.2.2.2.2.2.2.1 (L := lsX pd nd fd vd) hV96.vs hZ135 (by omega), ?_⟩
              rintro _ G97 ⟨rfl, rfl⟩
              refine brB_t ?_
              exact ⟨rfl, rfl, hXZ⟩
             ·replace h293 := ne_of_beq_false h293
              exact absurd rfl h293
            ·skip
             exact absurd h289 (by decide)
           ·replace h286 := ne_of_beq_false h286
            exact absurd rfl h286
        ·skip
         refine ⟨_, rfl, ?_⟩
         refine ⟨⟨kept1 hp22 (app_old hp22), kept1 hp21 (app_old hp21), kept1 hp21 (app_old hp21), trivial⟩, ?_⟩
         refine ⟨?_, trivial⟩
         refine ⟨_, rfl, ?_⟩
         refine ⟨⟨kept1 (app_old hp22) (app_old (app_old hp22)), kept1 (app_old hp21) (app_old (app_old hp21)), kept1 (app_old hp21) (app_old (app_old hp21)), trivial⟩, ?_⟩
         refine ⟨?_, trivial⟩
         refine ⟨_, vw_appF (VW.nil (Nat.le_refl _)) (hJ135.ext (Ext.app.trans Ext.app)) (by simp only [List.length_nil]; omega) (by simp), ?_⟩
         rintro a91 G91 ⟨hv91, hf91, -, hl91⟩
         have hE91 : Ext G267 G91 := (Ext.app.trans Ext.app).fr' hf91 (by simp [blkOf])
         have hu91 := (VS.one.ext Ext.app).fr hf91 (by simp [spB, blkOf])
         refine ⟨⟨kept1 (app_old (app_old hp22)) (hE91 _ _ hp22), kept1 (app_old (app_old hp21)) (hE91 _ _ hp21), kept1 (app_old (app_old hp21)) (hE91 _ _ hp21), trivial⟩, ?_⟩
         refine ⟨?_, trivial⟩
         refine ⟨_, vw_appF hv91 hu91 (by simp; omega) (by simp at hl91 ⊢ <;> omega), ?_⟩
         rintro a95 G95 ⟨hv95, hf95, -, hl95⟩
         have hE95 : Ext G267 G95 := hE91.fr' hf95 (by have := hv91.ge; simp at this ⊢ <;> omega)
         refine ⟨⟨kept1 (hE91 _ _ hp22) (hE95 _ _ hp22), kept1 (hE91 _ _ hp21) (hE95 _ _ hp21), kept1 (hE91 _ _ hp21) (hE95 _ _ hp21), trivial⟩, ?_⟩
         refine ⟨?_, trivial⟩
         refine ⟨_, i_ReduceVectors_ok B E.2.2.2.2.2.2.2.2.2.2.2.2.2.2.2.2.2.2.1 (p := pd) (n := (nd : Int)) (L := lsX pd nd fd vd ++ [tr8 vd]) hv95.vs hw4 (by simp; omega), ?_⟩
         rintro _ G96 ⟨b96, rfl, hE96, hV96⟩
         rw [hw5] at hV96
         have hXZ : Ext H G96 := (hXL.trans hE267).trans (hE95.trans hE96)
         have hZ135 := hJ135.ext (hE95.trans hE96)
         refine ⟨?_, trivial⟩
         refine ⟨?_, ?_, trivial⟩
         ·skip
          refine ⟨?_, ?_, trivial⟩
          ·skip
           refine ⟨?_, trivial⟩
           refine ⟨?_, trivial⟩
           refine ⟨fun h286 => ?_, fun h286 => ?_⟩
           ·replace h286 := eq_of_beq h286
            refine brB_t ?_
            refine ⟨fun h289 => ?_, fun h289 => ?_⟩
            ·skip
             iterate 2 refine brB_t ?_
             refine ⟨fun h293 => ?_, fun h293 => ?_⟩
             ·replace h293 := eq_of_beq h293
              iterate 2 refine brB_t ?_
              refine ⟨_, l_vectors9_ok B E.2.2.2.2.2.2.2.2.1 (L := lsX pd nd fd vd) hV96.vs hZ135 (by omega), ?_⟩
              rintro _ G97 ⟨rfl, rfl⟩
              refine brB_t ?_
              exact ⟨rfl, rfl, hXZ⟩
             ·replace h293 := ne_of_beq_false h293
              exact absurd rfl h293
            ·skip
             exact absurd h289 (by decide)
           ·replace h286 := ne_of_beq_false h286
            exact absurd rfl h286
          ·skip
           refine ⟨?_, trivial⟩
           refine ⟨?_, trivial⟩
           refine ⟨fun h286 => ?_, fun h286 => ?_⟩
           ·replace h286 := eq_of_beq h286
            refine brB_t ?_
            refine ⟨fun h289 => ?_, fun h289 => ?_⟩
            ·skip
             iterate 2 refine brB_t ?_
             refine ⟨fun h293 => ?_, fun h293 => ?_⟩
             ·replace h293 := eq_of_beq h293
              iterate 2 refine brB_t ?_
              refine ⟨_, l_vectors9_ok B E.2.2.2.2.2.2.2.2.1 (L := lsX pd nd fd vd) hV96.vs hZ135 (by omega), ?_⟩
              rintro _ G97 ⟨rfl, rfl⟩
              refine brB_t ?_
              exact ⟨rfl, rfl, hXZ⟩
             ·replace h293 := ne_of_beq_false h293
              exact absurd rfl h293
            ·skip
             exact absurd h289 (by decide)
           ·replace h286 := ne_of_beq_false h286
            exact absurd rfl h286
         ·skip
          refine ⟨?_, trivial⟩
          refine ⟨?_, trivial⟩
          refine ⟨?_, trivial⟩
          refine ⟨fun h286 => ?_, fun h286 => ?_⟩
          ·replace h286 := eq_of_beq h286
           refine brB_t ?_
           refine ⟨fun h289 => ?_, fun h289 => ?_⟩
           ·skip
            iterate 2 refine brB_t ?_
            refine ⟨fun h293 => ?_, fun h293 => ?_⟩
            ·replace h293 := eq_of_beq h293
             iterate 2 refine brB_t ?_
             refine ⟨_, l_vectors9_ok B E.2.2.2.2.2.2.2.2.1 (L := lsX pd nd fd vd) hV96.vs hZ135 (by omega), ?_⟩
             rintro _ G97 ⟨rfl, rfl⟩
             refine brB_t ?_
             exact ⟨rfl, rfl, hXZ⟩
            ·replace h293 := ne_of_beq_false h293
             exact absurd rfl h293
           ·skip
            exact absurd h289 (by decide)
          ·replace h286 := ne_of_beq_false h286
           exact absurd rfl h286

end Hf
