/- Contracts of the functions that the law reaches. -/
import Derived.Test.YtkkjaohppodccabGreatC1
set_option linter.unusedVariables false
set_option linter.unusedSimpArgs false
namespace Hf
open Go Classical
section
variable {W : Nat} {p : Int}
theorem clq_ok (hp : Pr p) {v : By} {c : Nat} (hc : c < W) (hv : Vp W p v) (h : v c ≠ 0) :
  Vp W p (clq W p v c) ∧ clq W p v c c = 1 ∧ (∀ y, v y = 0 → clq W p v c y = 0) ∧ clq W p v c = addW W p z0 v (invI p (v c)) ∧ v = addW W p z0 (clq W p v c) (bz v c) := by
 have h2 := hp.1
 have h3 := hp.2.1
 have hp1 : 1 ≤ p := by omega
 have hp2 : p ≤ 256 := by omega
 obtain ⟨i1, i2⟩ := inv_ok hp h (hv.1 c)
 have hI : invI p (v c) = ((invN p (v c) : Nat) : Int) := if_pos i1
 have e : clq W p v c = addW W p z0 v (invI p (v c)) := vec_congr fun y hy => cg_of_eq (by rw [bz_z0, Int.zero_add])
 have hb : ∀ y, y < W → bz (clq W p v c) y = invI p (v c) * bz v y % p := by
  intro y hy
  rw [e, bz_add hp1 hp2 hy, bz_z0, Int.zero_add]
 have h1 : bz (clq W p v c) c = 1 := by
  rw [hb c hc, hI]; exact i2
 have hvp : Vp W p (clq W p v c) := by rw [e]; exact Vp.add hp1 hp2
 refine ⟨hvp, bz_inj h1, ?_, e, ?_⟩
 ·intro y hy
  by_cases hw : y < W
  ·apply bz_eq0.1
   rw [hb y hw, bz_eq0.2 hy, Int.mul_zero]; exact Int.zero_emod p
  ·exact hvp.2 y (by omega)
 ·refine hv.ext (Vp.add hp1 hp2) fun x hx => cg.symm ((cg_add' hp1 hp2 hx).trans ?_)
  rw [bz_z0, Int.zero_add, hb x hx]
  refine (cg_mul cg.rfl' cg_mod).trans ?_
  have h5 : cg p (invI p (v c) * bz v c) 1 := by
   unfold cg
   rw [show invI p (v c) * bz v c % p = 1 from by rw [hI]; exact i2, Int.emod_eq_of_lt (by omega) (by omega)]
  refine cg.trans (cg_of_eq ?_) ((cg_mul h5 cg.rfl').trans (cg_of_eq (Int.one_mul (bz v x))))
  grind
theorem clj_add (hp : 1 ≤ p) (hp2 : p ≤ 256) {q v : By} {c : Nat} (hv : Vp W p v) : clj W p q v c = addW W p v q (-(bz v c)) := by
 unfold clj
 split
 ·rename_i h
  rw [bz_eq0.2 h, Int.neg_zero, add_0 hp hp2 hv]
 ·rfl
theorem clj_at (hp : 1 ≤ p) (hp2 : p ≤ 256) {q v : By} {c y : Nat} (hv : Vp W p v) (hq : q y = 0) : clj W p q v c y = v y := by
 rw [clj_add hp hp2 hv]
 by_cases hy : y < W
 ·apply bz_inj
  show bz _ y = bz v y
  rw [bz_add hp hp2 hy, bz_eq0.2 hq, Int.mul_zero, Int.add_zero]
  have := hv.1 y
  exact Int.emod_eq_of_lt (by unfold bz; omega) this
 ·rw [(Vp.add hp hp2).2 y (by omega), hv.2 y (by omega)]
theorem clj_0 (hp : 2 ≤ p) (hp2 : p ≤ 256) {q v : By} {c : Nat} (hc : c < W) (hv : Vp W p v) (hq : q c = 1) : clj W p q v c c = 0 := by
 rw [clj_add (by omega) hp2 hv]
 apply bz_eq0.1
 rw [bz_add (by omega) hp2 hc, show bz q c = 1 from one_bz hq, Int.mul_one, Int.add_right_neg]
 exact Int.zero_emod p

/-- what holds ahead of column i -/
structure SolP (W : Nat) (p : Int) (R L : List By) (C : List Nat) (i : Nat) : Prop where
 len : L.length = R.length
 vp : ∀ r ∈ L, Vp W p r
 sp : SpE W p L R
 cl : C.length ≤ L.length
 ci : ∀ a, a < C.length → C.getD a 0 < i
 cs : ∀ a b, a < b → b < C.length → C.getD a 0 < C.getD b 0
 one : ∀ a, a < C.length → L.getD a z0 (C.getD a 0) = 1
 lo : ∀ a, a < C.length → ∀ y, y < C.getD a 0 → L.getD a z0 y = 0
 z : ∀ a, a < C.length → ∀ b, b < L.length → b ≠ a → L.getD b z0 (C.getD a 0) = 0
 r : ∀ b, C.length ≤ b → b < L.length → ∀ y, y < i → L.getD b z0 y = 0

theorem SolP.stay {R L : List By} {C : List Nat} {i : Nat} (h : SolP W p R L C i) (h0 : ∀ j, j < L.length - C.length → L.getD (C.length + j) z0 i = 0) : SolP W p R L C (i + 1) := by
 refine ⟨h.len, h.vp, h.sp, h.cl, fun a ha => by have := h.ci a ha; omega, h.cs, h.one, h.lo, h.z, fun b hb hb2 y hy => ?_⟩
 rcases Nat.eq_or_lt_of_le (Nat.lt_succ_iff.1 hy) with e | e
 ·subst e
  have := h0 (b - C.length) (by omega)
  rwa [show C.length + (b - C.length) = b by omega] at this
 ·exact h.r b hb hb2 y e

theorem swL_mem {α : Type} {z : α} {L : List α} {i j : Nat} (hi : i < L.length) (hj : j < L.length) {x : α} : x ∈ swL z L i j ↔ x ∈ L := (swL_perm hi hj).mem_iff

theorem getD_app1 {C : List Nat} {c a : Nat} (h : a < C.length) : (C ++ [c]).getD a 0 = C.getD a 0 := by
 simp only [List.getD_eq_getElem?_getD]; rw [List.getElem?_append_left h]
theorem getD_app2 {C : List Nat} {c : Nat} : (C ++ [c]).getD C.length 0 = c := by
 simp only [List.getD_eq_getElem?_getD]; rw [List.getElem?_append_right (Nat.le_refl _)]; simp

theorem SolP.step (hp : Pr p) {R L : List By} {C : List Nat} {i k : Nat} (hi : i < W) (h : SolP W p R L C i) (hk : k < L.length - C.length) (hn : L.getD (C.length + k) z0 i ≠ 0) :
  SolP W p R (clr W p (swL z0 L C.length (C.length + k)) C.length i) (C ++ [i]) (i + 1) := by
 have h2 := hp.1
 have h3 := hp.2.1
 have hp1 : 1 ≤ p := by omega
 have hp2 : p ≤ 256 := by omega
 have hd : C.length < L.length := by omega
 have hdk : C.length + k < L.length := by omega
 generalize hL1 : swL z0 L C.length (C.length + k) = L1
 have hlen1 : L1.length = L.length := by rw [← hL1, swL_len]
 have hat : ∀ x, L1.getD x z0 = if x = C.length + k then L.getD C.length z0 else if x = C.length then L.getD (C.length + k) z0 else L.getD x z0 := by
  intro x; rw [← hL1, swL_at hd hdk]
 have hvp1 : ∀ r ∈ L1, Vp W p r := fun r hr => h.vp r ((swL_mem hd hdk).1 (by rw [hL1]; exact hr))
 have hd1 : L1.getD C.length z0 = L.getD (C.length + k) z0 := by
  rw [hat]; split
  ·rename_i e; rw [← e]
  ·rw [if_pos rfl]
 -- rows of the new list that came from behind have zeros ahead of i
 have hr1 : ∀ b, C.length ≤ b → b < L.length → ∀ y, y < i → L1.getD b z0 y = 0 := by
  intro b hb hb2 y hy
  rw [hat]
  split
  ·exact h.r _ (Nat.le_refl _) hd y hy
  ·split
   ·exact h.r _ (by omega) hdk y hy
   ·exact h.r b hb hb2 y hy
 have hfr : ∀ b, b < C.length → L1.getD b z0 = L.getD b z0 := by
  intro b hb
  rw [hat, if_neg (by omega), if_neg (by omega)]
 have hz1 : ∀ a, a < C.length → ∀ b, b < L.length → b ≠ a → L1.getD b z0 (C.getD a 0) = 0 := by
  intro a ha b hb hn
  rcases Nat.lt_or_ge b C.length with h' | h'
  ·rw [hfr b h']; exact h.z a ha b hb hn
  ·exact hr1 b h' hb _ (h.ci a ha)
 have hvd : Vp W p (L1.getD C.length z0) := hvp1 _ (getD_mem (by omega))
 have hnz : L1.getD C.length z0 i ≠ 0 := by rw [hd1]; exact hn
 obtain ⟨q1, q2, q3, q4, q5⟩ := clq_ok hp hi hvd hnz
 generalize hq : clq W p (L1.getD C.length z0) i = q at q1 q2 q3 q4 q5
 have hq0 : ∀ y, y < i → q y = 0 := fun y hy => q3 y (hr1 _ (Nat.le_refl _) hd y hy)
 have hN : ∀ j, j < L.length → (clr W p L1 C.length i).getD j z0 = if j = C.length then q else clj W p q (L1.getD j z0) i := by
  intro j hj
  rw [clr_at (by omega)]
  unfold clR
  rw [hq]
 have hvj : ∀ j, j < L.length → Vp W p (L1.getD j z0) := fun j hj => hvp1 _ (getD_mem (by omega))
 have hvN : ∀ j, j < L.length → Vp W p ((clr W p L1 C.length i).getD j z0) := by
  intro j hj
  rw [hN j hj]
  split
  ·exact q1
  ·rw [clj_add hp1 hp2 (hvj j hj)]; exact Vp.add hp1 hp2
 have hmem : ∀ r ∈ clr W p L1 C.length i, ∃ j, j < L.length ∧ r = (clr W p L1 C.length i).getD j z0 := by
  intro r hr
  obtain ⟨j, hj, rfl⟩ := List.mem_iff_getElem.1 hr
  rw [clr_len, hlen1] at hj
  exact ⟨j, hj, by simp [List.getD_eq_getElem?_getD, clr_len, hlen1, hj]⟩
 have hmem1 : ∀ r ∈ L1, ∃ j, j < L.length ∧ r = L1.getD j z0 := by
  intro r hr
  obtain ⟨j, hj, rfl⟩ := List.mem_iff_getElem.1 hr
  exact ⟨j, by omega, by simp [List.getD_eq_getElem?_getD, hj]⟩
 have hin : ∀ j, j < L.length → (clr W p L1 C.length i).getD j z0 ∈ clr W p L1 C.length i := fun j hj => getD_mem (by rw [clr_len]; omega)
 have hsq : Sp' W p L1 q := by rw [q4]; exact .a .z (getD_mem (by omega))
 have hsq' : Sp' W p (clr W p L1 C.length i) q := by
  have := hin _ hd
  rw [hN _ hd, if_pos rfl] at this
  exact .mem hp1 hp2 this q1
 refine ⟨by rw [clr_len, hlen1]; exact h.len, ?_, ?_, ?_, ?_, ?_, ?_, ?_, ?_, ?_⟩
 ·intro r hr
  obtain ⟨j, hj, rfl⟩ := hmem r hr
  exact hvN j hj
 ·refine SpE.trans (SpE.of hp1 hp2 (M := L1) ?_ ?_) (SpE.trans (SpE.of hp1 hp2 ?_ ?_) h.sp)
  ·intro r hr
   obtain ⟨j, hj, rfl⟩ := hmem r hr
   rw [hN j hj]
   split
   ·exact hsq
   ·rw [clj_add hp1 hp2 (hvj j hj)]
    exact (Sp'.mem hp1 hp2 (getD_mem (by omega)) (hvj j hj)).add hp1 hp2 hsq
  ·intro r hr
   obtain ⟨j, hj, rfl⟩ := hmem1 r hr
   by_cases e : j = C.length
   ·rw [e, q5]
    exact Sp'.z.add hp1 hp2 hsq'
   ·have h1 := Sp'.mem hp1 hp2 (hin j hj) (hvN j hj)
    have h4 := h1.add hp1 hp2 (k := bz (L1.getD j z0) i) hsq'
    rw [hN j hj, if_neg e, clj_add hp1 hp2 (hvj j hj)] at h4
    have e2 : addW W p (addW W p (L1.getD j z0) q (-(bz (L1.getD j z0) i))) q (bz (L1.getD j z0) i) = L1.getD j z0 := by
     refine (Vp.add hp1 hp2).ext (hvj j hj) fun x hx => ?_
     refine (cg_add' hp1 hp2 hx).trans ((cg_add (cg_add' hp1 hp2 hx) cg.rfl').trans (cg_of_eq ?_))
     grind
    rwa [e2] at h4
  ·intro r hr
   have := (swL_mem (z := z0) hd hdk).1 (by rw [hL1]; exact hr)
   exact .mem hp1 hp2 this (h.vp r this)
  ·intro r hr
   have := (swL_mem (z := z0) hd hdk).2 hr
   rw [hL1] at this
   exact .mem hp1 hp2 this (hvp1 r this)
 ·rw [clr_len, hlen1]; simp; omega
 ·intro a ha
  rw [List.length_append, List.length_singleton] at ha
  rcases Nat.lt_or_ge a C.length with h' | h'
  ·rw [getD_app1 h']; have := h.ci a h'; omega
  ·obtain rfl : a = C.length := by omega
   rw [getD_app2]; omega
 ·intro a b hab hb
  rw [List.length_append, List.length_singleton] at hb
  rcases Nat.lt_or_ge b C.length with h' | h'
  ·rw [getD_app1 h', getD_app1 (by omega)]; exact h.cs a b hab h'
  ·obtain rfl : b = C.length := by omega
   rw [getD_app2, getD_app1 hab]; exact h.ci a hab
 ·intro a ha
  rw [List.length_append, List.length_singleton] at ha
  rw [hN a (by omega)]
  rcases Nat.lt_or_ge a C.length with h' | h'
  ·rw [if_neg (by omega), getD_app1 h', clj_at hp1 hp2 (hvj a (by omega)) (hq0 _ (h.ci a h')), hfr a h']
   exact h.one a h'
  ·obtain rfl : a = C.length := by omega
   rw [if_pos rfl, getD_app2]; exact q2
 ·intro a ha y hy
  rw [List.length_append, List.length_singleton] at ha
  rw [hN a (by omega)]
  rcases Nat.lt_or_ge a C.length with h' | h'
  ·rw [getD_app1 h'] at hy
   rw [if_neg (by omega), clj_at hp1 hp2 (hvj a (by omega)) (hq0 _ (by have := h.ci a h'; omega)), hfr a h']
   exact h.lo a h' y hy
  ·obtain rfl : a = C.length := by omega
   rw [getD_app2] at hy
   rw [if_pos rfl]; exact hq0 y hy
 ·intro a ha b hb hne
  rw [List.length_append, List.length_singleton] at ha
  rw [clr_len, hlen1] at hb
  rw [hN b hb]
  rcases Nat.lt_or_ge a C.length with h' | h'
  ·rw [getD_app1 h']
   split
   ·exact hq0 _ (h.ci a h')
   ·rw [clj_at hp1 hp2 (hvj b hb) (hq0 _ (h.ci a h'))]
    exact hz1 a h' b hb hne
  ·obtain rfl : a = C.length := by omega
   rw [getD_app2, if_neg hne]
   exact clj_0 h2 hp2 hi (hvj b hb) q2
 ·intro b hb hb2 y hy
  rw [List.length_append, List.length_singleton] at hb
  rw [clr_len, hlen1] at hb2
  rw [hN b hb2, if_neg (by omega)]
  rcases Nat.eq_or_lt_of_le (Nat.lt_succ_iff.1 hy) with e | e
  ·rw [e]; exact clj_0 h2 hp2 hi (hvj b hb2) q2
  ·rw [clj_at hp1 hp2 (hvj b hb2) (hq0 y e)]
   exact hr1 b (by omega) hb2 y e

theorem solP (hp : Pr p) {R : List By} (hR : ∀ r ∈ R, Vp W p r) : ∀ {i : Nat}, i ≤ W → ∃ C : List Nat, (solT W p R i).2 = C.map (fun c : Nat => (c : Int)) ∧ SolP W p R (solT W p R i).1 C i
  | 0, _ => ⟨[], rfl, rfl, hR, SpE.rfl', by simp, by simp, by simp, by simp, by simp, by simp, fun b hb hb2 y hy => by omega⟩
  | i + 1, hi => by
    obtain ⟨C, hC, h⟩ := @solP hp R hR i (by omega)
    rw [solT_succ]
    have hl : (solT W p R i).2.length = C.length := by rw [hC]; simp
    unfold solS
    rw [hl]
    rcases @firstQ_or (fun j => (solT W p R i).1.getD (C.length + j) z0 i != 0) ((solT W p R i).1.length - C.length) with ⟨e, h0⟩ | ⟨k, hk, e, h0, -⟩
    · rw [e, if_pos (by omega)]
      exact ⟨C, hC, h.stay fun j hj => by simpa using h0 j hj⟩
    · rw [e, if_neg (by omega), Int.toNat_natCast]
      refine ⟨C ++ [i], by rw [hC]; simp, h.step hp hi hk (by simpa using h0)⟩

/-- the rows done are reduced -/
theorem SolP.rr {R L : List By} {C : List Nat} {i : Nat} (hiW : i ≤ W) (h : SolP W p R L C i) : RR W p (L.take C.length) ∧ ∀ a, a < C.length → fstW W (L.getD a z0) = C.getD a 0 := by
 have hf : ∀ a, a < C.length → fstW W (L.getD a z0) = C.getD a 0 := fun a ha =>
  fstW_eq (by have := h.ci a ha; omega) (by rw [h.one a ha]; decide) (h.lo a ha)
 have hmem : ∀ r ∈ L.take C.length, ∃ a, a < C.length ∧ r = L.getD a z0 := by
  intro r hr
  obtain ⟨a, ha, rfl⟩ := List.mem_iff_getElem.1 hr
  rw [List.length_take] at ha
  exact ⟨a, by omega, by simp [List.getD_eq_getElem?_getD, show a < L.length by omega]⟩
 refine ⟨⟨?_, ?_, ?_⟩, hf⟩
 ·intro r hr; exact h.vp r (List.mem_of_mem_take hr)
 ·intro r hr
  obtain ⟨a, ha, rfl⟩ := hmem r hr
  rw [hf a ha]
  exact ⟨by have := h.ci a ha; omega, h.one a ha⟩
 ·rw [List.pairwise_iff_getElem]
  intro a b ha hb hab
  rw [List.length_take] at ha hb
  have ea : (L.take C.length)[a] = L.getD a z0 := by simp [List.getD_eq_getElem?_getD, show a < L.length by omega]
  have eb : (L.take C.length)[b] = L.getD b z0 := by simp [List.getD_eq_getElem?_getD, show b < L.length by omega]
  rw [ea, eb, hf a (by omega), hf b (by omega)]
  exact ⟨h.cs a b hab (by omega), h.z b (by omega) a (by omega) (by omega)⟩
end
end Hf
namespace Hf
open Go Classical
section
variable {W W' m : Nat} {p : Int}
theorem Vp.mono (hW : W ≤ W') {v : By} (h : Vp W p v) : Vp W' p v := ⟨h.1, fun x hx => h.2 x (by omega)⟩
theorem addW_w (hW : W ≤ W') {u w : By} {k : Int} (hu : Vp W p u) (hw : Vp W p w) : addW W' p u w k = addW W p u w k :=
 (vec_more hW fun y hy _ => by rw [bz_eq0.2 (hu.2 y hy), bz_eq0.2 (hw.2 y hy)]; simp).symm
theorem Sp'.w1 (hp : 1 ≤ p) (hp2 : p ≤ 256) (hW : W ≤ W') {L : List By} (hL : ∀ v ∈ L, Vp W p v) {v : By} (h : Sp' W' p L v) : Sp' W p L v := by
  induction h with
  | z => exact .z
  | a h1 h2 ih => rw [addW_w hW (ih.vp hp hp2) (hL _ h2)]; exact .a ih h2
theorem Sp'.w2 (hp : 1 ≤ p) (hp2 : p ≤ 256) (hW : W ≤ W') {L : List By} (hL : ∀ v ∈ L, Vp W p v) {v : By} (h : Sp' W p L v) : Sp' W' p L v := by
  induction h with
  | z => exact .z
  | a h1 h2 ih => rw [← addW_w hW (h1.vp hp hp2) (hL _ h2)]; exact .a ih h2
theorem fstW_w (hW : W ≤ W') {v : By} (hv : ∀ x, W ≤ x → v x = 0) (h : v ≠ z0) : fstW W' v = fstW W v := by
 have h1 := fst_nz hv h
 exact fstW_eq (by omega) (fstW_ne h1) fun y hy => fstW_lt hy
theorem RR.w (hp : 1 ≤ p) (hW : W ≤ W') {L : List By} (hL : ∀ v ∈ L, Vp W p v) (h : RR W' p L) : RR W p L := by
 have hf : ∀ v ∈ L, fstW W' v = fstW W v := fun v hv => fstW_w hW (hL v hv).2 (h.nz hv)
 refine ⟨hL, fun r hr => ?_, ?_⟩
 ·have := h.ld r hr
  rw [hf r hr] at this
  exact ⟨fst_nz (hL r hr).2 (h.nz hr), this.2⟩
 ·refine List.Pairwise.imp_of_mem ?_ h.st
  intro a b ha hb hab
  rw [hf a ha, hf b hb] at hab
  exact hab
/-- a system whose right sides are 0 -/
theorem sol_rr (hp : Pr p) {R : List By} (hR : ∀ v ∈ R, Vp m p v) : ∃ C : List Nat, (solT (m + 1) p R m).2 = C.map (fun c : Nat => (c : Int)) ∧ SolP (m + 1) p R (solT (m + 1) p R m).1 C m ∧ (∀ v ∈ (solT (m + 1) p R m).1, Vp m p v) ∧ (∀ b, C.length ≤ b → (solT (m + 1) p R m).1.getD b z0 = z0) ∧
  RR m p ((solT (m + 1) p R m).1.take C.length) ∧ SpE m p ((solT (m + 1) p R m).1.take C.length) R ∧ ∀ a, a < C.length → fstW m ((solT (m + 1) p R m).1.getD a z0) = C.getD a 0 := by
 have h2 := hp.1
 have h3 := hp.2.1
 have hp1 : 1 ≤ p := by omega
 have hp2 : p ≤ 256 := by omega
 obtain ⟨C, hC, h⟩ := solP (W := m + 1) hp (R := R) (fun r hr => (hR r hr).mono (by omega)) (i := m) (by omega)
 have hv : ∀ v ∈ (solT (m + 1) p R m).1, Vp m p v := by
  intro v hv
  have h1 := (h.sp v).1 (.mem hp1 hp2 hv (h.vp v hv))
  exact (h1.w1 hp1 hp2 (by omega) hR).vp hp1 hp2
 have hz : ∀ b, C.length ≤ b → (solT (m + 1) p R m).1.getD b z0 = z0 := by
  intro b hb
  rcases Nat.lt_or_ge b (solT (m + 1) p R m).1.length with hb2 | hb2
  ·funext y
   rcases Nat.lt_or_ge y m with hy | hy
   ·exact h.r b hb hb2 y hy
   ·exact (hv _ (getD_mem hb2)).2 y hy
  ·rw [List.getD_eq_getElem?_getD, List.getElem?_eq_none hb2]; rfl
 obtain ⟨r1, r2⟩ := h.rr (by omega)
 have hvt : ∀ v ∈ (solT (m + 1) p R m).1.take C.length, Vp m p v := fun v hv' => hv v (List.mem_of_mem_take hv')
 have rrm := r1.w hp1 (by omega : m ≤ m + 1) hvt
 refine ⟨C, hC, h, hv, hz, rrm, SpE.of hp1 hp2 ?_ ?_, ?_⟩
 ·intro r hr
  have hr' := List.mem_of_mem_take hr
  exact ((h.sp r).1 (.mem hp1 hp2 hr' (h.vp r hr'))).w1 hp1 hp2 (by omega) hR
 ·intro r hr
  have h4 := ((h.sp r).2 (.mem hp1 hp2 hr ((hR r hr).mono (by omega)))).w1 hp1 hp2 (by omega) hv
  refine h4.sub hp1 hp2 ?_
  intro q hq
  obtain ⟨j, hj, rfl⟩ := List.mem_iff_getElem.1 hq
  have ej : (solT (m + 1) p R m).1[j] = (solT (m + 1) p R m).1.getD j z0 := by simp [List.getD_eq_getElem?_getD, hj]
  rcases Nat.lt_or_ge j C.length with h' | h'
  ·have hm : (solT (m + 1) p R m).1[j] ∈ (solT (m + 1) p R m).1.take C.length := by
    rw [List.mem_take_iff_getElem]
    exact ⟨j, by omega, rfl⟩
   exact .mem hp1 hp2 hm (hvt _ hm)
  ·rw [ej, hz j h']; exact .z
 ·intro a ha
  have := r2 a ha
  have hm : (solT (m + 1) p R m).1.getD a z0 ∈ (solT (m + 1) p R m).1.take C.length := by
   rw [List.mem_take_iff_getElem]
   have := h.cl
   exact ⟨a, by omega, by simp [List.getD_eq_getElem?_getD, show a < (solT (m + 1) p R m).1.length by omega]⟩
  rw [← fstW_w (by omega : m ≤ m + 1) (hvt _ hm).2 (rrm.nz hm)]
  exact this
theorem sol_red (hp : Pr p) {L : List By} (hL : ∀ v ∈ L, Vp 8 p v) : (solT 9 p L 8).1.take (solT 9 p L 8).2.length = redL p L := by
 have h2 := hp.1
 have h3 := hp.2.1
 obtain ⟨C, hC, -, -, -, h4, h5, -⟩ := sol_rr (m := 8) hp hL
 obtain ⟨r1, r2⟩ := redL_rr hp hL
 have hl : (solT 9 p L 8).2.length = C.length := by
  have := congrArg List.length hC
  simpa using this
 rw [hl]
 exact h4.unique (by omega) (by omega) r1 (h5.trans r2.symm)
end
/-! ### a new row -/
/-- a row that may be written on behind: its block is none of the first m -/
def RowC (m : Nat) (H : List Blk) (n : Nat) (a : At) (v : By) : Prop := ∃ k cap N f, a = .sl k 0 n cap ∧ H[k]? = some ⟨false, .by [] N f⟩ ∧ (cap ≤ N ∧ n ≤ cap ∧ m ≤ k) ∧ ∀ x, x < n → f x = v x
theorem RowC.row {m : Nat} {H : List Blk} {n : Nat} {a : At} {v : By} (h : RowC m H n a v) : RowB H n a v := by
 obtain ⟨k, cap, N, f, h1, h2, h3, h4⟩ := h
 exact ⟨k, cap, N, f, h1, h2, by omega, h4⟩
theorem RowC.ge {m : Nat} {H : List Blk} {n : Nat} {a : At} {v : By} (h : RowC m H n a v) : m ≤ blkOf a := by
 obtain ⟨k, cap, N, f, rfl, h2, h3, h4⟩ := h
 exact h3.2.2
theorem RowC.mono {m m' : Nat} {H : List Blk} {n : Nat} {a : At} {v : By} (h : RowC m H n a v) (hm : m' ≤ m) : RowC m' H n a v := by
 obtain ⟨k, cap, N, f, h1, h2, h3, h4⟩ := h
 exact ⟨k, cap, N, f, h1, h2, by omega, h4⟩
theorem RowC.ext {m : Nat} {H H' : List Blk} {n : Nat} {a : At} {v : By} (h : RowC m H n a v) (e : Ext H H') : RowC m H' n a v := by
 obtain ⟨k, cap, N, f, h1, h2, h3, h4⟩ := h
 exact ⟨k, cap, N, f, h1, e _ _ h2, h3, h4⟩
theorem rowc_app {m : Nat} {H : List Blk} {n M : Nat} {a b : At} {v g : By} (h : RowC m H n a v) (hb : rdB H 1 b M g) (hl : n + M ≤ 1000000) (hm : m ≤ H.length) :
  apB 1 1 H a b fun a' H' => RowC m H' (n + M) a' (fun x => if x < n then v x else g (x - n)) ∧ Upto m H H' ∧ H.length ≤ H'.length := by
 obtain ⟨k, cap, N, f, rfl, hk, ⟨h1, h2, h3⟩, h4⟩ := h
 refine ⟨M, g, N, f, hb, hk, ⟨by omega, h2, by omega, by omega⟩, fun hc => ⟨⟨k, cap, N, _, by simp, set_same hk, ⟨h1, hc, h3⟩, fun x hx => ?_⟩, fun j B hj e => set_other e (by omega), by simp⟩,
  fun hc cap' hcap => ⟨⟨H.length, cap', _, _, rfl, get_new, ⟨by omega, hcap, hm⟩, fun x hx => ?_⟩, fun j B hj e => app_old e, by simp⟩⟩
 ·simp only [spl, Nat.zero_add, Nat.mul_one]
  by_cases hx' : x < n
  ·rw [if_neg (by omega), if_pos hx']; exact h4 x hx'
  ·rw [if_pos (by omega), if_neg hx']
 ·simp only [apf, Nat.mul_one]
  by_cases hx' : x < n
  ·rw [if_pos (by omega), if_pos hx', ← h4 x hx']; simp [sh]
  ·rw [if_neg (by omega), if_pos (by omega), if_neg hx']
/-- a system with one more row -/
theorem sy_add {m0 : Nat} {G0 G6 G7 : List Blk} {s : Nat} {p n0 : Int} {m : Nat} {R : List By} {T : List Int} {ra pa ra' x : At} {As : List At} {v : By} (hs : G0[s]? = some (sysB p n0 m ra pa)) (hra : Spn G0 ra As) (hR : Rows G0 (m + 1) As R) (hpa : Spn G0 pa (T.map (At.i .i64)))
  (hnd : (OwnT s ra As pa).Nodup) (hge : ∀ k ∈ OwnT s ra As pa, m0 ≤ k) (hm : m0 ≤ G0.length) (e : Ext G0 G6) (hx : RowC G0.length G6 (m + 1) x v) (hsp : Spn G7 ra' (As ++ [x])) (hf : Fr (spB ra) G6 G7) (hb : ∀ k ∈ spB ra', k ∈ spB ra ∨ k = G6.length) :
  G7[s]? = some (sysB p n0 m ra pa) ∧ SY m0 (G7.set s (sysB p n0 m ra' pa)) s p n0 m (R ++ [v]) T ∧ Fr (s :: spB ra) G0 (G7.set s (sysB p n0 m ra' pa)) := by
 have hlt : ∀ k ∈ OwnT s ra As pa, k < G0.length := by
  intro k hk
  simp only [OwnT, List.mem_cons, List.mem_append] at hk
  rcases hk with rfl | hk | hk | hk
  ·exact lt_of hs
  ·exact hpa.lt.2 k hk
  ·exact hra.lt.2 k hk
  ·exact hR.blt k hk
 have hxg := hx.ge
 have hxl : blkOf x < G6.length := by
  obtain ⟨k, cap, N, f, rfl, h2, -⟩ := hx
  exact lt_of h2
 have hel := e.len
 have hnr : ∀ k, k = s ∨ k ∈ spB pa ∨ k ∈ As.map blkOf ∨ k = blkOf x → k ∉ spB ra := by
  intro k hk hq
  have hq' := hlt k (by simp [OwnT, hq])
  have nd := hnd
  simp only [OwnT, List.nodup_cons, List.nodup_append, List.mem_cons, List.mem_append, not_or] at nd
  grind
 have hs7 := hf _ _ (hnr s (.inl rfl)) (e _ _ hs)
 have f1 : Fr [s] G7 (G7.set s (sysB p n0 m ra' pa)) := fun k B hk e => set_other e (by intro q; exact hk (by simp [q]))
 have hn' := spB_nd ra'
 have nd' : (OwnT s ra' (As ++ [x]) pa).Nodup ∧ ∀ k ∈ OwnT s ra' (As ++ [x]) pa, m0 ≤ k := by
  have nd := hnd
  have ge := hge
  have hl := hlt
  unfold OwnT at nd ge hl ⊢
  rw [List.map_append]
  simp only [List.nodup_cons, List.nodup_append, List.mem_cons, List.mem_append, not_or, List.map_cons, List.map_nil, List.not_mem_nil, or_false] at nd ge hl ⊢
  constructor <;> grind
 have hns : ∀ k, k ∈ spB pa ∨ k ∈ spB ra' ∨ k ∈ (As ++ [x]).map blkOf → k ∉ [s] := by
  intro k hk hq
  have nd := nd'.1
  simp only [OwnT, List.nodup_cons, List.mem_append, not_or] at nd
  simp at hq
  subst hq
  rcases hk with hk | hk | hk
  ·exact nd.1.1 hk
  ·exact nd.1.2.1 hk
  ·exact nd.1.2.2 hk
 refine ⟨hs7, ⟨ra', As ++ [x], pa, set_same hs7, hsp.fr f1 fun k hk => hns k (.inr (.inl hk)), ?_, ?_, nd'.1, nd'.2⟩, ?_⟩
 ·have h1 := ((hR.fr (l := []) e.fr (by simp)).fr hf fun k hk => hnr k (by simp only [hk]; simp)).fr f1 fun k hk => hns k (.inr (.inr (by rw [List.map_append]; exact List.mem_append_left _ hk)))
  have h2 := ((hx.row.fr hf (hnr _ (by simp))).fr f1 (hns _ (.inr (.inr (by simp)))))
  have hA := hR.1
  refine ⟨by simp [hA], fun i hi => ?_⟩
  rw [List.length_append, List.length_singleton] at hi
  by_cases hi' : i < As.length
  ·have e1 : (As ++ [x]).getD i .sn = As.getD i .sn := by simp only [List.getD_eq_getElem?_getD]; rw [List.getElem?_append_left hi']
   rw [e1, getD_app, if_pos (by omega)]
   exact h1.2 i hi'
  ·obtain rfl : i = As.length := by omega
   have e1 : (As ++ [x]).getD As.length .sn = x := by simp only [List.getD_eq_getElem?_getD]; rw [List.getElem?_append_right (Nat.le_refl _)]; simp
   rw [e1, getD_app, if_neg (by omega), hA, Nat.sub_self]
   exact h2
 ·exact ((hpa.fr (l := []) e.fr (by simp)).fr hf fun k hk => hnr k (by simp [hk])).fr f1 fun k hk => hns k (by simp [hk])
 ·intro k B hk e'
  simp only [List.mem_cons, not_or] at hk
  exact f1 _ _ (by simpa using hk.1) (hf _ _ hk.2 (e _ _ e'))
theorem SY.len {m0 : Nat} {H : List Blk} {s m : Nat} {p n0 : Int} {R : List By} {T : List Int} (h : SY m0 H s p n0 m R T) : s < H.length := by
 obtain ⟨ra, As, pa, h, -⟩ := h; exact lt_of h
end Hf
namespace Hf
open Go Classical
variable {P : Program} {ρ : Nat → FuncId}
theorem i_system_solve_ok (B : Bs P ρ) (E : F_i_system_solve P ρ) {m0 : Nat} {H : List Blk} {s m : Nat} {p n0 : Int} {R : List By} {T0 : List Int} (hp : 1 ≤ p) (hp2 : p ≤ 256) (hm : m ≤ 100000) (hS : SY m0 H s p n0 m R T0) (hlen : R.length ≤ 1000000) (hm0 : m0 ≤ H.length) :
  CallR P ρ 287 [.pt s 0] H (fun u G => u = .one (.b (solOK (m + 1) p R m)) ∧ SY m0 G s p n0 m ((solT (m + 1) p R m).1.take (solT (m + 1) p R m).2.length) (solT (m + 1) p R m).2 ∧ Upto m0 H G) := by
 obtain ⟨ra0, As0, pa0, hs0, hra0, hR0, hpa0, hnd0, hge0⟩ := hS
 refine call_of_q B.fn B.mo E.1 rfl (fun hAr hHp => ?_) (by simp [At.lt, lt_of hs0])
 refine ⟨H.length, rfl, ?_⟩
 refine ⟨_, _, get_new, rfl, ?_⟩
 refine ⟨_, _, _, app_old hs0, cput_rw (by simp) rfl, eqBk_rfl, ?_⟩
 refine ⟨_, rfl, ?_⟩
 refine ⟨_, _, _, get_new, cput_vr rfl, eqBk_rfl, ?_⟩
 obtain ⟨hI0, hK0, hU0⟩ := solve_start (B := ⟨false, .vr (.i .i64 ((0 : Nat) : Int))⟩) hs0 hra0 hR0 hpa0 hnd0 hge0 hm0
 refine ⟨At × List At × At × Nat × Nat, (fun a1 (i0 : Nat) (x0 : At × List At × At × Nat × Nat) => match x0 with | ⟨ra, As, pa, cb, d⟩ => [(1, a1), (3, .one (.i .i64 ((d : Nat) : Int))), (4, .one (.pt cb 0))]) _ , fun (i0 : Nat) (x0 : At × List At × At × Nat × Nat) (G0 : List Blk) => match x0 with | ⟨ra, As, pa, cb, d⟩ => (SolI m0 H.length s p n0 m (solT (m + 1) p R i0).1 (solT (m + 1) p R i0).2 G0 ra As pa ∧ G0[cb]? = some ⟨false, .vr (.i .i64 ((i0 : Nat) : Int))⟩ ∧ cb ∉ H.length :: OwnT s ra As pa ∧ m0 ≤ cb ∧ d = (solT (m + 1) p R i0).2.length ∧ Upto m0 H G0), m, ⟨⟨ra0, As0, .sn, _, 0⟩, ?_, ⟨rfl, rfl, rfl, trivial⟩⟩, ?_⟩
 ·rw [app_set0]
  refine ⟨hI0, get_new, fun h => ?_, by simp; omega, rfl, hU0⟩
  have := hK0 _ h
  simp at this
 rintro i0 ⟨ra, As, pa, cb, d⟩ G0 hi0 ⟨hI, hcb, hcn, hc0, hd, hU⟩
 have hl := @solT_len (m + 1) p R i0
 have hAl := hI.frows.1
 refine ⟨_, _, hcb, rfl, ?_⟩
 refine ⟨_, _, hI.fkb, rfl, ?_⟩
 refine ⟨_, _, hI.fs, rfl, ?_⟩
 refine ⟨fun h16 => ?_, fun h16 => ?_⟩
 ·replace h16 := of_decide_eq_true h16
  refine brB_t ?_
  refine ⟨_, _, hI.fkb, rfl, ?_⟩
  iterate 3 refine brB_t ?_
  refine ⟨_, _, hI.fs, rfl, ?_⟩
  refine brB_t ?_
  refine ⟨_, (hI.fra).len, ?_⟩
  iterate 2 refine brB_t ?_
  refine ⟨fun h24 => ?_, fun h24 => ?_⟩
  ·replace h24 := of_decide_eq_true h24
   subst hd
   have hd0 : (solT (m + 1) p R i0).2.length < R.length := by omega
   refine ⟨_, _, hI.fkb, rfl, ?_⟩
   refine ⟨_, _, hI.fs, rfl, ?_⟩
   obtain ⟨kr, cr, lr, rfl, hkr, ⟨hr1, hr2⟩, hr3⟩ := hI.fra.sl (by omega)
   obtain ⟨z, hz⟩ : ∃ z, firstQ (fun i => (solT (m + 1) p R i0).1.getD ((solT (m + 1) p R i0).2.length + i) z0 i0 != 0) (R.length - (solT (m + 1) p R i0).2.length) 0 = z := ⟨_, rfl⟩
   have hdl : (As.drop (solT (m + 1) p R i0).2.length).length = R.length - (solT (m + 1) p R i0).2.length := by simp; omega
   refine ⟨_, _, rfl, rfl, ⟨by omega, by omega⟩, ?_⟩
   refine ⟨_, x_IndexFunc_R_ok B E.2.2.1 (q := fun i => (solT (m + 1) p R i0).1.getD ((solT (m + 1) p R i0).2.length + i) z0 i0 != 0) (z := z) (by rw [hdl]; exact hz) (rdR_drop hkr ⟨hr1, hr2⟩ hr3 (by omega) _) (by simp [At.lt, lt_of hkr]) (by simp [At.lt, lt_of hcb]) (by omega) (fun i hi => by rw [drop_getD]; exact i_system_solve_1_ok B E.2.1 (hI.frows.at _ (by omega)) hcb (by omega)), ?_⟩
   rintro _ _ ⟨rfl, rfl⟩
   refine ⟨fun h36 => ?_, fun h36 => ?_⟩
   ·replace h36 := of_decide_eq_true h36
    have hS : solT (m + 1) p R (i0 + 1) = solT (m + 1) p R i0 := by
     rw [solT_succ]; unfold solS
     rw [hl.1, hz, if_pos h36]
    refine ⟨_, _, hcb, rfl, ?_⟩
    refine ⟨_, rfl, ?_⟩
    refine ⟨_, _, _, get_new, cput_vr rfl, eqBk_rfl, ?_⟩
    refine ⟨_, _, set_same get_new, rfl, ?_⟩
    refine ⟨((i0 + 1 : Nat) : Int), w64_id _ (by omega) (by omega), ?_⟩
    refine ⟨_, _, _, set_same get_new, cput_vr rfl, eqBk_rfl, ?_⟩
    refine ⟨by omega, (.sl kr 0 As.length cr, As, pa, _, _), ?_, ⟨rfl, rfl, rfl, trivial⟩⟩
    dsimp only
    rw [app_set0, app_set0, hS]
    exact ⟨hI.ext Ext.app, get_new, fun h => absurd (hI.lt _ h) (by omega), by have := (hI.lt _ (List.mem_cons_self ..)); omega, rfl, hU.trans (Ext.app).upto⟩
   ·replace h36 := of_decide_eq_false h36
    obtain ⟨k, hk, rfl⟩ : ∃ k, k < R.length - (solT (m + 1) p R i0).2.length ∧ z = (k : Int) := by
     rcases @firstQ_or (fun i => (solT (m + 1) p R i0).1.getD ((solT (m + 1) p R i0).2.length + i) z0 i0 != 0) (R.length - (solT (m + 1) p R i0).2.length) with ⟨e, -⟩ | ⟨k, hk, e, -⟩
     ·omega
     ·exact ⟨k, hk, by omega⟩
    have hS : solT (m + 1) p R (i0 + 1) = (clr (m + 1) p (swL z0 (solT (m + 1) p R i0).1 (solT (m + 1) p R i0).2.length ((solT (m + 1) p R i0).2.length + k)) (solT (m + 1) p R i0).2.length i0, (solT (m + 1) p R i0).2 ++ [(i0 : Int)]) := by
     rw [solT_succ]; unfold solS
     rw [hl.1, hz, if_neg h36, Int.toNat_natCast]
    refine ⟨_, _, hI.fkb, rfl, ?_⟩
    refine ⟨_, _, hI.fs, rfl, ?_⟩
    refine ⟨_, _, hI.fkb, rfl, ?_⟩
    refine ⟨_, _, hI.fs, rfl, ?_⟩
    refine ⟨(((solT (m + 1) p R i0).2.length + k : Nat) : Int), w64_id _ (by omega) (by omega), ?_⟩
    refine ⟨_, _, hI.fkb, rfl, ?_⟩
    refine ⟨_, _, hI.fs, rfl, ?_⟩
    refine ⟨(((solT (m + 1) p R i0).2.length + k : Nat) : Int), w64_id _ (by omega) (by omega), ?_⟩
    obtain ⟨k56, o56, n56, c56, q56, ea56, hl56, hq56, r56, l56, hk56, hi56⟩ := rdR_at (hI.fra.rd) (((solT (m + 1) p R i0).2.length + k)) (by omega)
    refine ⟨k56, o56, n56, c56, ((solT (m + 1) p R i0).2.length + k), q56, ea56, rfl, hl56, hq56, ?_⟩
    refine ⟨_, _, hk56, hi56, ?_⟩
    refine ⟨_, _, hI.fkb, rfl, ?_⟩
    refine ⟨_, _, hI.fs, rfl, ?_⟩
    obtain ⟨k63, o63, n63, c63, q63, ea63, hl63, hq63, r63, l63, hk63, hi63⟩ := rdR_at (hI.fra.rd) (((solT (m + 1) p R i0).2.length)) (by omega)
    refine ⟨k63, o63, n63, c63, ((solT (m + 1) p R i0).2.length), q63, ea63, rfl, hl63, hq63, ?_⟩
    refine ⟨_, _, hk63, hi63, ?_⟩
    have hca := (hI.frows.at ((solT (m + 1) p R i0).2.length + k) (by omega)).cell
    have hcb2 := (hI.frows.at (solT (m + 1) p R i0).2.length (by omega)).cell
    obtain ⟨k65, o65, n65, c65, q65, C65, ea65, hl65, hq65, hk65, hs65⟩ := Spn.st (hI.fra) (((solT (m + 1) p R i0).2.length)) (by omega)
    refine ⟨k65, o65, n65, c65, ((solT (m + 1) p R i0).2.length), q65, ea65, rfl, hl65, hq65, ?_⟩
    refine ⟨_, _, _, hk65, (hs65 _ hca).1, eqBk_rfl, ?_⟩
    obtain ⟨-, hsp1, hf1⟩ := hs65 _ hca
    obtain ⟨k66, o66, n66, c66, q66, C66, ea66, hl66, hq66, hk66, hs66⟩ := Spn.st (hsp1) (((solT (m + 1) p R i0).2.length + k)) (by rw [List.length_set]; omega)
    refine ⟨k66, o66, n66, c66, ((solT (m + 1) p R i0).2.length + k), q66, ea66, rfl, hl66, hq66, ?_⟩
    refine ⟨_, _, _, hk66, (hs66 _ hcb2).1, eqBk_rfl, ?_⟩
    obtain ⟨-, hsp2, hf2⟩ := hs66 _ hcb2
    have hI2 := hI.sw (i := (solT (m + 1) p R i0).2.length) (j := (solT (m + 1) p R i0).2.length + k) (by omega) (by omega) (hf1.trans hf2) hsp2
    have hcb3 := (hf1.trans hf2) _ _ (fun h => hcn (by simp [OwnT, h])) hcb
    refine ⟨_, _, hI2.fkb, rfl, ?_⟩
    refine ⟨_, _, hcb3, rfl, ?_⟩
    refine ⟨_, i_system_clear_ok B E.2.2.2.1 (d := (solT (m + 1) p R i0).2.length) (c := i0) hp hp2 hm hI2.fs hI2.fra hI2.frows (by have := hI2.nd; unfold OwnT at this; simp only [List.nodup_cons, List.nodup_append] at this; exact this.2.2.2.1.2.1) (by have := hI2.nd; unfold OwnT at this; simp only [List.nodup_cons, List.nodup_append, List.mem_append, not_or] at this; exact this.2.1.2.2) (fun k hk hq => by have := hI2.nd; unfold OwnT at this; simp only [List.nodup_cons, List.nodup_append] at this; exact this.2.2.2.1.2.2 k hk k hq rfl) (by rw [swL_len]; omega) (by rw [swL_len]; omega) (by omega), ?_⟩
    rintro _ G3 ⟨hc1, hc2⟩
    have hI3 := hI2.cl hc2 hc1
    have hcn2 : cb ∉ (swL At.sn As (solT (m + 1) p R i0).2.length ((solT (m + 1) p R i0).2.length + k)).map blkOf := by
     intro h
     refine hcn ?_
     have := ((swL_perm (z := At.sn) (L := As) (i := (solT (m + 1) p R i0).2.length) (j := (solT (m + 1) p R i0).2.length + k) (by omega) (by omega)).map blkOf).mem_iff.1 h
     unfold OwnT
     simp only [List.mem_cons, List.mem_append]
     exact .inr (.inr (.inr (.inr this)))
    have hcb4 := hc2 _ _ hcn2 hcb3
    refine ⟨_, _, hI3.fkb, rfl, ?_⟩
    refine ⟨_, _, hI3.fkb, rfl, ?_⟩
    refine ⟨_, _, hI3.fs, rfl, ?_⟩
    refine ⟨_, _, hcb4, rfl, ?_⟩
    refine ⟨_, rfl, ⟨kept1 hI3.fs (app_old hI3.fs), kept1 hI3.fkb (app_old hI3.fkb), kept1 hI3.fkb (app_old hI3.fkb), trivial⟩, ?_⟩
    refine ⟨_, spn_app (x := .i .i64 (i0 : Int)) (hI3.ext Ext.app).fpa ⟨false, _, get_new, by simp, rfl⟩ (by simp; omega) (by omega), ?_⟩
    rintro a78 G78 ⟨hp78, hf78, hb78, hl78⟩
    have hx3 : ∀ k, k = H.length ∨ k = s → k ∉ spB pa := by
     intro k hk hq
     have nd := hI3.nd
     simp only [OwnT, List.nodup_cons, List.nodup_append, List.mem_cons, List.mem_append, not_or] at nd
     grind
    have hkb78 := hf78 _ _ (hx3 _ (.inl rfl)) (app_old hI3.fkb)
    have hs78 := hf78 _ _ (hx3 _ (.inr rfl)) (app_old hI3.fs)
    refine ⟨⟨kept1 (app_old hI3.fs) hs78, kept1 (app_old hI3.fkb) hkb78, kept1 (app_old hI3.fkb) hkb78, trivial⟩, ?_⟩
    have hI4 := hI3.pl (T' := (solT (m + 1) p R i0).2 ++ [(i0 : Int)]) Ext.app hf78 (by rw [List.map_append]; exact hp78) (app_hb hb78) (by have := hI3.lt _ (List.mem_cons_self ..); omega)
    have hcb5 : cb ∉ spB pa ∧ cb ≠ s := by constructor <;> (intro h; exact hcn (by simp [OwnT, h]))
    have hcb6 := hf78 _ _ hcb5.1 (app_old hcb4)
    refine ⟨_, _, _, hs78, cput_rw (by simp) hp78.cell, eqBk_rfl, ?_⟩
    refine ⟨((((solT (m + 1) p R i0).2.length + 1 : Nat)) : Int), w64_id _ (by omega) (by omega), ?_⟩
    refine ⟨_, _, set_other hcb6 (Ne.symm hcb5.2), rfl, ?_⟩
    refine ⟨_, rfl, ?_⟩
    refine ⟨_, _, _, get_new, cput_vr rfl, eqBk_rfl, ?_⟩
    refine ⟨_, _, set_same get_new, rfl, ?_⟩
    refine ⟨((i0 + 1 : Nat) : Int), w64_id _ (by omega) (by omega), ?_⟩
    refine ⟨_, _, _, set_same get_new, cput_vr rfl, eqBk_rfl, ?_⟩
    refine ⟨by omega, (.sl kr 0 As.length cr, swL At.sn As (solT (m + 1) p R i0).2.length ((solT (m + 1) p R i0).2.length + k), a78, _, _), ?_, ⟨rfl, rfl, rfl, trivial⟩⟩
    dsimp only
    rw [app_set0, app_set0, hS]
    refine ⟨hI4.ext Ext.app, get_new, fun h => Nat.lt_irrefl _ (hI4.lt _ h), Nat.le_trans (hI4.ge _ (List.mem_cons_self ..)) (Nat.le_of_lt (hI4.lt _ (List.mem_cons_self ..))), by simp, ?_⟩
    have ge := hI.ge
    have ge3 := hI3.ge
    refine hU.trans (((hf1.trans hf2).upto fun k hk => ge k (by simp only [OwnT, List.mem_cons, List.mem_append]; simp [hk])).trans ((hc2.upto fun k hk => ge3 k (by simp only [OwnT, List.mem_cons, List.mem_append]; simp [hk])).trans ((Ext.app (G := _)).upto.trans ((hf78.upto fun k hk => ge3 k (by simp only [OwnT, List.mem_cons, List.mem_append]; simp [hk])).trans (Upto.trans (H1 := _) (fun k B hk e => set_other e ?_) (Ext.app (G := _)).upto)))))
    have := ge s (by simp [OwnT]); omega
  ·replace h24 := of_decide_eq_false h24
   have hfin : solT (m + 1) p R m = solT (m + 1) p R i0 := by
    have := @solT_full (m + 1) p R i0 (m - i0) (by omega)
    rwa [show i0 + (m - i0) = m by omega] at this
   refine ⟨_, _, hI.fkb, rfl, ?_⟩
   refine ⟨_, _, hI.fs, rfl, ?_⟩
   have hR0l : As.length = R.length := by omega
   subst hd
   rcases hI.fra with ⟨rfl, rfl⟩ | ⟨kr, cr, lr, rfl, hkr, ⟨hr1, hr2⟩, hr3⟩
   ·have hd0 : (solT (m + 1) p R i0).2.length = 0 := by have : ([] : List At).length = R.length := hR0l; simp at this; omega
    refine ⟨⟨by rw [hd0]; rfl, rfl⟩, ?_⟩
    refine ⟨_, _, hI.fkb, rfl, ?_⟩
    refine ⟨_, _, hI.fkb, rfl, ?_⟩
    refine ⟨_, _, hI.fs, rfl, ?_⟩
    refine ⟨⟨rfl, by rw [hd0]; rfl⟩, ?_⟩
    obtain ⟨hD, hf9⟩ := hI.done (d := 0) (ra' := .sn) (by omega) rfl (.inl ⟨rfl, rfl⟩)
    refine ⟨_, _, _, hI.fs, cput_rw (by simp) rfl, eqBk_rfl, ?_⟩
    obtain ⟨z, hz⟩ : ∃ z, firstQ (fun i => (solT (m + 1) p R i0).1.getD ((solT (m + 1) p R i0).2.length + i) z0 m != 0) (R.length - (solT (m + 1) p R i0).2.length) 0 = z := ⟨_, rfl⟩
    have hkb9 := hf9 _ _ (by have nd := hI.nd; simp [OwnT] at nd ⊢; grind) hI.fkb
    have hs9 : ∀ ra', (List.set _ s (sysB p n0 m ra' pa))[s]? = some (sysB p n0 m ra' pa) := fun ra' => set_same hI.fs
    refine ⟨_, x_ContainsFunc_R_ok B E.2.2.2.2.2 (a := .sn) (As := []) (q := fun i => (solT (m + 1) p R i0).1.getD ((solT (m + 1) p R i0).2.length + i) z0 m != 0) (z := z) (by rw [← hz, ← hR0l, hd0]; rfl) rfl rfl (by have := lt_of hI.fkb; simp [At.lt]; omega) (by simp) (fun i hi => by simp at hi), ?_⟩
    rintro _ _ ⟨rfl, rfl⟩
    refine ⟨rfl, by unfold solOK; rw [hfin, hz]; rfl, ?_, ?_⟩
    ·rw [hfin]; first | exact hD | (rw [hd0]; exact hD)
    ·exact hU.trans (hf9.upto fun k hk => by have := hI.ge s (by simp [OwnT]); simp at hk; omega)
   ·refine ⟨_, As.length, rfl, rfl, ⟨by omega, by omega⟩, ?_⟩
    refine ⟨_, _, hI.fkb, rfl, ?_⟩
    refine ⟨_, _, hI.fkb, rfl, ?_⟩
    refine ⟨_, _, hI.fs, rfl, ?_⟩
    refine ⟨0, _, rfl, rfl, ⟨by omega, by omega⟩, ?_⟩
    obtain ⟨hD, hf9⟩ := hI.done (d := (solT (m + 1) p R i0).2.length) (ra' := .sl kr (if cr = 0 then 0 else 0 + 0 * 1) ((solT (m + 1) p R i0).2.length - 0) (cr - 0)) (by omega) rfl (by refine spn_take ?_ ⟨hr1, hr2⟩ hr3 (by omega); exact set_other hkr (by intro q; have nd := hI.nd; subst q; simp [OwnT, spB] at nd))
    refine ⟨_, _, _, hI.fs, cput_rw (by simp) rfl, eqBk_rfl, ?_⟩
    obtain ⟨z, hz⟩ : ∃ z, firstQ (fun i => (solT (m + 1) p R i0).1.getD ((solT (m + 1) p R i0).2.length + i) z0 m != 0) (R.length - (solT (m + 1) p R i0).2.length) 0 = z := ⟨_, rfl⟩
    have hkb9 := hf9 _ _ (by have nd := hI.nd; simp [OwnT] at nd ⊢; grind) hI.fkb
    have hkr9 : kr ∉ [s] := by have nd := hI.nd; simp [OwnT, spB] at nd ⊢; grind
    have hrow9 : ∀ i, i < As.length → blkOf (As.getD i .sn) ∉ [s] := by
     intro i hi
     have nd := hI.nd
     have := map_getD hi
     simp only [OwnT, List.nodup_cons, List.nodup_append, List.mem_cons, List.mem_append, not_or, List.not_mem_nil, or_false] at nd ⊢
     intro q
     grind
    refine ⟨_, x_ContainsFunc_R_ok B E.2.2.2.2.2 (As := As.drop (solT (m + 1) p R i0).2.length) (q := fun i => (solT (m + 1) p R i0).1.getD ((solT (m + 1) p R i0).2.length + i) z0 m != 0) (z := z) (by rw [← hz, List.length_drop, hR0l]) (rdR_drop (hf9 _ _ hkr9 hkr) ⟨hr1, hr2⟩ hr3 (by omega) _) (by simp [At.lt]; have := lt_of hkr; omega) (by have := lt_of hI.fkb; simp [At.lt]; omega) (by rw [List.length_drop]; omega) (fun i hi => by rw [List.length_drop] at hi; rw [drop_getD]; exact i_system_solve_2_ok B E.2.2.2.2.1 ((hI.frows.at _ (by omega)).fr hf9 (hrow9 _ (by omega))) hkb9 (set_same hI.fs)), ?_⟩
    rintro _ _ ⟨rfl, rfl⟩
    refine ⟨rfl, by unfold solOK; rw [hfin, hz]; rfl, ?_, ?_⟩
    ·rw [hfin]; first | exact hD | (rw [hd0]; exact hD)
    ·exact hU.trans (hf9.upto fun k hk => by have := hI.ge s (by simp [OwnT]); simp at hk; omega)
 ·replace h16 := of_decide_eq_false h16
  have e0 : i0 = m := by omega
  have hfin : solT (m + 1) p R m = solT (m + 1) p R i0 := by rw [e0]
  iterate 8 refine brB_f ?_
  refine ⟨_, _, hI.fkb, rfl, ?_⟩
  refine ⟨_, _, hI.fs, rfl, ?_⟩
  have hR0l : As.length = R.length := by omega
  subst hd
  rcases hI.fra with ⟨rfl, rfl⟩ | ⟨kr, cr, lr, rfl, hkr, ⟨hr1, hr2⟩, hr3⟩
  ·have hd0 : (solT (m + 1) p R i0).2.length = 0 := by have : ([] : List At).length = R.length := hR0l; simp at this; omega
   refine ⟨⟨by rw [hd0]; rfl, rfl⟩, ?_⟩
   refine ⟨_, _, hI.fkb, rfl, ?_⟩
   refine ⟨_, _, hI.fkb, rfl, ?_⟩
   refine ⟨_, _, hI.fs, rfl, ?_⟩
   refine ⟨⟨rfl, by rw [hd0]; rfl⟩, ?_⟩
   obtain ⟨hD, hf9⟩ := hI.done (d := 0) (ra' := .sn) (by omega) rfl (.inl ⟨rfl, rfl⟩)
   refine ⟨_, _, _, hI.fs, cput_rw (by simp) rfl, eqBk_rfl, ?_⟩
   obtain ⟨z, hz⟩ : ∃ z, firstQ (fun i => (solT (m + 1) p R i0).1.getD ((solT (m + 1) p R i0).2.length + i) z0 m != 0) (R.length - (solT (m + 1) p R i0).2.length) 0 = z := ⟨_, rfl⟩
   have hkb9 := hf9 _ _ (by have nd := hI.nd; simp [OwnT] at nd ⊢; grind) hI.fkb
   have hs9 : ∀ ra', (List.set _ s (sysB p n0 m ra' pa))[s]? = some (sysB p n0 m ra' pa) := fun ra' => set_same hI.fs
   refine ⟨_, x_ContainsFunc_R_ok B E.2.2.2.2.2 (a := .sn) (As := []) (q := fun i => (solT (m + 1) p R i0).1.getD ((solT (m + 1) p R i0).2.length + i) z0 m != 0) (z := z) (by rw [← hz, ← hR0l, hd0]; rfl) rfl rfl (by have := lt_of hI.fkb; simp [At.lt]; omega) (by simp) (fun i hi => by simp at hi), ?_⟩
   rintro _ _ ⟨rfl, rfl⟩
   refine ⟨rfl, by unfold solOK; rw [hfin, hz]; rfl, ?_, ?_⟩
   ·rw [hfin]; first | exact hD | (rw [hd0]; exact hD)
   ·exact hU.trans (hf9.upto fun k hk => by have := hI.ge s (by simp [OwnT]); simp at hk; omega)
  ·refine ⟨_, As.length, rfl, rfl, ⟨by omega, by omega⟩, ?_⟩
   refine ⟨_, _, hI.fkb, rfl, ?_⟩
   refine ⟨_, _, hI.fkb, rfl, ?_⟩
   refine ⟨_, _, hI.fs, rfl, ?_⟩
   refine ⟨0, _, rfl, rfl, ⟨by omega, by omega⟩, ?_⟩
   obtain ⟨hD, hf9⟩ := hI.done (d := (solT (m + 1) p R i0).2.length) (ra' := .sl kr (if cr = 0 then 0 else 0 + 0 * 1) ((solT (m + 1) p R i0).2.length - 0) (cr - 0)) (by omega) rfl (by refine spn_take ?_ ⟨hr1, hr2⟩ hr3 (by omega); exact set_other hkr (by intro q; have nd := hI.nd; subst q; simp [OwnT, spB] at nd))
   refine ⟨_, _, _, hI.fs, cput_rw (by simp) rfl, eqBk_rfl, ?_⟩
   obtain ⟨z, hz⟩ : ∃ z, firstQ (fun i => (solT (m + 1) p R i0).1.getD ((solT (m + 1) p R i0).2.length + i) z0 m != 0) (R.length - (solT (m + 1) p R i0).2.length) 0 = z := ⟨_, rfl⟩
   have hkb9 := hf9 _ _ (by have nd := hI.nd; simp [OwnT] at nd ⊢; grind) hI.fkb
   have hkr9 : kr ∉ [s] := by have nd := hI.nd; simp [OwnT, spB] at nd ⊢; grind
   have hrow9 : ∀ i, i < As.length → blkOf (As.getD i .sn) ∉ [s] := by
    intro i hi
    have nd := hI.nd
    have := map_getD hi
    simp only [OwnT, List.nodup_cons, List.nodup_append, List.mem_cons, List.mem_append, not_or, List.not_mem_nil, or_false] at nd ⊢
    intro q
    grind
   refine ⟨_, x_ContainsFunc_R_ok B E.2.2.2.2.2 (As := As.drop (solT (m + 1) p R i0).2.length) (q := fun i => (solT (m + 1) p R i0).1.getD ((solT (m + 1) p R i0).2.length + i) z0 m != 0) (z := z) (by rw [← hz, List.length_drop, hR0l]) (rdR_drop (hf9 _ _ hkr9 hkr) ⟨hr1, hr2⟩ hr3 (by omega) _) (by simp [At.lt]; have := lt_of hkr; omega) (by have := lt_of hI.fkb; simp [At.lt]; omega) (by rw [List.length_drop]; omega) (fun i hi => by rw [List.length_drop] at hi; rw [drop_getD]; exact i_system_solve_2_ok B E.2.2.2.2.1 ((hI.frows.at _ (by omega)).fr hf9 (hrow9 _ (by omega))) hkb9 (set_same hI.fs)), ?_⟩
   rintro _ _ ⟨rfl, rfl⟩
   refine ⟨rfl, by unfold solOK; rw [hfin, hz]; rfl, ?_, ?_⟩
   ·rw [hfin]; first | exact hD | (rw [hd0]; exact hD)
   ·exact hU.trans (hf9.upto fun k hk => by have := hI.ge s (by simp [OwnT]); simp at hk; omega)


end Hf
namespace Hf
open Go Classical
variable {P : Program} {ρ : Nat → FuncId}
theorem x_Clone_B_ok (B : Bs P ρ) (E : F_x_Clone_B P ρ) {H : List Blk} {k off n cap : Nat} {r : Bool} {N : Nat} {f : By} (hk : H[k]? = some ⟨r, .by [] N f⟩) (hN : off + n ≤ N) (hn : n ≤ 1000) :
  CallR P ρ 289 [.sl k off n cap] H (fun u G => ∃ b, u = .one b ∧ RowC H.length G n b (fun x => f (off + x)) ∧ Ext H G) := by
 refine call_of_q B.fn B.mo E rfl (fun hAr hHp => ?_) (by simp [At.lt, lt_of hk])
 refine brB_f ?_
 refine ⟨[], _, rfl, rfl, ?_⟩
 refine ⟨_, rowc_app (n := 0) (v := z0) (M := n) (g := fun x => f (off + x)) ⟨_, _, _, _, rfl, get_new, ⟨Nat.le_refl _, Nat.le_refl _, Nat.le_refl _⟩, fun x hx => by omega⟩ ⟨rfl, r, N, f, app_old hk, by omega, fun x hx => rfl⟩ (by omega) (by simp), ?_⟩
 rintro a7 G7 ⟨hv7, hu7, hl7⟩
 refine ⟨rfl, a7, rfl, ?_, ?_⟩
 ·obtain ⟨k', cap', N', f', h1, h2, h3, h4⟩ := hv7
  refine ⟨k', cap', N', f', by rw [h1, Nat.zero_add], h2, by omega, fun x hx => ?_⟩
  have := h4 x (by omega)
  rw [this]; simp
 ·exact Upto.ext Ext.app hu7 (Nat.le_refl _)

theorem i_reduced_ok (B : Bs P ρ) (E : F_i_reduced P ρ) {H : List Blk} {p : Int} {a : At} {L : List By} (hp : Pr p) (hL : VS H a L) (hv : ∀ v ∈ L, Vp 8 p v) (hlen : L.length ≤ 1000000) :
  CallR P ρ 267 [.i .i64 p, a] H (fun u G => ∃ b, u = .one b ∧ Ext H G ∧ VW H.length G b (redL p L)) := by
 have hp2 := hp.1
 have hp3 := hp.2.1
 refine call_of_q B.fn B.mo E.1 rfl (fun hAr hHp => ?_) (by simp only [List.all_cons, List.all_nil, hL.lt]; rfl)
 refine ⟨_, i_newSystem_ok B E.2.1 , ?_⟩
 rintro _ _ ⟨rfl, rfl⟩
 refine ⟨_, (hL).len, ?_⟩
 refine ⟨Unit, (fun a5 a13 a14 (i0 : Nat) (x0 : Unit) => [(5, a5), (13, a13), (14, a14), (15, .one (.i .i64 ((i0 : Nat) : Int)))]) _ _ _ , fun (i0 : Nat) (x0 : Unit) (G0 : List Blk) => (SY H.length G0 H.length p 0 8 (L.take i0) [] ∧ Ext H G0), L.length, ⟨(), ?_, ⟨rfl, rfl, rfl, rfl, trivial⟩⟩, ?_⟩
 ·refine ⟨⟨.sn, [], .sn, get_new, .inl ⟨rfl, rfl⟩, ⟨rfl, fun i h => by simp at h⟩, .inl ⟨rfl, rfl⟩, by simp [OwnT, spB], by simp [OwnT, spB]⟩, Ext.app⟩
 rintro i0 _ G0 hi0 ⟨hS0, hE0⟩
 refine ⟨fun h16 => ?_, fun h16 => ?_⟩
 ·replace h16 := of_decide_eq_true h16
  obtain ⟨k17, o17, n17, c17, q17, ea17, hl17, hq17, r17, N17, f17, hk17, hN17, hf17⟩ := (hL.ext hE0).at i0 (by omega)
  refine ⟨k17, o17, n17, c17, i0, q17, ea17, rfl, hl17, hq17, ?_⟩
  refine ⟨_, _, _, _, _, hk17, ⟨by simp, hN17⟩, hf17, ?_⟩
  refine ⟨_, rfl, ?_⟩
  refine ⟨_, _, _, get_new, cputs_by (by simp) (by omega), eqBk_rfl, ?_⟩
  obtain ⟨ra, As, pa, hs, hra, hR, hpa, hnd, hge⟩ := hS0
  have hlt0 := lt_of hs
  rw [app_set0]
  refine ⟨_, _, app_old hs, rfl, ?_⟩
  refine ⟨0, 8, rfl, rfl, ⟨by omega, by omega, by omega⟩, ?_⟩
  refine ⟨?_, ?_⟩
  ·skip
   refine ⟨_, x_Clone_B_ok B E.2.2.1 (k := G0.length) (off := 0 + 0 * 1) (n := 8 - 0) get_new (by omega) (by omega), ?_⟩
   rintro _ G25 ⟨b25, rfl, hc25, hE25⟩
   refine ⟨⟨kept1 (app_old hs) (hE25 _ _ (app_old hs)), trivial⟩, ?_⟩
   refine ⟨[0], _, rfl, rfl, ?_⟩
   refine ⟨⟨kept1 (hE25 _ _ (app_old hs)) (app_old (hE25 _ _ (app_old hs))), trivial⟩, ?_⟩
   refine ⟨_, rowc_app (m := G0.length) (g := fun _ => 0) (M := 1) ((hc25.mono (by simp)).ext Ext.app) ⟨rfl, _, _, _, get_new, by simp, fun x hx => by have e : x = 0 := (by omega); subst e; rfl⟩ (by omega) (by have := hE25.len; simp at this ⊢; omega), ?_⟩
   rintro a27 G27 ⟨hv27, hu27, hl27⟩
   have hE27 : Ext G0 G27 := Upto.ext (Ext.app.trans (hE25.trans Ext.app)) hu27 (Nat.le_refl _)
   refine ⟨⟨kept1 (B := sysB p 0 8 ra pa) (by first | exact hE25 _ _ (app_old (app_old hs)) | exact app_old (hE25 _ _ (app_old hs))) (hE27 _ _ hs), trivial⟩, ?_⟩
   obtain ⟨k27, cap27, N27, f27, rfl, hk27, hc27, hf27⟩ := hv27
   have hx27 : RowC G0.length G27 9 (.sl k27 0 (8 - 0 + 1) cap27) (L.getD i0 z0) := ⟨k27, cap27, N27, f27, rfl, hk27, hc27, fun x hx => by
    rw [hf27 x (by omega)]
    dsimp only
    by_cases h8 : x < 8
    ·rw [if_pos (by omega)]; simp [spl, h8]
    ·rw [if_neg (by omega)]; exact ((hv _ (getD_mem (L := L) (i := i0) (by omega))).2 x (by omega)).symm⟩
   refine ⟨_, rfl, ?_⟩
   refine ⟨⟨kept1 (hE27 _ _ hs) (app_old (hE27 _ _ hs)), trivial⟩, ?_⟩
   refine ⟨_, spn_app (x := .sl k27 0 (8 - 0 + 1) cap27) (hra.fr (l := []) (hE27.trans Ext.app).fr (by simp)) ⟨false, _, get_new, by simp, rfl⟩ (by have := hR.1; simp at this; omega) (by omega), ?_⟩
   rintro a29 G29 ⟨hp29, hf29, hb29, hl29⟩
   obtain ⟨hs29, hS29, hF29⟩ := sy_add hs hra hR hpa hnd hge hE0.len (hE27.trans Ext.app) (hx27.ext Ext.app) hp29 hf29 (app_hb hb29)
   refine ⟨_, _, _, hs29, cput_rw (by simp) hp29.cell, eqBk_rfl, ?_⟩
   refine ⟨((i0 + 1 : Nat) : Int), w64_id _ (by omega) (by omega), ?_⟩
   refine ⟨by omega, (), ?_, ⟨rfl, rfl, rfl, rfl, trivial⟩⟩
   refine ⟨?_, ?_⟩
   ·have e : L.take (i0 + 1) = L.take i0 ++ [L.getD i0 z0] := by rw [List.take_add_one]; simp [show i0 < L.length by omega]
    rw [e]; exact hS29
   ·exact Upto.ext hE0 (hF29.upto fun k hk => hge k (by simp only [List.mem_cons] at hk; rcases hk with h | h <;> simp [OwnT, h])) (Nat.le_refl _)
  ·skip
   refine ⟨[0], _, rfl, rfl, ?_⟩
   refine ⟨⟨kept1 (app_old hs) (app_old (app_old hs)), trivial⟩, ?_⟩
   refine ⟨_, x_Clone_B_ok B E.2.2.1 (k := G0.length) (off := 0 + 0 * 1) (n := 8 - 0) (app_old get_new) (by omega) (by omega), ?_⟩
   rintro _ G25 ⟨b25, rfl, hc25, hE25⟩
   refine ⟨⟨kept1 (app_old (app_old hs)) (hE25 _ _ (app_old (app_old hs))), trivial⟩, ?_⟩
   refine ⟨_, rowc_app (m := G0.length) (g := fun _ => 0) (M := 1) (hc25.mono (by simp)) ⟨rfl, _, _, _, hE25 _ _ get_new, by simp, fun x hx => by have e : x = 0 := (by omega); subst e; rfl⟩ (by omega) (by have := hE25.len; simp at this ⊢; omega), ?_⟩
   rintro a27 G27 ⟨hv27, hu27, hl27⟩
   have hE27 : Ext G0 G27 := Upto.ext (Ext.app.trans (Ext.app.trans hE25)) hu27 (Nat.le_refl _)
   refine ⟨⟨kept1 (B := sysB p 0 8 ra pa) (by first | exact hE25 _ _ (app_old (app_old hs)) | exact app_old (hE25 _ _ (app_old hs))) (hE27 _ _ hs), trivial⟩, ?_⟩
   obtain ⟨k27, cap27, N27, f27, rfl, hk27, hc27, hf27⟩ := hv27
   have hx27 : RowC G0.length G27 9 (.sl k27 0 (8 - 0 + 1) cap27) (L.getD i0 z0) := ⟨k27, cap27, N27, f27, rfl, hk27, hc27, fun x hx => by
    rw [hf27 x (by omega)]
    dsimp only
    by_cases h8 : x < 8
    ·rw [if_pos (by omega)]; simp [spl, h8]
    ·rw [if_neg (by omega)]; exact ((hv _ (getD_mem (L := L) (i := i0) (by omega))).2 x (by omega)).symm⟩
   refine ⟨_, rfl, ?_⟩
   refine ⟨⟨kept1 (hE27 _ _ hs) (app_old (hE27 _ _ hs)), trivial⟩, ?_⟩
   refine ⟨_, spn_app (x := .sl k27 0 (8 - 0 + 1) cap27) (hra.fr (l := []) (hE27.trans Ext.app).fr (by simp)) ⟨false, _, get_new, by simp, rfl⟩ (by have := hR.1; simp at this; omega) (by omega), ?_⟩
   rintro a29 G29 ⟨hp29, hf29, hb29, hl29⟩
   obtain ⟨hs29, hS29, hF29⟩ := sy_add hs hra hR hpa hnd hge hE0.len (hE27.trans Ext.app) (hx27.ext Ext.app) hp29 hf29 (app_hb hb29)
   refine ⟨_, _, _, hs29, cput_rw (by simp) hp29.cell, eqBk_rfl, ?_⟩
   refine ⟨((i0 + 1 : Nat) : Int), w64_id _ (by omega) (by omega), ?_⟩
   refine ⟨by omega, (), ?_, ⟨rfl, rfl, rfl, rfl, trivial⟩⟩
   refine ⟨?_, ?_⟩
   ·have e : L.take (i0 + 1) = L.take i0 ++ [L.getD i0 z0] := by rw [List.take_add_one]; simp [show i0 < L.length by omega]
    rw [e]; exact hS29
   ·exact Upto.ext hE0 (hF29.upto fun k hk => hge k (by simp only [List.mem_cons] at hk; rcases hk with h | h <;> simp [OwnT, h])) (Nat.le_refl _)
 ·replace h16 := of_decide_eq_false h16
  have e0 : L.length = i0 := by omega
  subst e0
  refine ⟨_, i_system_solve_ok B E.2.2.2 (p := p) (n0 := 0) (m0 := H.length) (m := 8) (R := L) (T0 := []) (by omega) (by omega) (by omega) (by rw [List.take_length] at hS0; exact hS0) (by omega) hE0.len, ?_⟩
  rintro _ G34 ⟨rfl, hS34, hU34⟩
  have hred := sol_red hp hv
  rw [hred] at hS34
  obtain ⟨ra, As, pa, hs, hra, hR, hpa, hnd, hge⟩ := hS34
  have hAl := hR.1
  have hE34 := Upto.ext hE0 hU34 (Nat.le_refl _)
  have hrl := (redL_rr hp hv).1.len
  refine ⟨_, rfl, ?_⟩
  refine ⟨_, _, app_old hs, rfl, ?_⟩
  refine ⟨_, (hra).len, ?_⟩
  refine ⟨At, (fun a39 a40 (i1 : Nat) (x1 : At) => [(8, .one x1), (39, a39), (40, a40), (41, .one (.i .i64 ((i1 : Nat) : Int)))]) _ _ , fun (i1 : Nat) (x1 : At) (G1 : List Blk) => (VW G34.length G1 x1 ((redL p L).take i1) ∧ Upto G34.length G34 G1), As.length, ⟨_, ⟨VW.nil (Nat.le_refl _), Ext.app.upto⟩, ⟨rfl, rfl, rfl, rfl, trivial⟩⟩, ?_⟩
  rintro i1 x1 G1 hi1 ⟨hW1, hU1⟩
  have hE1 : Ext G34 G1 := fun k B e => hU1 k B (lt_of e) e
  refine ⟨fun h42 => ?_, fun h42 => ?_⟩
  ·replace h42 := of_decide_eq_true h42
   obtain ⟨k43, o43, n43, c43, q43, ea43, hl43, hq43, r43, l43, hk43, hi43⟩ := rdR_at ((hra.fr (l := []) hE1.fr (by simp)).rd) i1 (by omega)
   refine ⟨k43, o43, n43, c43, i1, q43, ea43, rfl, hl43, hq43, ?_⟩
   obtain ⟨kr, cr, Nr, fr, ea, hkr, hNr, hfr⟩ := (hR.fr (l := []) hE1.fr (by simp)).at i1 (by omega)
   rw [ea] at hi43
   refine ⟨_, _, hk43, hi43, ?_⟩
   refine ⟨0, 8, rfl, rfl, ⟨by omega, by omega⟩, ?_⟩
   refine ⟨by omega, ?_⟩
   have ho : (if cr = 0 then 0 else 0 + 0 * 1) = 0 := by split <;> rfl
   have hg49 : ∀ x, x < 8 → (redL p L).getD i1 z0 x = fr ((if cr = 0 then 0 else 0 + 0 * 1) + x) := by
    intro x hx
    rw [ho, Nat.zero_add]; exact (hfr x (by omega)).symm
   have hb49 : (if cr = 0 then 0 else 0 + 0 * 1) + 8 ≤ Nr := by rw [ho]; omega
   refine ⟨_, _, _, _, (redL p L).getD i1 z0, hkr, ⟨Nat.zero_le _, hb49⟩, hg49, ?_⟩
   refine ⟨_, rfl, ?_⟩
   refine ⟨_, vw_app (hW1.ext Ext.app) (VS.one (v := (redL p L).getD i1 z0)) (by simp; omega) (by have := hE1.len; simp; omega), ?_⟩
   rintro a51 G51 ⟨hv51, hu51⟩
   refine ⟨((i1 + 1 : Nat) : Int), w64_id _ (by omega) (by omega), ?_⟩
   refine ⟨by omega, _, ?_, ⟨rfl, rfl, rfl, rfl, trivial⟩⟩
   have e : (redL p L).take (i1 + 1) = (redL p L).take i1 ++ [(redL p L).getD i1 z0] := by rw [List.take_add_one]; simp [show i1 < (redL p L).length by omega]
   dsimp only; rw [e]
   exact ⟨hv51, hU1.trans ((Ext.app (G := _)).upto.trans hu51)⟩
  ·replace h42 := of_decide_eq_false h42
   have e1 : As.length = i1 := by omega
   subst e1
   refine ⟨rfl, x1, rfl, ?_, ?_⟩
   ·exact hE34.trans hE1
   ·have := hW1.mono hE34.len
    rw [hAl, List.take_length] at this
    exact this


end Hf
namespace Hf
open Go Classical
variable {P : Program} {ρ : Nat → FuncId}
theorem CallOK.at0 {f : Nat} {as : List At} {H : List Blk} {v : Sv} (h : CallOK P ρ f as [] v []) (ha : as = as.map (mva (tau [] H.length))) (hv : mvs (tau [] H.length) v = v) : CallR P ρ f as H fun u G => u = v ∧ G = H :=
 (h.emb [] ha trivial rfl hv (by simp [back])).r
/-- a call that reads one block -/
theorem CallOK.at1 {f k : Nat} {as args : List At} {H : List Blk} {v : Sv} {r : Bool} {hd : List Int} {N : Nat} {g : By} (hk : H[k]? = some ⟨r, .by hd N g⟩) (h : CallOK P ρ f as [⟨true, .by hd N g⟩] v [⟨true, .by hd N g⟩]) (ha : args = as.map (mva (tau [k] H.length))) (hv : mvs (tau [k] H.length) v = v) :
  CallR P ρ f args H fun u G => u = v ∧ G = H :=
 (h.emb [k] ha ⟨⟨r, hk, fun h => by cases h⟩, trivial⟩ rfl hv (by simp [back])).r
/-! ### the rows of a matrix -/
def rw8 (g : By) (i : Nat) : By := fun x => if x < 8 then g (i * 8 + x) else 0
def rows8 (g : By) : List By := (List.range 8).map (rw8 g)
theorem rows8_at {g : By} {i : Nat} (h : i < 8) : (rows8 g).getD i z0 = rw8 g i := by simp [rows8, List.getD_eq_getElem?_getD, h]
theorem VS.ag {H : List Blk} {k : Nat} {r : Bool} {g : By} (h : H[k]? = some ⟨r, .by [] 64 g⟩) : VS H (.sl k 0 8 8) (rows8 g) := by
 refine .inr ⟨k, 0, 8, r, 64, g, by simp [rows8], h, by simp [rows8], fun i x hi hx => ?_⟩
 have hi : i < 8 := by simpa [rows8] using hi
 rw [rows8_at hi, rw8, if_pos hx, Nat.zero_add]
theorem VW.one {H : List Blk} {m : Nat} {v : By} (hm : m ≤ H.length) : VW m (H ++ [⟨false, .by [] (1 * 8) (spl (fun _ => 0) (0 * 8) 8 v)⟩]) (.sl H.length 0 1 1) [v] := by
 refine ⟨H.length, 0, 1, _, _, rfl, get_new, ⟨by omega, by simp, hm⟩, fun i x h hx => ?_⟩
 obtain rfl : i = 0 := by simpa using h
 simp [spl, hx]
theorem VS.upto {m : Nat} {H H' : List Blk} {a : At} {L : List By} (h : VS H a L) (hm : H.length ≤ m) (e : Upto m H H') : VS H' a L := h.ext fun k B hk => e k B (by have := lt_of hk; omega) hk

theorem brB_f' {b : Bool} {K : Bool → Prop} (hb : b = false) (h : K false) : brB b K := by subst hb; exact brB_f h
theorem VW.congr {m : Nat} {H : List Blk} {a : At} {L L' : List By} (h : VW m H a L) (hl : L'.length = L.length) (e : ∀ i x, i < L.length → x < 8 → (L.getD i z0) x = (L'.getD i z0) x) : VW m H a L' := by
 obtain ⟨k, off, cap, N, f, rfl, h2, h3, h4⟩ := h
 exact ⟨k, off, cap, N, f, by rw [hl], h2, by rw [hl]; exact h3, fun i x hi hx => by rw [hl] at hi; rw [h4 i x hi hx]; exact e i x hi hx⟩
/-- an entry is written -/
theorem VW.st {m : Nat} {H : List Blk} {a : At} {L : List By} (h : VW m H a L) (i : Nat) (hi : i < L.length) :
  ∃ k off len cap q c, a = .sl k off len cap ∧ i < len ∧ off + i * 8 = q ∧ H[k]? = some ⟨false, c⟩ ∧ ∀ x b, x < 8 → cput c (q + x) (.u b) = some (bput c (q + x) b) ∧
   (∀ L', L'.length = L.length → (∀ j y, j < L.length → y < 8 → (L'.getD j z0) y = if j = i ∧ y = x then b else (L.getD j z0) y) → VW m (H.set k ⟨false, bput c (q + x) b⟩) a L') ∧ Upto m H (H.set k ⟨false, bput c (q + x) b⟩) := by
 obtain ⟨k, off, cap, N, f, rfl, h2, h3, h4⟩ := h
 refine ⟨k, off, L.length, cap, off + i * 8, _, rfl, hi, rfl, h2, fun x b hx => ⟨cput_u (by simp) (by omega), fun L' hl he => ⟨k, off, cap, N, upd f (off + i * 8 + x) b, by rw [hl], set_same h2, by rw [hl]; exact h3, fun j y hj hy => ?_⟩, fun j B hj e => set_other e (by omega)⟩⟩
 rw [hl] at hj
 rw [he j y hj hy]
 unfold upd
 by_cases e : j = i ∧ y = x
 ·rw [if_pos e, if_pos (by omega)]
 ·rw [if_neg e, if_neg (by omega)]
  exact h4 j y hj hy
end Hf
namespace Hf
open Go Classical
variable {P : Program} {ρ : Nat → FuncId}
/-- an equation as a row -/
def eqR (m : Nat) (p : Int) (L : List Int) (z : Int) : By := fun x => if x = m then byt (z % p) else if x < L.length then byt (L.getD x 0 % p) else 0
theorem i_system_add_ok (B : Bs P ρ) (E : F_i_system_add P ρ) {m0 : Nat} {H : List Blk} {s m : Nat} {p n0 z : Int} {R : List By} {T L : List Int} {a : At} (hp : 1 ≤ p) (hp2 : p ≤ 256) (hm : m ≤ 100000) (hS : SY m0 H s p n0 m R T) (hA : VI H a L) (hL : L.length ≤ m) (hlt : a.lt H.length = true) (hlen : R.length ≤ 100000) (hm0 : m0 ≤ H.length) :
  CallR P ρ 286 [.pt s 0, a, .i .i64 z] H (fun u G => SY m0 G s p n0 m (R ++ [eqR m p L z]) T ∧ Upto m0 H G) := by
 obtain ⟨ra, As, pa, hs, hra, hR, hpa, hnd, hge⟩ := hS
 refine call_of_q B.fn B.mo E.1 rfl (fun hAr hHp => ?_) (by simp only [List.all_cons, List.all_nil, hlt]; simp [At.lt, lt_of hs])
 refine ⟨_, _, hs, rfl, ?_⟩
 refine ⟨((m + 1 : Nat) : Int), w64_id _ (by omega) (by omega), ?_⟩
 refine ⟨m + 1, _, ⟨rfl, by omega, by omega⟩, rfl, ?_⟩
 refine ⟨_, (hA).len, ?_⟩
 refine ⟨Unit, (fun a0 a2 a6 a15 a16 (i0 : Nat) (x0 : Unit) => [(0, a0), (2, a2), (6, a6), (15, a15), (16, a16), (17, .one (.i .i64 ((i0 : Nat) : Int)))]) _ _ _ _ _ , fun (i0 : Nat) (x0 : Unit) (G0 : List Blk) => (∃ w, G0 = H ++ [⟨false, .by [] ((m + 1) * 1) w⟩] ∧ ∀ x, x < m + 1 → w x = if x < i0 then byt (L.getD x 0 % p) else 0), L.length, ⟨(), ⟨_, rfl, fun x hx => by simp⟩, ⟨rfl, rfl, rfl, rfl, rfl, rfl, trivial⟩⟩, ?_⟩
 rintro i0 _ G0 hi0 ⟨w, rfl, hw⟩
 refine ⟨fun h18 => ?_, fun h18 => ?_⟩
 ·replace h18 := of_decide_eq_true h18
  obtain ⟨k20, o20, n20, c20, q20, ea20, hl20, hq20, r20, l20, hk20, hi20⟩ := VI.at (hA.ext Ext.app) i0 (by omega)
  refine ⟨k20, o20, n20, c20, i0, q20, ea20, rfl, hl20, hq20, ?_⟩
  refine ⟨_, _, hk20, hi20, ?_⟩
  refine .inr ⟨_, _, [_, _], app_old hs, ⟨rfl, rfl⟩, ?_⟩
  refine ⟨_, i_field_mod_ok B E.2 hp (by omega), rfl, ?_⟩
  refine ⟨_, _, _, _, i0, i0, rfl, rfl, by omega, by omega, ?_⟩
  refine ⟨_, _, _, get_new, cput_u (by simp) (by omega), eqBk_rfl, ?_⟩
  refine ⟨((i0 + 1 : Nat) : Int), w64_id _ (by omega) (by omega), ?_⟩
  refine ⟨by omega, (), ?_, ⟨rfl, rfl, rfl, rfl, rfl, rfl, trivial⟩⟩
  refine ⟨_, app_set0, fun x hx => ?_⟩
  by_cases e : x = i0
  ·subst e
   rw [upd_same, if_pos (Nat.lt_succ_self _)]
  ·rw [upd_ne _ _ _ _ e, hw x hx]
   by_cases h : x < i0
   ·rw [if_pos h, if_pos (by omega)]
   ·rw [if_neg h, if_neg (by omega)]
 ·replace h18 := of_decide_eq_false h18
  have e0 : L.length = i0 := by omega
  subst e0
  refine ⟨_, _, app_old hs, rfl, ?_⟩
  refine .inr ⟨_, _, [_, _], app_old hs, ⟨rfl, rfl⟩, ?_⟩
  refine ⟨_, i_field_mod_ok B E.2 hp (by omega), rfl, ?_⟩
  refine ⟨_, _, _, _, m, m, rfl, rfl, by omega, by omega, ?_⟩
  refine ⟨_, _, _, get_new, cput_u (by simp) (by omega), eqBk_rfl, ?_⟩
  rw [app_set0]
  have hx : RowC H.length (H ++ [⟨false, .by [] ((m + 1) * 1) (upd w m (byt (z % p)))⟩]) (m + 1) (.sl H.length 0 (m + 1) (m + 1)) (eqR m p L z) := by
   refine ⟨H.length, m + 1, _, _, rfl, get_new, by omega, fun x hx => ?_⟩
   unfold eqR
   by_cases e : x = m
   ·rw [e, upd_same, if_pos rfl]
   ·rw [upd_ne _ _ _ _ e, hw x hx, if_neg e]
  refine ⟨_, _, app_old hs, rfl, ?_⟩
  refine ⟨_, rfl, ?_⟩
  refine ⟨_, spn_app (x := .sl H.length 0 (m + 1) (m + 1)) (hra.fr (l := []) (Ext.app.trans Ext.app).fr (by simp)) ⟨false, _, get_new, by simp, rfl⟩ (by have := hR.1; omega) (by omega), ?_⟩
  rintro a51 G51 ⟨hp51, hf51, hb51, hl51⟩
  obtain ⟨hs51, hS51, hF51⟩ := sy_add hs hra hR hpa hnd hge hm0 (Ext.app.trans Ext.app) (hx.ext Ext.app) hp51 hf51 (app_hb hb51)
  refine ⟨_, _, _, hs51, cput_rw (by simp) hp51.cell, eqBk_rfl, ?_⟩
  exact ⟨rfl, hS51, hF51.upto fun k hk => hge k (by simp only [List.mem_cons] at hk; rcases hk with h | h <;> simp [OwnT, h])⟩

/-- a free place's solution -/
def nulV (p : Int) (R : List By) (x : Nat) : By := R.foldl (fun v r => upd v (fst8 r) (byt ((-(bz r x)) % p))) (bas x)
def nulP (R : List By) (x : Nat) : Bool := R.any fun r => fst8 r == x
def nulL (p : Int) (n : Nat) (R : List By) : List By := ((List.range n).filter fun x => !nulP R x).map (nulV p R)
theorem nulL_succ {p : Int} {n : Nat} {R : List By} : nulL p (n + 1) R = if nulP R n = true then nulL p n R else nulL p n R ++ [nulV p R n] := by
 unfold nulL
 rw [List.range_succ, List.filter_append, List.map_append]
 by_cases h : nulP R n = true
 ·rw [if_pos h]; simp [h]
 ·rw [if_neg h]; simp [h]
theorem nulL_len {p : Int} {R : List By} : ∀ {n : Nat}, (nulL p n R).length ≤ n
  | 0 => by simp [nulL]
  | n + 1 => by
    have := @nulL_len p R n
    rw [nulL_succ]
    split
    · omega
    · simp only [List.length_append, List.length_singleton]; omega
theorem nulV_take {p : Int} {R : List By} {x i : Nat} (h : i < R.length) : (R.take (i + 1)).foldl (fun v r => upd v (fst8 r) (byt ((-(bz r x)) % p))) (bas x) = upd ((R.take i).foldl (fun v r => upd v (fst8 r) (byt ((-(bz r x)) % p))) (bas x)) (fst8 (R.getD i z0)) (byt ((-(bz (R.getD i z0) x)) % p)) := by
 rw [List.take_add_one, List.foldl_append]
 simp [h]
theorem nulV_vp {p : Int} (hp : 2 ≤ p) (hp2 : p ≤ 256) {x : Nat} (hx : x < 8) : ∀ {R : List By} {v : By}, Vp 8 p v → (∀ r ∈ R, fst8 r < 8) → Vp 8 p (R.foldl (fun v r => upd v (fst8 r) (byt ((-(bz r x)) % p))) v)
  | [], v, hv, _ => hv
  | r :: R, v, hv, h => by
    rw [List.foldl_cons]
    refine nulV_vp hp hp2 hx ⟨fun y => ?_, fun y hy => ?_⟩ fun q hq => h q (by simp [hq])
    · by_cases e : y = fst8 r
      · rw [show bz (upd v (fst8 r) (byt ((-(bz r x)) % p))) y = (((byt ((-(bz r x)) % p)).toNat : Nat) : Int) by unfold bz; rw [e, upd_same]]
        have h1 := Int.emod_nonneg (-(bz r x)) (show p ≠ 0 by omega)
        have h2 := Int.emod_lt_of_pos (-(bz r x)) (show 0 < p by omega)
        rw [bz_byt _ (by omega) (by omega)]; exact h2
      · rw [show bz (upd v (fst8 r) (byt ((-(bz r x)) % p))) y = bz v y by unfold bz; rw [upd_ne _ _ _ _ e]]; exact hv.1 y
    · rw [upd_ne _ _ _ _ (by have := h r (by simp); omega)]; exact hv.2 y hy
theorem nulL_vp {p : Int} (hp : 2 ≤ p) (hp2 : p ≤ 256) {n : Nat} (hn : n ≤ 8) {R : List By} (h : ∀ r ∈ R, fst8 r < 8) : ∀ v ∈ nulL p n R, Vp 8 p v := by
 intro v hv
 unfold nulL at hv
 obtain ⟨x, hx, rfl⟩ := List.mem_map.1 hv
 have hx := List.mem_range.1 (List.mem_filter.1 hx).1
 refine nulV_vp hp hp2 (by omega) ⟨fun y => ?_, fun y hy => ?_⟩ h
 ·unfold bz bas; split <;> simp <;> omega
 ·unfold bas; rw [if_neg (by omega)]
theorem nulP_T {R : List By} {C : List Nat} {T : List Int} (hT : T = C.map (fun c : Nat => (c : Int))) (hC : C.length = R.length) (hf : ∀ a, a < C.length → fst8 (R.getD a z0) = C.getD a 0) (x : Nat) :
  decide (firstQ (fun j => ((x : Nat) : Int) == T.getD j 0) T.length 0 ≥ 0) = nulP R x := by
 have hTa : ∀ a, a < C.length → T.getD a 0 = ((C.getD a 0 : Nat) : Int) := by
  intro a ha
  rw [hT, List.getD_eq_getElem?_getD, List.getElem?_map, List.getElem?_eq_getElem ha, List.getD_eq_getElem?_getD, List.getElem?_eq_getElem ha]; rfl
 have hl : T.length = C.length := by rw [hT]; simp
 rw [hl]
 rcases @firstQ_or (fun j => ((x : Nat) : Int) == T.getD j 0) C.length with ⟨e, h⟩ | ⟨k, hk, e, h, -⟩
 ·rw [e]
  symm
  rw [show decide ((-1 : Int) ≥ 0) = false from rfl]
  unfold nulP
  rw [List.any_eq_false]
  intro r hr hq
  obtain ⟨a, ha, rfl⟩ := List.mem_iff_getElem.1 hr
  have h1 := h a (by omega)
  have h2 := hf a (by omega)
  rw [List.getD_eq_getElem?_getD, List.getElem?_eq_getElem ha] at h2
  simp only [Option.getD_some] at h2
  rw [hTa a (by omega), ← h2] at h1
  simp at h1 hq
  omega
 ·rw [e]
  symm
  rw [show decide ((k : Int) ≥ 0) = true from decide_eq_true (by omega)]
  unfold nulP
  rw [List.any_eq_true]
  refine ⟨R.getD k z0, getD_mem (by omega), ?_⟩
  rw [hf k hk]
  rw [hTa k hk] at h
  simp at h ⊢
  omega
theorem i_system_spaces_ok (B : Bs P ρ) (E : F_i_system_spaces P ρ) {m0 : Nat} {H : List Blk} {s m : Nat} {p n0 : Int} {R : List By} {T : List Int} {C : List Nat} (hp : Pr p) (hm : m ≤ 8) (hS : SY m0 H s p n0 m R T) (hT : T = C.map (fun c : Nat => (c : Int))) (hC : C.length = R.length) (hf : ∀ a, a < C.length → fst8 (R.getD a z0) = C.getD a 0) (hc8 : ∀ a, a < C.length → C.getD a 0 < 8) (hlen : R.length ≤ 100000) :
  CallR P ρ 288 [.pt s 0] H (fun u G => ∃ b, u = .one b ∧ Ext H G ∧ VW H.length G b (redL p (nulL p m R))) := by
 obtain ⟨ra, As, pa, hs, hra, hR, hpa, hnd, hge⟩ := hS
 have hp2 := hp.1
 have hp3 := hp.2.1
 have hAl := hR.1
 have hTl : T.length = C.length := by rw [hT]; simp
 have hTa : ∀ a, a < C.length → T.getD a 0 = ((C.getD a 0 : Nat) : Int) := by
  intro a ha
  rw [hT, List.getD_eq_getElem?_getD, List.getElem?_map, List.getElem?_eq_getElem ha, List.getD_eq_getElem?_getD, List.getElem?_eq_getElem ha]; rfl
 have hf8 : ∀ r ∈ R, fst8 r < 8 := by
  intro r hr
  obtain ⟨a, ha, rfl⟩ := List.mem_iff_getElem.1 hr
  have h2 := hf a (by omega)
  rw [List.getD_eq_getElem?_getD, List.getElem?_eq_getElem ha] at h2
  simp only [Option.getD_some] at h2
  rw [h2]; exact hc8 a (by omega)
 refine call_of_q B.fn B.mo E.1 rfl (fun hAr hHp => ?_) (by simp [At.lt, lt_of hs])
 refine ⟨_, rfl, ?_⟩
 refine ⟨_, _, app_old hs, rfl, ?_⟩
 refine ⟨At, (fun a0 a12 (i0 : Nat) (x0 : At) => [(0, a0), (3, .one x0), (12, a12), (13, .one (.i .i64 ((i0 : Nat) : Int)))]) _ _ , fun (i0 : Nat) (x0 : At) (G0 : List Blk) => (VW H.length G0 x0 (nulL p i0 R) ∧ Ext H G0), m, ⟨_, ⟨VW.nil (Nat.le_refl _), Ext.app⟩, ⟨rfl, rfl, rfl, rfl, trivial⟩⟩, ?_⟩
 rintro i0 x0 G0 hi0 ⟨hV0, hE0⟩
 have hs0 := hE0 _ _ hs
 refine ⟨fun h14 => ?_, fun h14 => ?_⟩
 ·replace h14 := of_decide_eq_true h14
  refine ⟨_, _, hs0, rfl, ?_⟩
  refine ⟨_, x_Contains_I_ok B E.2.1 (L := T) (hpa.fr (l := []) hE0.fr (by simp)).rd (hpa.fr (l := []) hE0.fr (by simp)).lt.1 (by omega), ?_⟩
  rintro _ G0 ⟨rfl, rfl⟩
  rw [nulP_T hT hC hf i0]
  refine ⟨fun h21 => ?_, fun h21 => ?_⟩
  ·skip
   have hsc := @nulL_succ p i0 R
   rw [if_pos h21] at hsc
   refine ⟨((i0 + 1 : Nat) : Int), w64_id _ (by omega) (by omega), ?_⟩
   exact ⟨by omega, _, ⟨by rw [hsc]; exact hV0, hE0⟩, ⟨rfl, rfl, rfl, rfl, trivial⟩⟩
  ·skip
   have hsc := @nulL_succ p i0 R
   rw [if_neg (by rw [h21]; simp)] at hsc
   refine ⟨_, i_basis_ok B E.2.2.1 (by omega), rfl, ?_⟩
   refine ⟨_, rfl, ?_⟩
   refine ⟨_, _, _, get_new, cputs_by (by simp) (by omega), eqBk_rfl, ?_⟩
   rw [app_set0]
   refine ⟨_, _, app_old hs0, rfl, ?_⟩
   refine ⟨_, (hpa).len, ?_⟩
   refine ⟨Unit, (fun a0 a3 a4 a5 a12 a13 a27 a28 (i1 : Nat) (x1 : Unit) => [(0, a0), (3, a3), (4, a4), (5, a5), (12, a12), (13, a13), (27, a27), (28, a28), (29, .one (.i .i64 ((i1 : Nat) : Int)))]) _ _ _ _ _ _ _ _ , fun (i1 : Nat) (x1 : Unit) (G1 : List Blk) => (∃ w, G1 = G0 ++ [⟨false, .by [] 8 w⟩] ∧ ∀ y, y < 8 → w y = ((R.take i1).foldl (fun v r => upd v (fst8 r) (byt ((-(bz r i0)) % p))) (bas i0)) y), (T.map (At.i .i64)).length, ⟨(), ⟨_, rfl, fun y hy => by simp [spl, hy]⟩, ⟨rfl, rfl, rfl, rfl, rfl, rfl, rfl, rfl, rfl, trivial⟩⟩, ?_⟩
   rintro i1 _ G1 hi1 ⟨w, rfl, hw⟩
   have hTm : (T.map (At.i .i64)).length = T.length := by simp
   refine ⟨fun h30 => ?_, fun h30 => ?_⟩
   ·replace h30 := of_decide_eq_true h30
    obtain ⟨k32, o32, n32, c32, q32, ea32, hl32, hq32, r32, l32, hk32, hi32⟩ := VI.at ((hpa.fr (l := []) (hE0.trans Ext.app).fr (by simp)).rd) i1 (by omega)
    refine ⟨k32, o32, n32, c32, i1, q32, ea32, rfl, hl32, hq32, ?_⟩
    refine ⟨_, _, hk32, hi32, ?_⟩
    refine .inr ⟨_, _, [_, _], app_old hs0, ⟨rfl, rfl⟩, ?_⟩
    refine ⟨_, _, app_old hs0, rfl, ?_⟩
    obtain ⟨k44, o44, n44, c44, q44, ea44, hl44, hq44, r44, l44, hk44, hi44⟩ := rdR_at ((hra.fr (l := []) (hE0.trans Ext.app).fr (by simp)).rd) i1 (by omega)
    refine ⟨k44, o44, n44, c44, i1, q44, ea44, rfl, hl44, hq44, ?_⟩
    refine ⟨_, _, hk44, hi44, ?_⟩
    have hrow : RowB (G0 ++ [⟨false, .by [] 8 w⟩]) (m + 1) (As.getD i1 .sn) (R.getD i1 z0) := ((hR.fr (l := []) (hE0.trans Ext.app).fr (by simp))).at i1 (by omega)
    obtain ⟨k47, o47, n47, c47, q47, ea47, hl47, hq47, r47, l47, hk47, hi47⟩ := RowB.at (hrow) i0 (by omega)
    refine ⟨k47, o47, n47, c47, i0, q47, ea47, rfl, hl47, hq47, ?_⟩
    refine ⟨_, _, hk47, hi47, ?_⟩
    have hxb := toNat_le (R.getD i1 z0 i0)
    refine ⟨_, w64_id _ (by omega) (by omega), ?_⟩
    refine ⟨_, i_field_mod_ok B E.2.2.2.1 (by omega) (by omega), rfl, ?_⟩
    refine ⟨C.getD i1 0, _, hTa i1 (by omega), hc8 i1 (by omega), rfl, ?_⟩
    refine ⟨_, _, _, get_new, cput_u (by simp) (by have := hc8 i1 (by omega); omega), eqBk_rfl, ?_⟩
    refine ⟨((i1 + 1 : Nat) : Int), w64_id _ (by omega) (by omega), ?_⟩
    refine ⟨by omega, (), ?_, ⟨rfl, rfl, rfl, rfl, rfl, rfl, rfl, rfl, rfl, trivial⟩⟩
    refine ⟨_, app_set0, fun y hy => ?_⟩
    rw [nulV_take (by omega), hf i1 (by omega), show 0 + C.getD i1 0 * 1 = C.getD i1 0 by omega]
    by_cases e : y = C.getD i1 0
    ·subst e
     rw [upd_same, upd_same]; rfl
    ·rw [upd_ne _ _ _ _ e, upd_ne _ _ _ _ e, hw y hy]
   ·replace h30 := of_decide_eq_false h30
    have e1 : (T.map (At.i .i64)).length = i1 := by omega
    subst e1
    refine ⟨_, _, _, _, nulV p R i0, get_new, ⟨by simp, by omega⟩, fun x hx => ?_, ?_⟩
    ·rw [Nat.zero_add, hw x hx, hTm, hTl, hC, List.take_length]; rfl
    refine ⟨_, rfl, ?_⟩
    refine ⟨_, vw_app ((hV0.ext Ext.app).ext Ext.app) VS.one (by have := @nulL_len p R i0; simp; omega) (by have := hE0.len; simp; omega), ?_⟩
    rintro a57 G57 ⟨hv57, hu57⟩
    refine ⟨((i0 + 1 : Nat) : Int), w64_id _ (by omega) (by omega), ?_⟩
    refine ⟨by omega, _, ?_, ⟨rfl, rfl, rfl, rfl, trivial⟩⟩
    dsimp only
    rw [hsc]
    exact ⟨hv57, Upto.ext (hE0.trans (Ext.app.trans Ext.app)) hu57 (Nat.le_refl _)⟩
 ·replace h14 := of_decide_eq_false h14
  have e0 : m = i0 := by omega
  subst e0
  refine ⟨_, _, hs0, rfl, ?_⟩
  refine ⟨_, i_reduced_ok B E.2.2.2.2 hp hV0.vs (nulL_vp (by omega) (by omega) hm hf8) (by have := @nulL_len p R m; omega), ?_⟩
  rintro _ G65 ⟨b65, rfl, hE65, hV65⟩
  exact ⟨rfl, b65, rfl, hE0.trans hE65, hV65.mono hE0.len⟩


end Hf
namespace Hf
open Go Classical
section
variable {W W' n : Nat} {p : Int}
theorem RR.up (hW : W ≤ W') {L : List By} (h : RR W p L) : RR W' p L := by
 have hf : ∀ v ∈ L, fstW W' v = fstW W v := fun v hv => fstW_w hW (h.vp v hv).2 (h.nz hv)
 refine ⟨fun v hv => (h.vp v hv).mono hW, fun r hr => ?_, ?_⟩
 ·have := h.ld r hr
  rw [hf r hr]
  exact ⟨by omega, this.2⟩
 ·refine List.Pairwise.imp_of_mem ?_ h.st
  intro a b ha hb hab
  rw [hf a ha, hf b hb]
  exact hab
theorem SpE.up (hp : 1 ≤ p) (hp2 : p ≤ 256) (hW : W ≤ W') {A B : List By} (hA : ∀ v ∈ A, Vp W p v) (hB : ∀ v ∈ B, Vp W p v) (h : SpE W p A B) : SpE W' p A B :=
 fun v => ⟨fun q => ((h v).1 (q.w1 hp hp2 hW hA)).w2 hp hp2 hW hB, fun q => ((h v).2 (q.w1 hp hp2 hW hB)).w2 hp hp2 hW hA⟩
theorem sol_redn (hp : Pr p) (hn : n ≤ 8) {L : List By} (hL : ∀ v ∈ L, Vp n p v) : ∃ C : List Nat, (solT (n + 1) p L n).2 = C.map (fun c : Nat => (c : Int)) ∧ (solT (n + 1) p L n).1.take (solT (n + 1) p L n).2.length = redL p L ∧ C.length = (redL p L).length ∧
  (∀ a, a < C.length → fst8 ((redL p L).getD a z0) = C.getD a 0) ∧ ∀ a, a < C.length → C.getD a 0 < n := by
 have h2 := hp.1
 have h3 := hp.2.1
 obtain ⟨C, hC, hs, -, -, h4, h5, h6⟩ := sol_rr (m := n) hp hL
 have hL8 : ∀ v ∈ L, Vp 8 p v := fun v hv => (hL v hv).mono hn
 obtain ⟨r1, r2⟩ := redL_rr hp hL8
 have hl : (solT (n + 1) p L n).2.length = C.length := by
  have := congrArg List.length hC
  simpa using this
 have e := (h4.up hn).unique (by omega) (by omega) r1 ((h5.up (by omega) (by omega) hn h4.vp hL).trans r2.symm)
 have hcl := hs.cl
 refine ⟨C, hC, by rw [hl]; exact e, by rw [← e]; simp; omega, fun a ha => ?_, hs.ci⟩
 have hm : (solT (n + 1) p L n).1.getD a z0 ∈ (solT (n + 1) p L n).1.take C.length := by
  rw [List.mem_take_iff_getElem]
  exact ⟨a, by omega, by simp [List.getD_eq_getElem?_getD, show a < (solT (n + 1) p L n).1.length by omega]⟩
 have e2 : (redL p L).getD a z0 = (solT (n + 1) p L n).1.getD a z0 := by
  rw [← e]; simp [List.getD_eq_getElem?_getD, List.getElem?_take_of_lt ha]
 rw [e2, fst8_W, fstW_w hn (h4.vp _ hm).2 (h4.nz hm)]
 exact h6 a ha
/-- the solutions of n unknowns' equations -/
def kerL (p : Int) (n : Nat) (E : List By) : List By := redL p (nulL p n (redL p E))
theorem kerL_rr (hp : Pr p) (hn : n ≤ 8) {E : List By} (hE : ∀ v ∈ E, Vp 8 p v) : RR 8 p (kerL p n E) :=
 (redL_rr hp (nulL_vp (by have := hp.1; omega) (by have := hp.2.1; omega) hn (redL_rr hp hE).1.fs)).1
end
theorem SY.ext {m0 : Nat} {H G : List Blk} {s m : Nat} {p n0 : Int} {R : List By} {T : List Int} (h : SY m0 H s p n0 m R T) (e : Ext H G) : SY m0 G s p n0 m R T := by
 obtain ⟨ra, As, pa, hs, hra, hR, hpa, hnd, hge⟩ := h
 exact ⟨ra, As, pa, e _ _ hs, hra.fr (l := []) e.fr (by simp), hR.fr (l := []) e.fr (by simp), hpa.fr (l := []) e.fr (by simp), hnd, hge⟩
theorem eqR_vec {m : Nat} {p : Int} {X : Nat → Int} : eqR m p ((List.range m).map X) 0 = vec m p X := by
 funext x
 unfold eqR vec
 by_cases h : x < m
 ·rw [if_neg (by omega), if_pos (by simpa using h), if_pos h]
  simp [List.getD_eq_getElem?_getD, h]
 ·rw [if_neg h]
  split
  ·rw [Int.zero_emod]; rfl
  ·rw [if_neg (by simp; omega)]
end Hf
namespace Hf
open Go Classical
section
variable {W n : Nat} {p : Int}
def dt (n : Nat) (u v : By) : Int := sm n fun i => bz u i * bz v i
theorem dt_add (hp : 1 ≤ p) (hp2 : p ≤ 256) (hn : n ≤ W) {r u w : By} {k : Int} : cg p (dt n r (addW W p u w k)) (dt n r u + k * dt n r w) := by
 refine (cg_sm (y := fun i => bz r i * bz u i + k * (bz r i * bz w i)) fun i hi => (cg_mul cg.rfl' (cg_add' hp hp2 (by omega))).trans (cg_of_eq (by grind))).trans (cg_of_eq ?_)
 rw [sm_add, sm_mul]; rfl
theorem dt_add' (hp : 1 ≤ p) (hp2 : p ≤ 256) (hn : n ≤ W) {r u w : By} {k : Int} : cg p (dt n (addW W p u w k) r) (dt n u r + k * dt n w r) := by
 refine (cg_sm (y := fun i => bz u i * bz r i + k * (bz w i * bz r i)) fun i hi => (cg_mul (cg_add' hp hp2 (by omega)) cg.rfl').trans (cg_of_eq (by grind))).trans (cg_of_eq ?_)
 rw [sm_add, sm_mul]; rfl
theorem dt_z {r : By} : dt n r z0 = 0 := sm_zero fun i _ => by rw [bz_z0, Int.mul_zero]
theorem dt_z' {r : By} : dt n z0 r = 0 := sm_zero fun i _ => by rw [bz_z0, Int.zero_mul]
/-- a solution of the equations E -/
def KerD (n : Nat) (p : Int) (E : List By) (v : By) : Prop := Vp n p v ∧ ∀ e ∈ E, cg p (dt n e v) 0
theorem KerD.sp (hp : 1 ≤ p) (hp2 : p ≤ 256) (hn : n ≤ W) {E : List By} {v : By} (h : KerD n p E v) {u : By} (hu : Sp' W p E u) : cg p (dt n u v) 0 := by
  induction hu with
  | z => rw [dt_z']; rfl
  | a h1 h2 ih =>
    refine (dt_add' hp hp2 hn).trans ((cg_add ih (cg_mul cg.rfl' (h.2 _ h2))).trans (cg_of_eq (by simp)))
theorem KerD.eq (hp : 1 ≤ p) (hp2 : p ≤ 256) (hn : n ≤ W) {E R : List By} (h : SpE W p R E) (hE : ∀ e ∈ E, Vp W p e) (hR : ∀ e ∈ R, Vp W p e) {v : By} : KerD n p E v ↔ KerD n p R v :=
 ⟨fun q => ⟨q.1, fun r hr => q.sp hp hp2 hn ((h r).1 (.mem hp hp2 hr (hR r hr)))⟩, fun q => ⟨q.1, fun r hr => q.sp hp hp2 hn ((h r).2 (.mem hp hp2 hr (hE r hr)))⟩⟩
theorem KerD.add (hp : 1 ≤ p) (hp2 : p ≤ 256) {E : List By} {u w : By} {k : Int} (hu : KerD n p E u) (hw : KerD n p E w) : KerD n p E (addW n p u w k) :=
 ⟨Vp.add hp hp2, fun e he => (dt_add hp hp2 (Nat.le_refl _)).trans ((cg_add (hu.2 e he) (cg_mul cg.rfl' (hw.2 e he))).trans (cg_of_eq (by simp)))⟩
theorem KerD.z (hp : 1 ≤ p) {E : List By} : KerD n p E z0 := ⟨Vp.z hp, fun e _ => by rw [dt_z]; rfl⟩
theorem KerD.of (hp : 1 ≤ p) (hp2 : p ≤ 256) (hn : n ≤ W) {E L : List By} (h : ∀ u ∈ L, KerD n p E u) {v : By} (hv : Sp' W p L v) : KerD n p E v := by
  induction hv with
  | z => exact .z hp
  | a h1 h2 ih => rw [addW_w hn ih.1 (h _ h2).1]; exact ih.add hp hp2 (h _ h2)

/-- what stands where in a free place's solution -/
theorem nulF_at {x : Nat} : ∀ {R : List By} {v : By}, R.Pairwise (fun a b => fst8 a ≠ fst8 b) →
    (∀ y, (∀ r ∈ R, fst8 r ≠ y) → R.foldl (fun v r => upd v (fst8 r) (byt ((-(bz r x)) % p))) v y = v y) ∧ ∀ r ∈ R, R.foldl (fun v r => upd v (fst8 r) (byt ((-(bz r x)) % p))) v (fst8 r) = byt ((-(bz r x)) % p)
  | [], v, _ => ⟨fun y _ => rfl, by simp⟩
  | r :: R, v, h => by
    obtain ⟨h1, h2⟩ := List.pairwise_cons.1 h
    obtain ⟨i1, i2⟩ := @nulF_at x R (upd v (fst8 r) (byt ((-(bz r x)) % p))) h2
    rw [List.foldl_cons]
    refine ⟨fun y hy => ?_, fun q hq => ?_⟩
    · rw [i1 y fun q hq => hy q (by simp [hq]), upd_ne _ _ _ _ (Ne.symm (hy r (by simp)))]
    · rcases List.mem_cons.1 hq with rfl | hq
      · rw [i1 _ fun s hs => Ne.symm (h1 s hs), upd_same]
      · exact i2 q hq
theorem RR.dist {R : List By} (h : RR 8 p R) : R.Pairwise (fun a b => fst8 a ≠ fst8 b) := h.st.imp fun h => by have := h.1; rw [fst8_W, fst8_W]; omega
theorem nulP_f {R : List By} {x : Nat} : nulP R x = false ↔ ∀ r ∈ R, fst8 r ≠ x := by
 unfold nulP
 rw [List.any_eq_false]
 simp
theorem mem_nulL {R : List By} {v : By} : v ∈ nulL p n R ↔ ∃ x, x < n ∧ (∀ r ∈ R, fst8 r ≠ x) ∧ v = nulV p R x := by
 unfold nulL
 rw [List.mem_map]
 constructor
 ·rintro ⟨x, hx, rfl⟩
  obtain ⟨h1, h2⟩ := List.mem_filter.1 hx
  exact ⟨x, List.mem_range.1 h1, nulP_f.1 (by simpa using h2), rfl⟩
 ·rintro ⟨x, h1, h2, rfl⟩
  exact ⟨x, List.mem_filter.2 ⟨List.mem_range.2 h1, by simpa using nulP_f.2 h2⟩, rfl⟩
theorem byt_neg (hp : 2 ≤ p) (hp2 : p ≤ 256) {z : Int} : (((byt ((-z) % p)).toNat : Nat) : Int) = (-z) % p := by
 have h1 := Int.emod_nonneg (-z) (show p ≠ 0 by omega)
 have h2 := Int.emod_lt_of_pos (-z) (show 0 < p by omega)
 exact bz_byt _ (by omega) (by omega)

theorem nulV_ker (hp : 2 ≤ p) (hp2 : p ≤ 256) (hn : n ≤ 8) {R : List By} (hR : RR 8 p R) (hRn : ∀ r ∈ R, Vp n p r) {x : Nat} (hx : x < n) (hf : ∀ r ∈ R, fst8 r ≠ x) : KerD n p R (nulV p R x) := by
 have hd := hR.dist
 have hfn : ∀ r ∈ R, fst8 r < n := by
  intro r hr
  rcases Nat.lt_or_ge (fst8 r) n with h | h
  ·exact h
  ·have h1 := (hRn r hr).2 _ h
   have h2 := (hR.ld r hr).2
   rw [← fst8_W, h1] at h2
   cases h2
 obtain ⟨a1, a2⟩ := @nulF_at p x R (bas x) hd
 have hvp : Vp 8 p (nulV p R x) := nulV_vp hp hp2 (by omega) ⟨fun y => by unfold bz bas; split <;> simp <;> omega, fun y hy => by unfold bas; rw [if_neg (by omega)]⟩ hR.fs
 refine ⟨⟨hvp.1, fun y hy => ?_⟩, fun r hr => ?_⟩
 ·show R.foldl _ (bas x) y = 0
  rw [a1 y fun r hr => by have := hfn r hr; omega]
  unfold bas; rw [if_neg (by omega)]
 ·have key : dt n r (nulV p R x) = sm n (fun y => bz (bas x) y * bz r x + bz (bas (fst8 r)) y * ((-(bz r x)) % p)) := by
   refine sm_congr fun y hy => ?_
   by_cases h1 : y = x
   ·subst h1
    have e1 : nulV p R y y = 1 := by
     show R.foldl _ (bas y) y = 1
     rw [a1 y hf]; unfold bas; rw [if_pos rfl]
    have e2 : bas (fst8 r) y = 0 := by unfold bas; rw [if_neg (Ne.symm (hf r hr))]
    have e3 : bas y y = 1 := by unfold bas; rw [if_pos rfl]
    rw [one_bz e1, bz_eq0.2 e2, one_bz e3]; simp
   ·have e3 : bz (bas x) y = 0 := bz_eq0.2 (by unfold bas; rw [if_neg h1])
    rw [e3, Int.zero_mul, Int.zero_add]
    by_cases h2 : y = fst8 r
    ·subst h2
     have e1 : bz (nulV p R x) (fst8 r) = (-(bz r x)) % p := by
      unfold bz
      rw [show nulV p R x (fst8 r) = byt ((-(bz r x)) % p) from a2 r hr]
      exact byt_neg hp hp2
     have e4 : bz r (fst8 r) = 1 := one_bz (hR.ld r hr).2
     have e5 : bz (bas (fst8 r)) (fst8 r) = 1 := one_bz (by unfold bas; rw [if_pos rfl])
     rw [e1, e4, e5]
    ·have e5 : bz (bas (fst8 r)) y = 0 := bz_eq0.2 (by unfold bas; rw [if_neg h2])
     rw [e5, Int.zero_mul]
     by_cases h3 : ∃ s ∈ R, fst8 s = y
     ·obtain ⟨s, hs, rfl⟩ := h3
      have hne : s ≠ r := fun e => h2 (by rw [e])
      have := (hR.ne hs hr (Ne.symm hne)).1
      rw [bz_eq0.2 (by rw [fst8_W]; exact this), Int.zero_mul]
     ·have e1 : nulV p R x y = 0 := by
       show R.foldl _ (bas x) y = 0
       rw [a1 y fun s hs e => h3 ⟨s, hs, e⟩]; unfold bas; rw [if_neg h1]
      rw [bz_eq0.2 e1, Int.mul_zero]
  rw [key, sm_add, sm_bas hx, sm_bas (hfn r hr)]
  exact (cg_add cg.rfl' cg_mod).trans (cg_of_eq (by omega))

theorem ker_nul (hp : 2 ≤ p) (hp2 : p ≤ 256) (hn : n ≤ 8) {R : List By} (hR : RR 8 p R) (hRn : ∀ r ∈ R, Vp n p r) {v : By} (hv : KerD n p R v) : Sp' 8 p (nulL p n R) v := by
 have hd := hR.dist
 have hfn : ∀ r ∈ R, fst8 r < n := by
  intro r hr
  rcases Nat.lt_or_ge (fst8 r) n with h | h
  ·exact h
  ·have h1 := (hRn r hr).2 _ h
   have h2 := (hR.ld r hr).2
   rw [← fst8_W, h1] at h2
   cases h2
 have hv8 : Vp 8 p v := hv.1.mono hn
 have main : ∀ i, i ≤ n → ∃ s, Sp' 8 p (nulL p n R) s ∧ ∀ x, x < n → (∀ r ∈ R, fst8 r ≠ x) → bz (addW 8 p v s (-1)) x = if x < i then 0 else bz v x := by
  intro i
  induction i with
  | zero =>
   intro _
   refine ⟨z0, .z, fun x hx _ => ?_⟩
   rw [if_neg (by omega), add_z (by omega) hp2 hv8]
  | succ i ih =>
   intro hi
   obtain ⟨s, hs, hsx⟩ := ih (by omega)
   by_cases hfree : ∀ r ∈ R, fst8 r ≠ i
   ·refine ⟨addW 8 p s (nulV p R i) (bz v i), hs.add (by omega) hp2 (.mem (by omega) hp2 (mem_nulL.2 ⟨i, by omega, hfree, rfl⟩) ((nulV_ker hp hp2 hn hR hRn (by omega) hfree).1.mono hn)), fun x hx hxf => ?_⟩
    have hsx := hsx x hx hxf
    have hx8 : x < 8 := by omega
    have e1 : nulV p R i x = bas i x := by
     show R.foldl _ (bas i) x = _
     rw [(@nulF_at p i R (bas i) hd).1 x hxf]
    have e0 : cg p (bz (addW 8 p v (addW 8 p s (nulV p R i) (bz v i)) (-1)) x) (bz (addW 8 p v s (-1)) x + (-(bz v i)) * bz (nulV p R i) x) := by
     refine (cg_add' (by omega) hp2 hx8).trans ((cg_add cg.rfl' (cg_mul cg.rfl' (cg_add' (by omega) hp2 hx8))).trans ?_)
     refine cg.trans (cg_of_eq ?_) (cg_add (cg_add' (by omega) hp2 hx8).symm cg.rfl')
     grind
    have b1 := (Vp.add (W := 8) (v := v) (w := addW 8 p s (nulV p R i) (bz v i)) (k := -1) (by omega) hp2).1 x
    have b0 : 0 ≤ bz (addW 8 p v (addW 8 p s (nulV p R i) (bz v i)) (-1)) x := by unfold bz; omega
    rw [hsx] at e0
    have bv : 0 ≤ bz v x ∧ bz v x < p := ⟨by unfold bz; omega, hv.1.1 x⟩
    unfold cg at e0
    rw [Int.emod_eq_of_lt b0 b1] at e0
    rw [e0]
    by_cases hxi : x = i
    ·subst hxi
     rw [if_neg (by omega), if_pos (by omega), show bz (nulV p R x) x = 1 from one_bz (by rw [e1]; unfold bas; rw [if_pos rfl]), Int.mul_one, Int.add_right_neg]
     exact Int.zero_emod p
    ·rw [show bz (nulV p R i) x = 0 from bz_eq0.2 (by rw [e1]; unfold bas; rw [if_neg hxi]), Int.mul_zero, Int.add_zero]
     by_cases hlt : x < i
     ·rw [if_pos hlt, if_pos (by omega)]; exact Int.zero_emod p
     ·rw [if_neg hlt, if_neg (by omega)]; exact Int.emod_eq_of_lt bv.1 bv.2
   ·refine ⟨s, hs, fun x hx hxf => ?_⟩
    rw [hsx x hx hxf]
    have hxi : x ≠ i := fun e => hfree (e ▸ hxf)
    by_cases hlt : x < i
    ·rw [if_pos hlt, if_pos (by omega)]
    ·rw [if_neg hlt, if_neg (by omega)]
 obtain ⟨s, hs, hsx⟩ := main n (Nat.le_refl _)
 have hsk : KerD n p R s := KerD.of (by omega) hp2 hn (fun u hu => by obtain ⟨x, h1, h2, rfl⟩ := mem_nulL.1 hu; exact nulV_ker hp hp2 hn hR hRn h1 h2) hs
 have hu : KerD n p R (addW n p v s (-1)) := hv.add (by omega) hp2 hsk
 have e8 : addW 8 p v s (-1) = addW n p v s (-1) := addW_w hn hv.1 hsk.1
 rw [← e8] at hu
 generalize hU : addW 8 p v s (-1) = u at hsx hu
 have hu0 : u = z0 := by
  funext y
  rcases Nat.lt_or_ge y n with hy | hy
  ·by_cases hyf : ∀ r ∈ R, fst8 r ≠ y
   ·have := hsx y hy hyf
    rw [if_pos hy] at this
    exact bz_eq0.1 this
   ·obtain ⟨r, hr, rfl⟩ : ∃ r ∈ R, fst8 r = y := by
     apply Classical.byContradiction
     intro hc
     exact hyf fun r hr e => hc ⟨r, hr, e⟩
    have h1 := hu.2 r hr
    have e : dt n r u = sm n fun y => bz (bas (fst8 r)) y * bz u (fst8 r) := by
     refine sm_congr fun y hy' => ?_
     by_cases h2 : y = fst8 r
     ·subst h2
      rw [show bz r (fst8 r) = 1 from one_bz (hR.ld r hr).2, one_bz (show bas (fst8 r) (fst8 r) = 1 by unfold bas; rw [if_pos rfl])]
     ·rw [bz_eq0.2 (show bas (fst8 r) y = 0 by unfold bas; rw [if_neg h2]), Int.zero_mul]
      by_cases h3 : ∃ s ∈ R, fst8 s = y
      ·obtain ⟨s', hs', rfl⟩ := h3
       have hne : s' ≠ r := fun e => h2 (by rw [e])
       rw [bz_eq0.2 (by rw [fst8_W]; exact (hR.ne hs' hr (Ne.symm hne)).1), Int.zero_mul]
      ·have := hsx y hy' fun s' hs' e => h3 ⟨s', hs', e⟩
       rw [if_pos hy'] at this
       rw [this, Int.mul_zero]
    rw [e, sm_bas hy] at h1
    have b1 := hu.1.1 (fst8 r)
    have b0 : 0 ≤ bz u (fst8 r) := by unfold bz; omega
    unfold cg at h1
    rw [Int.emod_eq_of_lt b0 b1, Int.zero_emod] at h1
    exact bz_eq0.1 h1
  ·exact hu.1.2 y hy
 rw [hu0] at hU
 rw [sub_z (by omega) hp2 hv8 (hs.vp (by omega) hp2) hU]
 exact hs
/-- the solutions that the program and the reference find -/
theorem kerL_iff (hp : Pr p) (hn : n ≤ 8) {E : List By} (hE : ∀ e ∈ E, Vp n p e) {v : By} : Sp' 8 p (kerL p n E) v ↔ KerD n p E v := by
 have h2 := hp.1
 have h3 := hp.2.1
 have hE8 : ∀ e ∈ E, Vp 8 p e := fun e he => (hE e he).mono hn
 obtain ⟨r1, r2⟩ := redL_rr hp hE8
 have hRn : ∀ r ∈ redL p E, Vp n p r := fun r hr => (((r2 r).1 (.mem (by omega) (by omega) hr (r1.vp r hr))).w1 (by omega) (by omega) hn hE).vp (by omega) (by omega)
 obtain ⟨-, k2⟩ := redL_rr hp (nulL_vp h2 (by omega) hn r1.fs)
 rw [KerD.eq (W := 8) (by omega) (by omega) hn r2 hE8 r1.vp]
 refine (k2 v).trans ⟨fun h => KerD.of (by omega) (by omega) hn (fun u hu => ?_) h, fun h => ker_nul h2 (by omega) hn r1 hRn h⟩
 obtain ⟨x, h1, h2', rfl⟩ := mem_nulL.1 hu
 exact nulV_ker h2 (by omega) hn r1 hRn h1 h2'
end
end Hf
namespace Hf
open Go Classical
variable {P : Program} {ρ : Nat → FuncId}
theorem x_Clone_V_ok (B : Bs P ρ) (E : F_x_Clone_V P ρ) {H : List Blk} {k off n cap : Nat} {L : List By} (hA : VS H (.sl k off n cap) L) (hlen : L.length ≤ 1000000) :
  CallR P ρ 285 [.sl k off n cap] H (fun u G => ∃ b, u = .one b ∧ VW H.length G b L ∧ Ext H G) := by
 refine call_of_q B.fn B.mo E rfl (fun hAr hHp => ?_) (by simp only [List.all_cons, List.all_nil, hA.lt]; rfl)
 refine brB_f ?_
 refine ⟨_, rfl, ?_⟩
 refine ⟨_, vw_app (VW.nil (Nat.le_refl _)) (hA.ext Ext.app) (by simp; omega) (by simp), ?_⟩
 rintro a7 G7 ⟨hv7, hu7⟩
 refine ⟨rfl, a7, rfl, by simpa using hv7, Upto.ext Ext.app hu7 (Nat.le_refl _)⟩

theorem i_legs_ok (B : Bs P ρ) (E : F_i_legs P ρ) {H : List Blk} {g : By} :
  CallR P ρ 260 [.ag [] 64 g] H (fun u G => ∃ b, u = .one b ∧ VW H.length G b (rows8 g ++ rows8 (trT g)) ∧ Ext H G) := by
 refine call_of_q B.fn B.mo E.1 rfl (fun hAr hHp => ?_) rfl
 refine ⟨H.length, rfl, ?_⟩
 refine ⟨_, CallOK.at1 get_new (i_transposed_ok B E.2.1 (F := g)) rfl rfl, ?_⟩
 rintro _ _ ⟨rfl, rfl⟩
 refine ⟨_, rfl, ?_⟩
 refine ⟨_, _, _, get_new, cputs_by (by simp) (by omega), eqBk_rfl, ?_⟩
 rw [app_set0]
 refine ⟨0, 8, rfl, rfl, ⟨by omega, by omega, by omega⟩, ?_⟩
 refine ⟨0, 8, rfl, rfl, ⟨by omega, by omega, by omega⟩, ?_⟩
 refine ⟨_, x_Clone_V_ok B E.2.2 (L := rows8 g) (VS.ag (app_old get_new)) (by simp [rows8]), ?_⟩
 rintro _ G6 ⟨b6, rfl, hV6, hE6⟩
 have hV1 : VS (H ++ [⟨false, .by [] 64 g⟩] ++ [⟨false, .by [] 64 (spl (fun _ => 0) 0 64 (trT g))⟩]) (.sl (H ++ [(⟨false, .by [] 64 g⟩ : Blk)]).length 0 8 8) (rows8 (trT g)) := by
  have := VS.ag (H := H ++ [⟨false, .by [] 64 g⟩] ++ [⟨false, .by [] 64 (spl (fun _ => 0) 0 64 (trT g))⟩]) get_new
  have e : rows8 (spl (fun _ => 0) 0 64 (trT g)) = rows8 (trT g) := List.map_congr_left fun i hi => by
   funext x
   have := List.mem_range.1 hi
   simp only [rw8]
   split
   ·simp [spl]; omega
   ·rfl
  rwa [e] at this
 refine ⟨_, vw_app hV6 (hV1.ext hE6) (by simp [rows8]) hE6.len, ?_⟩
 rintro a8 G8 ⟨hv8, hu8⟩
 exact ⟨rfl, a8, rfl, hv8.mono (by simp), Upto.ext (Ext.app.trans (Ext.app.trans hE6)) (fun k B hk e => hu8 k B (by simp; omega) e) (Nat.le_refl _)⟩

-- left out: i_Hopf_span
theorem oc_0 {q : Prop} (h : oc q 1 = 0) : q := by
 apply Classical.byContradiction
 intro hq
 rw [oc_f hq] at h
 cases h
end Hf
namespace Hf
open Go Classical
section
variable {p : Int}
variable {W : Nat}
theorem SpE.one (hp : 1 ≤ p) (hp2 : p ≤ 256) {A B : List By} {u w : By} {k l : Int} (hAB : SpE W p A B) (hA : ∀ a ∈ A, Vp W p a) (hB : ∀ a ∈ B, Vp W p a) (hu : Vp W p u) (hw : Vp W p w) {s s' : By} (hs : Sp' W p A s) (hs' : Sp' W p A s') (h1 : w = addW W p s u k) (h2 : u = addW W p s' w l) :
  SpE W p (A ++ [w]) (B ++ [u]) := by
 have subA : ∀ {C : List By} {v : By}, Sp' W p A v → Sp' W p (A ++ C) v := fun h => h.sub hp hp2 fun r hr => .mem hp hp2 (List.mem_append_left _ hr) (hA r hr)
 have subB : ∀ {C : List By} {v : By}, Sp' W p B v → Sp' W p (B ++ C) v := fun h => h.sub hp hp2 fun r hr => .mem hp hp2 (List.mem_append_left _ hr) (hB r hr)
 refine SpE.of hp hp2 (fun r hr => ?_) (fun r hr => ?_)
 ·rcases List.mem_append.1 hr with h | h
  ·exact subB ((hAB r).1 (.mem hp hp2 h (hA r h)))
  ·rw [List.mem_singleton.1 h, h1]
   exact (subB ((hAB s).1 hs)).add hp hp2 (.mem hp hp2 (by simp) hu)
 ·rcases List.mem_append.1 hr with h | h
  ·exact subA ((hAB r).2 (.mem hp hp2 h (hB r h)))
  ·rw [List.mem_singleton.1 h, h2]
   exact (subA hs').add hp hp2 (.mem hp hp2 (by simp) hw)
theorem Sp'.congr {A B : List By} (h : ∀ r, r ∈ A ↔ r ∈ B) : SpE W p A B := by
  have one : ∀ {A B : List By}, (∀ r, r ∈ A → r ∈ B) → ∀ v, Sp' W p A v → Sp' W p B v := by
    intro A B h v hv
    induction hv with
    | z => exact .z
    | a h1 h2 ih => exact .a ih (h _ h2)
  exact fun v => ⟨one (fun r => (h r).1) v, one (fun r => (h r).2) v⟩

end
end Hf
namespace Hf
open Go Classical
variable {P : Program} {ρ : Nat → FuncId}
def eqnL (p : Int) (n m : Nat) (co : Nat → Nat → Int) : List By := (List.range m).map fun i => vec n p (co i)
theorem eqnL_succ {p : Int} {n m : Nat} {co : Nat → Nat → Int} : eqnL p n (m + 1) co = eqnL p n m co ++ [vec n p (co m)] := by unfold eqnL; rw [List.range_succ, List.map_append]; rfl
theorem eqnL_vp {p : Int} {n m : Nat} {co : Nat → Nat → Int} (hp : 1 ≤ p) (hp2 : p ≤ 256) : ∀ v ∈ eqnL p n m co, Vp n p v := by
 intro v hv
 obtain ⟨i, -, rfl⟩ := List.mem_map.1 hv
 exact ⟨fun x => bz_vec_lt hp hp2, fun x hx => vec_out hx⟩
theorem i_kernel_ok (B : Bs P ρ) (E : F_i_kernel P ρ) {H : List Blk} {p : Int} {n m g : Nat} {caps : List (Nat × Nat)} {co : Nat → Nat → Int} {q : By} (hp : Pr p) (hn : n ≤ 8) (hm : m ≤ 100000) (hcaps : (At.fn g [] caps).lt H.length = true) (hco : ∀ G i j, Ext H G → i < m → j < n → CallR P ρ g ([.i .i64 (i : Int), .i .i64 (j : Int)] ++ caps.map (fun p => .pt p.1 p.2)) G fun u G' => u = .one (.i .i64 (co i j)) ∧ G' = G) :
  CallR P ρ 265 [.ag [p, (n : Int)] 2 q, .i .i64 (m : Int), .fn g [] caps] H (fun u G => ∃ b, u = .one b ∧ Ext H G ∧ VW H.length G b (kerL p n (eqnL p n m co))) := by
 have hp2 := hp.1
 have hp3 := hp.2.1
 refine call_of_q B.fn B.mo E.1 rfl (fun hAr hHp => ?_) (by simp only [List.all_cons, List.all_nil, hcaps]; rfl)
 refine ⟨_, rfl, ?_⟩
 refine ⟨_, _, get_new, rfl, ?_⟩
 refine ⟨_, _, get_new, rfl, ?_⟩
 refine ⟨_, i_newSystem_ok B E.2.1 , ?_⟩
 rintro _ _ ⟨rfl, rfl⟩
 have hl1 : (H ++ [(⟨false, .by [p, (n : Int)] 2 q⟩ : Blk)]).length = H.length + 1 := by simp
 rw [hl1]
 refine ⟨Unit, (fun a2 a3 a16 (i0 : Nat) (x0 : Unit) => [(2, a2), (3, a3), (7, .one (.pt (H.length + 1) 0)), (16, a16), (17, .one (.i .i64 ((i0 : Nat) : Int)))]) _ _ _ , fun (i0 : Nat) (x0 : Unit) (G0 : List Blk) => (SY (H.length + 1) G0 (H.length + 1) p 0 n (eqnL p n i0 co) [] ∧ Upto (H.length + 1) (H ++ [⟨false, .by [p, (n : Int)] 2 q⟩]) G0), m, ⟨(), ?_, ⟨rfl, rfl, rfl, rfl, rfl, trivial⟩⟩, ?_⟩
 ·refine ⟨⟨.sn, [], .sn, (by rw [← hl1]; exact get_new), .inl ⟨rfl, rfl⟩, ⟨rfl, fun i h => by simp at h⟩, .inl ⟨rfl, rfl⟩, by simp [OwnT, spB], by simp [OwnT, spB]⟩, Ext.app.upto⟩
 rintro i0 _ G0 hi0 ⟨hS0, hU0⟩
 have hb0 := hU0 H.length _ (by omega) get_new
 have hE0 : Ext H G0 := Upto.ext Ext.app hU0 (by omega)
 have hsl := hS0.len
 refine ⟨fun h18 => ?_, fun h18 => ?_⟩
 ·replace h18 := of_decide_eq_true h18
  refine ⟨_, _, hb0, rfl, ?_⟩
  refine ⟨n, _, ⟨rfl, by omega, by omega⟩, rfl, ?_⟩
  refine ⟨n, rfl, ?_⟩
  refine ⟨Unit, (fun a2 a3 a7 a8 a9 a16 a17 a24 (i1 : Nat) (x1 : Unit) => [(2, a2), (3, a3), (7, a7), (8, a8), (9, a9), (16, a16), (17, a17), (24, a24), (25, .one (.i .i64 ((i1 : Nat) : Int)))]) _ _ _ _ _ _ _ _ , fun (i1 : Nat) (x1 : Unit) (G1 : List Blk) => (∃ l, G1 = G0 ++ [⟨false, .rw l⟩] ∧ l.length = n ∧ ∀ j, j < i1 → l[j]? = some (.i .i64 (co i0 j))), n, ⟨(), ⟨_, rfl, by simp, fun j hj => by omega⟩, ⟨rfl, rfl, rfl, rfl, rfl, rfl, rfl, rfl, rfl, trivial⟩⟩, ?_⟩
  rintro i1 _ G1 hi1 ⟨l, rfl, hl, hj⟩
  refine ⟨fun h26 => ?_, fun h26 => ?_⟩
  ·replace h26 := of_decide_eq_true h26
   refine ⟨_, hco _ i0 i1 (hE0.trans Ext.app) (by omega) (by omega), ?_⟩
   rintro _ _ ⟨rfl, rfl⟩
   refine ⟨_, _, _, _, i1, i1, rfl, rfl, by omega, by omega, ?_⟩
   refine ⟨_, _, _, get_new, cput_rw (by omega) rfl, eqBk_rfl, ?_⟩
   refine ⟨((i1 + 1 : Nat) : Int), w64_id _ (by omega) (by omega), ?_⟩
   refine ⟨by omega, (), ?_, ⟨rfl, rfl, rfl, rfl, rfl, rfl, rfl, rfl, rfl, trivial⟩⟩
   refine ⟨_, app_set0, by simpa using hl, fun j hj2 => ?_⟩
   by_cases e : j = i1
   ·subst e; rw [List.getElem?_set_self (by omega)]
   ·rw [List.getElem?_set_ne (Ne.symm e)]; exact hj j (by omega)
  ·replace h26 := of_decide_eq_false h26
   have e1 : n = i1 := by omega
   subst e1
   have hVI : VI (G0 ++ [⟨false, .rw l⟩]) (.sl G0.length 0 n n) ((List.range n).map (co i0)) := by
    refine ⟨false, l, get_new, by omega, ?_⟩
    apply List.ext_getElem?
    intro j
    by_cases h : j < n
    ·rw [List.getElem?_take_of_lt h, List.drop_zero, hj j h]
     simp [h]
    ·rw [List.getElem?_eq_none (by simp; omega), List.getElem?_eq_none (by simp; omega)]
   refine ⟨_, i_system_add_ok B E.2.2.1 (p := p) (n0 := 0) (by omega) (by omega) (by omega) (hS0.ext Ext.app) hVI (by simp) (by simp [At.lt]) (by simp [eqnL]; omega) (by simp; omega), ?_⟩
   rintro _ G38 ⟨hS38, hU38⟩
   refine ⟨((i0 + 1 : Nat) : Int), w64_id _ (by omega) (by omega), ?_⟩
   refine ⟨by omega, (), ?_, ⟨rfl, rfl, rfl, rfl, rfl, trivial⟩⟩
   dsimp only
   rw [eqR_vec] at hS38
   rw [eqnL_succ]
   exact ⟨hS38, hU0.trans (Ext.app.upto.trans hU38)⟩
 ·replace h18 := of_decide_eq_false h18
  have e0 : m = i0 := by omega
  subst e0
  refine ⟨_, i_system_solve_ok B E.2.2.2.1 (p := p) (n0 := 0) (by omega) (by omega) (by omega) hS0 (by simp [eqnL]; omega) (by omega), ?_⟩
  rintro _ G41 ⟨rfl, hS41, hU41⟩
  obtain ⟨C, h1, h2, h3, h4, h5⟩ := sol_redn (n := n) hp hn (eqnL_vp (p := p) (n := n) (m := m) (co := co) (by omega) (by omega))
  rw [h2] at hS41
  have hrl := (redL_rr hp fun v hv => (eqnL_vp (p := p) (n := n) (m := m) (co := co) (by omega) (by omega) v hv).mono hn).1.len
  refine ⟨_, i_system_spaces_ok B E.2.2.2.2 hp hn hS41 h1 h3 h4 (fun a ha => by have := h5 a ha; omega) (by omega), ?_⟩
  rintro _ G43 ⟨b43, rfl, hE43, hV43⟩
  have hE41 : Ext H G41 := Upto.ext Ext.app (hU0.trans hU41) (by omega)
  exact ⟨rfl, b43, rfl, hE41.trans hE43, hV43.mono hE41.len⟩


end Hf
namespace Hf
open Go Classical
section
variable {p : Int} {W n : Nat}
/-- a combination -/
def cmF (n : Nat) (p : Int) (a : Nat → By) (x : By) : By := vec 8 p fun y => sm n fun i => bz x i * bz (a i) y
theorem cmF_vp (hp : 1 ≤ p) (hp2 : p ≤ 256) {a : Nat → By} {x : By} : Vp 8 p (cmF n p a x) := ⟨fun x => bz_vec_lt hp hp2, fun x hx => vec_out hx⟩
theorem cmF_0 {a : Nat → By} {x : By} : cmF 0 p a x = z0 := vec_zero fun y _ => rfl
theorem cmF_succ (hp : 1 ≤ p) (hp2 : p ≤ 256) {a : Nat → By} {x : By} : cmF (n + 1) p a x = addW 8 p (cmF n p a x) (a n) (bz x n) :=
 (cmF_vp hp hp2).ext (Vp.add hp hp2) fun y hy => (cg_vec hp hp2 hy).trans (cg.symm ((cg_add' hp hp2 hy).trans (cg_add (cg_vec hp hp2 hy) cg.rfl')))
theorem cmF_add (hp : 1 ≤ p) (hp2 : p ≤ 256) (hn : n ≤ W) {a : Nat → By} {u w : By} {k : Int} : cmF n p a (addW W p u w k) = addW 8 p (cmF n p a u) (cmF n p a w) k := by
 refine (cmF_vp hp hp2).ext (Vp.add hp hp2) fun y hy => ?_
 refine (cg_vec hp hp2 hy).trans (cg.symm ((cg_add' hp hp2 hy).trans ((cg_add (cg_vec hp hp2 hy) (cg_mul cg.rfl' (cg_vec hp hp2 hy))).trans (cg.symm ?_))))
 rw [← sm_mul, ← sm_add]
 exact cg_sm fun i hi => (cg_mul (cg_add' hp hp2 (by omega)) cg.rfl').trans (cg_of_eq (by grind))
theorem cmF_z {a : Nat → By} : cmF n p a z0 = z0 := vec_zero fun y _ => sm_zero fun i _ => by rw [bz_z0, Int.zero_mul]
end
end Hf
namespace Hf
open Go Classical
def zqS (p : Int) : Setoid Int := ⟨cg p, ⟨fun _ => rfl, fun h => Eq.symm h, fun h h' => Eq.trans h h'⟩⟩
def Zq (p : Int) : Type := Quotient (zqS p)
section
variable {p : Int} {n m : Nat}
def zc (a : Int) : Zq p := Quotient.mk (zqS p) a
theorem zc_eq {a b : Int} : (zc a : Zq p) = zc b ↔ cg p a b := ⟨fun h => Quotient.exact h, fun h => Quotient.sound h⟩
def zadd (a b : Zq p) : Zq p := Quotient.lift₂ (fun a b => zc (a + b)) (fun _ _ _ _ h h' => zc_eq.2 (cg_add h h')) a b
def zmul (a b : Zq p) : Zq p := Quotient.lift₂ (fun a b => zc (a * b)) (fun _ _ _ _ h h' => zc_eq.2 (cg_mul h h')) a b
instance : Add (Zq p) := ⟨zadd⟩
instance : Mul (Zq p) := ⟨zmul⟩
theorem zc_add {a b : Int} : (zc (a + b) : Zq p) = zc a + zc b := rfl
theorem zc_mul {a b : Int} : (zc (a * b) : Zq p) = zc a * zc b := rfl
theorem zi {q : Zq p → Prop} (h : ∀ a : Int, q (zc a)) (x : Zq p) : q x := Quotient.ind h x
theorem z_ac (a b : Zq p) : a + b = b + a := by
 induction a using zi with | _ a => induction b using zi with | _ b => rw [← zc_add, ← zc_add, Int.add_comm]
theorem z_aa (a b c : Zq p) : a + b + c = a + (b + c) := by
 induction a using zi with | _ a => induction b using zi with | _ b => induction c using zi with | _ c => simp only [← zc_add]; rw [Int.add_assoc]
theorem z_mc (a b : Zq p) : a * b = b * a := by
 induction a using zi with | _ a => induction b using zi with | _ b => rw [← zc_mul, ← zc_mul, Int.mul_comm]
theorem z_ma (a b c : Zq p) : a * b * c = a * (b * c) := by
 induction a using zi with | _ a => induction b using zi with | _ b => induction c using zi with | _ c => simp only [← zc_mul]; rw [Int.mul_assoc]
theorem z_md (a b c : Zq p) : a * (b + c) = a * b + a * c := by
 induction a using zi with | _ a => induction b using zi with | _ b => induction c using zi with | _ c => simp only [← zc_mul, ← zc_add]; rw [Int.mul_add]
theorem z_m0 (a : Zq p) : a * zc 0 = zc 0 := by
 induction a using zi with | _ a => rw [← zc_mul, Int.mul_zero]
theorem z_a0 (a : Zq p) : a + zc 0 = a := by
 induction a using zi with | _ a => rw [← zc_add, Int.add_zero]
theorem z_0a (a : Zq p) : zc 0 + a = a := by rw [z_ac, z_a0]
theorem z_1m (a : Zq p) : zc 1 * a = a := by
 induction a using zi with | _ a => rw [← zc_mul, Int.one_mul]
theorem z_0m (a : Zq p) : zc 0 * a = zc 0 := by rw [z_mc, z_m0]
theorem z_ml (a b c : Zq p) : a * (b * c) = b * (a * c) := by rw [← z_ma, z_mc a b, z_ma]
/-- a sum over n places -/
def sf : {n : Nat} → (Fin n → Zq p) → Zq p
  | 0, _ => zc 0
  | n + 1, F => sf (fun i : Fin n => F i.castSucc) + F (Fin.last n)
theorem sf_sm {x : Nat → Int} : ∀ {n : Nat}, (zc (sm n x) : Zq p) = sf fun i : Fin n => zc (x i.val)
  | 0 => rfl
  | n + 1 => by rw [sm, zc_add, sf_sm]; rfl
theorem sf_0 : ∀ {n : Nat}, (sf fun _ : Fin n => (zc 0 : Zq p)) = zc 0
  | 0 => rfl
  | n + 1 => by rw [sf, sf_0, z_a0]
theorem sf_add : ∀ {n : Nat} {F G : Fin n → Zq p}, sf (fun i => F i + G i) = sf F + sf G
  | 0, _, _ => (z_a0 _).symm
  | n + 1, F, G => by
    simp only [sf]
    rw [sf_add]
    rw [z_aa, z_aa, ← z_aa (sf fun i => G i.castSucc), z_ac (sf fun i => G i.castSucc), z_aa]
theorem sf_mul {c : Zq p} : ∀ {n : Nat} {F : Fin n → Zq p}, sf (fun i => c * F i) = c * sf F
  | 0, _ => (z_m0 _).symm
  | n + 1, F => by simp only [sf]; rw [sf_mul, z_md]
theorem sf_mulr {c : Zq p} {F : Fin n → Zq p} : sf (fun i => F i * c) = sf F * c := by
 rw [z_mc, ← sf_mul]; exact congrArg sf (funext fun i => z_mc _ _)
theorem sf_sw : ∀ {n m : Nat} {F : Fin n → Fin m → Zq p}, sf (fun i => sf fun j => F i j) = sf fun j => sf fun i => F i j
  | 0, m, F => by simp only [sf]; exact sf_0.symm
  | n + 1, m, F => by
    simp only [sf]
    rw [sf_sw, ← sf_add]
theorem sf_dl : ∀ {n : Nat} {i : Fin n} {F : Fin n → Zq p}, sf (fun y => (if i = y then zc 1 else zc 0) * F y) = F i
  | 0, i, _ => i.elim0
  | n + 1, i, F => by
    simp only [sf]
    rcases Nat.lt_or_ge i.val n with h | h
    · have e : i = Fin.castSucc ⟨i.val, h⟩ := rfl
      rw [e, if_neg (fun q => by have := congrArg Fin.val q; simp at this; omega), z_0m, z_a0]
      rw [← sf_dl (i := (⟨i.val, h⟩ : Fin n)) (F := fun y => F y.castSucc)]
      refine congrArg sf (funext fun y => ?_)
      congr 1
      by_cases hy : (⟨i.val, h⟩ : Fin n) = y
      · rw [if_pos hy, if_pos (congrArg Fin.castSucc hy)]
      · rw [if_neg hy, if_neg (fun q => hy (Fin.castSucc_inj.1 q))]
    · have e : i = Fin.last n := by apply Fin.ext; have := i.isLt; simp; omega
      subst e
      rw [if_pos rfl, z_1m]
      have : (sf fun y : Fin n => (if Fin.last n = y.castSucc then (zc 1 : Zq p) else zc 0) * F y.castSucc) = zc 0 := by
        refine Eq.trans (congrArg sf (funext fun y => ?_)) sf_0
        rw [if_neg (fun q => by have := congrArg Fin.val q; have := y.isLt; simp at *; omega), z_0m]
      rw [this, z_0a]
theorem sf_congr {F G : Fin n → Zq p} (h : ∀ i, F i = G i) : sf F = sf G := congrArg sf (funext h)

/-- linear: over one place, over two -/
def l1 (c : Fin n → Zq p) (F : Fin n → Zq p) : Zq p := sf fun x => c x * F x
def l2 (c : Fin n → Fin n → Zq p) (F : Fin n → Fin n → Zq p) : Zq p := sf fun x => sf fun y => c x y * F x y
variable {c d : Fin n → Zq p} {c2 d2 : Fin n → Fin n → Zq p}
theorem l1_sf {F : Fin n → Fin m → Zq p} : l1 c (fun x => sf fun y => F x y) = sf fun y => l1 c fun x => F x y := by
 unfold l1; rw [← sf_sw]; exact sf_congr fun x => sf_mul.symm
theorem l2_sf {F : Fin n → Fin n → Fin m → Zq p} : l2 c2 (fun x y => sf fun z => F x y z) = sf fun z => l2 c2 fun x y => F x y z := by
 unfold l2; exact (sf_congr fun x => (sf_congr fun y => sf_mul.symm).trans sf_sw).trans sf_sw
end
end Hf
namespace Hf
open Go Classical
section
variable {p : Int} {n : Nat}
theorem ou2 {F : Fin n → Fin n → Fin n → Zq p} : (sf fun a => sf fun b => sf fun x => F a b x) = sf fun x => sf fun a => sf fun b => F a b x := (sf_congr fun a => sf_sw).trans sf_sw
/-- the tables of a Hopf algebra, as numbers modulo p -/
structure HA (p : Int) (n : Nat) where
 m : Fin n → Fin n → Fin n → Zq p
 d : Fin n → Fin n → Fin n → Zq p
 u : Fin n → Zq p
 e : Fin n → Zq p
 s : Fin n → Fin n → Zq p
 as : ∀ i j k y, (sf fun x => m i j x * m x k y) = sf fun x => m j k x * m i x y
 ul : ∀ i y, (sf fun x => u x * m x i y) = if i = y then zc 1 else zc 0
 ur : ∀ i y, (sf fun x => u x * m i x y) = if i = y then zc 1 else zc 0
 ca : ∀ i j k l, (sf fun a => d i a l * d a j k) = sf fun a => d i j a * d a k l
 cl : ∀ i x, (sf fun j => e j * d i j x) = if i = x then zc 1 else zc 0
 cr : ∀ i j, (sf fun k => e k * d i j k) = if i = j then zc 1 else zc 0
 md : ∀ i j y z, (sf fun x => m i j x * d x y z) = sf fun a => sf fun b => m a b y * sf fun c => sf fun q => d i a c * d j b q * m c q z
 me : ∀ i j, (sf fun k => e k * m i j k) = e i * e j
 u1 : (sf fun k => e k * u k) = zc 1
 ud : ∀ y z, (sf fun x => u x * d x y z) = u y * u z
 s1 : ∀ i y, (sf fun j => sf fun k => d i j k * sf fun a => s j a * m a k y) = e i * u y
 s2 : ∀ i y, (sf fun j => sf fun k => d i j k * sf fun a => s k a * m j a y) = e i * u y
namespace HA
variable (A : HA p n)
def M (i j : Fin n) (F : Fin n → Zq p) : Zq p := l1 (A.m i j) F
def S (i : Fin n) (F : Fin n → Zq p) : Zq p := l1 (A.s i) F
def N (h j : Fin n) (F : Fin n → Zq p) : Zq p := l1 (fun y => A.m h y j) F
def B (y : Fin n) (F : Fin n → Fin n → Zq p) : Zq p := l2 (fun j k => A.d j y k) F
variable {A} {i j k h x y z : Fin n} {F : Fin n → Zq p} {F2 : Fin n → Fin n → Zq p} {F3 : Fin n → Fin n → Fin n → Zq p} {r : Zq p}
variable (A) in
def be (X : Fin n → Fin n → Zq p) (x y : Fin n) : Zq p := A.B y fun j k => A.M x k fun w => X w j
variable (A) in
variable {X : Fin n → Fin n → Zq p}
/-- the dual's tables -/
def dual (A : HA p n) : HA p n where
 m i j k := A.d k i j
 d i j k := A.m j k i
 u := A.e
 e := A.u
 s i j := A.s j i
 as i j k y := by
  rw [sf_congr fun x => z_mc (A.d x i j) (A.d y x k), sf_congr fun x => z_mc (A.d x j k) (A.d y i x)]
  exact A.ca y i j k
 ul i y := (A.cl y i).trans (by simp only [eq_comm])
 ur i y := (A.cr y i).trans (by simp only [eq_comm])
 ca i j k l := by
  rw [sf_congr fun x => z_mc (A.m x l i) (A.m j k x), sf_congr fun x => z_mc (A.m j x i) (A.m k l x)]
  exact A.as j k l i
 cl i x := (A.ul x i).trans (by simp only [eq_comm])
 cr i j := (A.ur j i).trans (by simp only [eq_comm])
 md i j y z := by
  rw [sf_congr fun x => z_mc (A.d x i j) (A.m y z x), A.md]
  simp only [← sf_mul]
  refine sf_congr fun a => ?_
  rw [sf_sw]
  refine sf_congr fun b => sf_congr fun c => sf_congr fun q => ?_
  simp only [z_mc, z_ml, z_ma]
 me i j := A.ud i j
 u1 := by rw [sf_congr fun k => z_mc (A.u k) (A.e k)]; exact A.u1
 ud y z := A.me y z
 s1 i y := by
  rw [z_mc, ← A.s1 y i]
  simp only [← sf_mul]
  refine ou2.trans (sf_congr fun a => sf_sw.trans (sf_congr fun k => sf_congr fun j => ?_))
  simp only [z_mc, z_ml, z_ma]
 s2 i y := by
  rw [z_mc, ← A.s2 y i]
  simp only [← sf_mul]
  refine sf_congr fun j => sf_sw.trans (sf_congr fun a => sf_congr fun k => ?_)
  simp only [z_mc, z_ml, z_ma]
end HA
end
end Hf
namespace Hf
open Go Classical
theorem vecE' {N : Nat} {p : Int} {x : Nat → Int} {g : By} (hp : 1 ≤ p) (hp2 : p ≤ 256) (h : vec N p x = g) {k : Nat} (hk : k < N) : cg p (x k) (bz g k) := by
 rw [← h]; exact (cg_vec hp hp2 hk).symm
theorem zc_bas {p : Int} {n : Nat} {i y : Fin n} : (zc (bz (bas i.val) y.val) : Zq p) = if i = y then zc 1 else zc 0 := by
 by_cases h : i = y
 ·subst h; rw [if_pos rfl, one_bz (by unfold bas; rw [if_pos rfl])]
 ·rw [if_neg h, bz_eq0.2 (by unfold bas; rw [if_neg fun q => h (Fin.ext q.symm)])]
theorem Cog.coa {p : Int} {n : Nat} {f : By} (h : Cog p n f) {i j k l : Nat} (hi : i < n) (hj : j < n) (hk : k < n) (hl : l < n) : Coa p n f i j k l := by
 have h1 : i * n + j + 1 ≤ n * n := by
  have := Nat.mul_le_mul_right n (show i + 1 ≤ n by omega)
  rw [Nat.add_mul, Nat.one_mul] at this; omega
 have h2 : (i * n + j) * n + k + 1 ≤ n * n * n := by
  have := Nat.mul_le_mul_right n h1
  rw [Nat.add_mul, Nat.one_mul] at this; omega
 have h3 : ((i * n + j) * n + k) * n + l + 1 ≤ n * n * n * n := by
  have := Nat.mul_le_mul_right n h2
  rw [Nat.add_mul, Nat.one_mul] at this; omega
 have q := h.2.2 (((i * n + j) * n + k) * n + l) (by rw [Int.toNat_natCast]; omega)
 unfold CoaT at q
 rw [Int.toNat_natCast] at q
 have e1 : (((i * n + j) * n + k) * n + l) / n = (i * n + j) * n + k := by
  rw [Nat.mul_comm, Nat.mul_add_div (by omega), Nat.div_eq_of_lt hl, Nat.add_zero]
 have e2 : ((i * n + j) * n + k) / n = i * n + j := by
  rw [Nat.mul_comm, Nat.mul_add_div (by omega), Nat.div_eq_of_lt hk, Nat.add_zero]
 have e3 : (i * n + j) / n = i := by
  rw [Nat.mul_comm, Nat.mul_add_div (by omega), Nat.div_eq_of_lt hj, Nat.add_zero]
 have m1 : (((i * n + j) * n + k) * n + l) % n = l := by rw [Nat.mul_comm, Nat.mul_add_mod, Nat.mod_eq_of_lt hl]
 have m2 : ((i * n + j) * n + k) % n = k := by rw [Nat.mul_comm, Nat.mul_add_mod, Nat.mod_eq_of_lt hk]
 have m3 : (i * n + j) % n = j := by rw [Nat.mul_comm, Nat.mul_add_mod, Nat.mod_eq_of_lt hj]
 rw [← Nat.div_div_eq_div_mul, ← Nat.div_div_eq_div_mul, e1, e2, e3, m1, m2, m3] at q
 exact q

section
variable {p : Int} {n : Nat} {f : By}
end
end Hf
namespace Hf
open Go Classical
structure AL (p : Int) (N : Nat) where
 m : Fin N → Fin N → Fin N → Zq p
 u : Fin N → Zq p
 as : ∀ i j k y, (sf fun x => m i j x * m x k y) = sf fun x => m j k x * m i x y
 ul : ∀ i y, (sf fun x => u x * m x i y) = if i = y then zc 1 else zc 0
 ur : ∀ i y, (sf fun x => u x * m i x y) = if i = y then zc 1 else zc 0
structure CO (p : Int) (n : Nat) where
 d : Fin n → Fin n → Fin n → Zq p
 e : Fin n → Zq p
 ca : ∀ i j k l, (sf fun a => d i a l * d a j k) = sf fun a => d i j a * d a k l
 cl : ∀ i x, (sf fun j => e j * d i j x) = if i = x then zc 1 else zc 0
 cr : ∀ i j, (sf fun k => e k * d i j k) = if i = j then zc 1 else zc 0
section
variable {p : Int} {n m : Nat}
def coOf {f : By} (hp1 : 1 ≤ p) (hp2 : p ≤ 256) (hn : n ≤ 8) (hC : Cog p n f) : CO p n := by
 refine ⟨fun i j k => zc (bz f (10 + i.val * 64 + j.val * 8 + k.val)), fun k => zc (bz f (2 + k.val)), ?_, ?_, ?_⟩
 ·intro i j k l
  have q : cg p (coL n f i.val j.val k.val l.val) (coR n f i.val j.val k.val l.val) := hC.coa i.isLt j.isLt k.isLt l.isLt
  have q := zc_eq.2 q
  unfold coL coR at q
  simp only [sf_sm, zc_mul] at q
  exact q
 ·intro i x
  have q := zc_eq.2 (vecE' hp1 hp2 (hC.2.1 i.val (by simp)).1 (k := x.val) (by omega))
  rw [Int.toNat_natCast, zc_bas] at q
  unfold cuL at q
  simp only [sf_sm, zc_mul] at q
  exact q
 ·intro i j
  have q := hC.2.1 i.val (by simp)
  rw [Int.toNat_natCast] at q
  have q := zc_eq.2 (vecE' hp1 hp2 q.2 (k := j.val) (by omega))
  rw [zc_bas] at q
  unfold cuR at q
  simp only [sf_sm, zc_mul] at q
  exact q
variable {A : AL p m} {C : CO p n}
/-! ### linear, over places of either kind -/
theorem x1_m {c : Fin n → Zq p} {r : Zq p} {F : Fin n → Zq p} : l1 c (fun x => F x * r) = l1 c F * r := by
 unfold l1; rw [← sf_mulr]; exact sf_congr fun x => (z_ma _ _ _).symm
theorem x2_m {c : Fin n → Fin n → Zq p} {r : Zq p} {F : Fin n → Fin n → Zq p} : l2 c (fun x y => F x y * r) = l2 c F * r := by
 unfold l2; rw [← sf_mulr]; refine sf_congr fun x => ?_; rw [← sf_mulr]; exact sf_congr fun y => (z_ma _ _ _).symm
/-- what is made of a sum -/
theorem y2 {c : Fin n → Fin n → Zq p} {T : Fin n → Fin n → Fin m → Zq p} {F : Fin m → Zq p} : l1 (fun y => l2 c fun j k => T j k y) F = l2 c fun j k => l1 (T j k) F := by
 show (sf fun y => l2 c (fun j k => T j k y) * F y) = l2 c fun j k => sf fun y => T j k y * F y
 rw [l2_sf]; exact sf_congr fun y => x2_m.symm
theorem y1 {c : Fin n → Zq p} {T : Fin n → Fin m → Zq p} {F : Fin m → Zq p} : l1 (fun y => l1 c fun j => T j y) F = l1 c fun j => l1 (T j) F := by
 show (sf fun y => l1 c (fun j => T j y) * F y) = l1 c fun j => sf fun y => T j y * F y
 rw [l1_sf]; exact sf_congr fun y => x1_m.symm
/-! ### convolution -/
def AL.M (A : AL p m) (i j : Fin m) (F : Fin m → Zq p) : Zq p := l1 (A.m i j) F
variable {F G K : Fin n → Fin m → Zq p}
end
section
variable {p : Int} {n m : Nat} {f g F G K : By}
end
end Hf
namespace Hf
open Go Classical
variable {P : Program} {ρ : Nat → FuncId}
theorem x_IndexFunc_V2_ok (B : Bs P ρ) (E : F_x_IndexFunc_V2 P ρ) {g : Nat} {caps : List (Nat × Nat)} {H : List Blk} {a : At} {L : List By} {q : Nat → Bool} {z : Int} (hz : firstQ q L.length 0 = z) (hA : VS H a L) (hcaps : (At.fn g [] caps).lt H.length = true) (hlen : L.length ≤ 1000000) (hq : ∀ i, i < L.length → CallR P ρ g ([.ag [] 8 (L.getD i z0)] ++ caps.map (fun p => .pt p.1 p.2)) H fun u G => u = .one (.b (q i)) ∧ G = H) :
  CallR P ρ 91 [a, .fn g [] caps] H (fun u G => u = .one (.i .i64 z) ∧ G = H) := by
 refine call_of_q B.fn B.mo E rfl (fun hAr hHp => ?_) (by simp only [List.all_cons, List.all_nil, hA.lt, hcaps]; rfl)
 refine ⟨_, (hA).len, ?_⟩
 refine ⟨Unit, (fun a0 a1 a7 (i0 : Nat) (x0 : Unit) => [(0, a0), (1, a1), (7, a7), (8, .one (.i .i64 ((i0 : Nat) : Int)))]) _ _ _ , fun (i0 : Nat) (x0 : Unit) (G0 : List Blk) => (G0 = H ∧ ∀ j, j < i0 → q j = false), L.length, ⟨(), ⟨rfl, fun j h => by omega⟩, ⟨rfl, rfl, rfl, rfl, trivial⟩⟩, ?_⟩
 rintro i0 _ G0 hi0 ⟨rfl, hF0⟩
 refine ⟨fun h9 => ?_, fun h9 => ?_⟩
 ·replace h9 := of_decide_eq_true h9
  obtain ⟨k14, o14, n14, c14, q14, ea14, hl14, hq14, r14, N14, f14, hk14, hN14, hf14⟩ := (hA).at i0 (by omega)
  refine ⟨k14, o14, n14, c14, i0, q14, ea14, rfl, hl14, hq14, ?_⟩
  refine ⟨_, _, _, _, _, hk14, ⟨by simp, hN14⟩, hf14, ?_⟩
  refine ⟨_, hq i0 (by omega), ?_⟩
  rintro _ _ ⟨rfl, rfl⟩
  refine ⟨fun h16 => ?_, fun h16 => ?_⟩
  ·skip
   have e : z = (i0 : Int) := hz.symm.trans <| firstQ_some (by omega) (by omega) h16 fun j _ h => hF0 j h
   exact ⟨rfl, by rw [e]; rfl, rfl⟩
  ·skip
   refine ⟨((i0 + 1 : Nat) : Int), w64_id _ (by omega) (by omega), ?_⟩
   refine ⟨by omega, (), ?_, ⟨rfl, rfl, rfl, rfl, trivial⟩⟩
   refine ⟨rfl, fun j hj => ?_⟩
   by_cases e : j = i0
   ·subst e; exact h16
   ·exact hF0 j (by omega)
 ·replace h9 := of_decide_eq_false h9
  have e0 : L.length = i0 := by omega
  subst e0
  have e : z = -1 := hz.symm.trans <| firstQ_none fun j _ h => hF0 j (by omega)
  exact ⟨rfl, by rw [e]; rfl, rfl⟩

theorem x_ContainsFunc_V2_ok (B : Bs P ρ) (E : F_x_ContainsFunc_V2 P ρ) {g : Nat} {caps : List (Nat × Nat)} {H : List Blk} {a : At} {L : List By} {q : Nat → Bool} (hA : VS H a L) (hcaps : (At.fn g [] caps).lt H.length = true) (hlen : L.length ≤ 1000000) (hq : ∀ i, i < L.length → CallR P ρ g ([.ag [] 8 (L.getD i z0)] ++ caps.map (fun p => .pt p.1 p.2)) H fun u G => u = .one (.b (q i)) ∧ G = H) :
  CallR P ρ 70 [a, .fn g [] caps] H (fun u G => u = .one (.b (decide (∃ i, i < L.length ∧ q i = true))) ∧ G = H) := by
 refine call_of_q B.fn B.mo E.1 rfl (fun hAr hHp => ?_) (by simp only [List.all_cons, List.all_nil, hA.lt, hcaps]; rfl)
 refine ⟨_, x_IndexFunc_V2_ok B E.2 rfl hA hcaps hlen hq, ?_⟩
 rintro _ _ ⟨rfl, rfl⟩
 refine ⟨rfl, ?_, rfl⟩
 have e : decide (∃ i, i < L.length ∧ q i = true) = decide (firstQ q L.length 0 ≥ 0) := by
  refine decide_eq_decide.2 ?_
  show _ ↔ 0 ≤ _
  rw [firstQ_nn]
  exact ⟨fun ⟨i, h1, h2⟩ => ⟨i, by omega, by omega, h2⟩, fun ⟨i, _, h1, h2⟩ => ⟨i, by omega, h2⟩⟩
 rw [e]; rfl

theorem x_IndexFunc_B_ok (B : Bs P ρ) (E : F_x_IndexFunc_B P ρ) {g k off n cap N : Nat} {caps : List (Nat × Nat)} {H : List Blk} {r : Bool} {f : By} {q : Nat → Bool} {z : Int} (hz : firstQ q n 0 = z) (hk : H[k]? = some ⟨r, .by [] N f⟩) (hN : off + n ≤ N) (hcaps : (At.fn g [] caps).lt H.length = true) (hlen : n ≤ 1000000) (hq : ∀ i, i < n → CallR P ρ g ([.u (f (off + i * 1))] ++ caps.map (fun p => .pt p.1 p.2)) H fun u G => u = .one (.b (q i)) ∧ G = H) :
  CallR P ρ 319 [.sl k off n cap, .fn g [] caps] H (fun u G => u = .one (.i .i64 z) ∧ G = H) := by
 refine call_of_q B.fn B.mo E rfl (fun hAr hHp => ?_) (by simp only [List.all_cons, List.all_nil, hcaps]; simp [At.lt, lt_of hk])
 refine ⟨_, rfl, ?_⟩
 refine ⟨Unit, (fun a0 a1 a7 (i0 : Nat) (x0 : Unit) => [(0, a0), (1, a1), (7, a7), (8, .one (.i .i64 ((i0 : Nat) : Int)))]) _ _ _ , fun (i0 : Nat) (x0 : Unit) (G0 : List Blk) => (G0 = H ∧ ∀ j, j < i0 → q j = false), n, ⟨(), ⟨rfl, fun j h => by omega⟩, ⟨rfl, rfl, rfl, rfl, trivial⟩⟩, ?_⟩
 rintro i0 _ G0 hi0 ⟨rfl, hF0⟩
 refine ⟨fun h9 => ?_, fun h9 => ?_⟩
 ·replace h9 := of_decide_eq_true h9
  refine ⟨_, _, _, _, _, _, rfl, rfl, by omega, rfl, ?_⟩
  refine ⟨_, _, hk, cat_u (by omega), ?_⟩
  refine ⟨_, hq i0 (by omega), ?_⟩
  rintro _ _ ⟨rfl, rfl⟩
  refine ⟨fun h16 => ?_, fun h16 => ?_⟩
  ·skip
   have e : z = (i0 : Int) := hz.symm.trans <| firstQ_some (by omega) (by omega) h16 fun j _ h => hF0 j h
   exact ⟨rfl, by rw [e]; rfl, rfl⟩
  ·skip
   refine ⟨((i0 + 1 : Nat) : Int), w64_id _ (by omega) (by omega), ?_⟩
   refine ⟨by omega, (), ?_, ⟨rfl, rfl, rfl, rfl, trivial⟩⟩
   refine ⟨rfl, fun j hj => ?_⟩
   by_cases e : j = i0
   ·subst e; exact h16
   ·exact hF0 j (by omega)
 ·replace h9 := of_decide_eq_false h9
  have e0 : n = i0 := by omega
  subst e0
  have e : z = -1 := hz.symm.trans <| firstQ_none fun j _ h => hF0 j (by omega)
  exact ⟨rfl, by rw [e]; rfl, rfl⟩

theorem i_lead_1_ok (B : Bs P ρ) (E : F_i_lead_1 P ρ) {x : UInt8} :
  CallOK P ρ 320 [.u x] [] (.one (.b (x != 0))) [] := by
 refine (CallR.pure (call_of_q B.fn B.mo E rfl (fun _ _ => ?_) rfl) rfl).ok
 exact ⟨rfl, rfl, Ext.nil⟩

/-- the place of the first entry other than 0, or -1 -/
def ldI (v : By) : Int := if fst8 v < 8 then ((fst8 v : Nat) : Int) else -1
theorem ldI_eq {v : By} : firstQ (fun i => v (0 + 0 * 1 + i * 1) != 0) (8 - 0) 0 = ldI v := by
 have e0 : (fun i => v (0 + 0 * 1 + i * 1) != 0) = fun i => v i != 0 := funext fun i => by rw [show 0 + 0 * 1 + i * 1 = i by omega]
 rw [e0]
 have hle := @fst8_le v
 unfold ldI
 by_cases h : fst8 v < 8
 ·rw [if_pos h]
  have h1 : (v (fst8 v) != 0) = true := @fstN_some (fun i => v i != 0) 8 0 (by unfold fst8 at h; omega)
  exact firstQ_some (by omega) (by omega) h1 fun j _ hj => @fstN_none (fun i => v i != 0) 8 0 j (by omega) hj
 ·rw [if_neg h]
  exact firstQ_none fun j _ hj => @fstN_none (fun i => v i != 0) 8 0 j (by omega) (by unfold fst8 at h; omega)
theorem ldI_lt {v : By} (h : fst8 v < 8) : ldI v = ((fst8 v : Nat) : Int) := if_pos h
theorem i_lead_ok (B : Bs P ρ) (E : F_i_lead P ρ) {v : By} :
  CallOK P ρ 316 [.ag [] 8 v] [] (.one (.i .i64 (ldI v))) [] := by
 refine (CallR.pure (call_of_q B.fn B.mo E.1 rfl (fun _ _ => ?_) rfl) rfl).ok
 refine ⟨_, rfl, ?_⟩
 refine ⟨0, 8, rfl, rfl, ⟨by omega, by omega, by omega⟩, ?_⟩
 refine ⟨_, x_IndexFunc_B_ok B E.2.1 (f := v) (q := fun i => v (0 + 0 * 1 + i * 1) != 0) ldI_eq get_new (by omega) rfl (by omega) (fun i hi => (i_lead_1_ok B E.2.2).at0 rfl rfl), ?_⟩
 rintro _ _ ⟨rfl, rfl⟩
 exact ⟨rfl, rfl, Ext.nil⟩

theorem plus_at (B : Bs P ρ) (E : E_i_field_plus P ρ) {H : List Blk} {k off N : Nat} {p n c : Int} {g0 w f : By} {hd : List Int} (hk : H[k]? = some ⟨false, .by hd N f⟩) (hp : 1 ≤ p) (hp2 : p ≤ 1000) (ho : hd.length ≤ off) (hN : off + 8 ≤ N) (hc : -1000000000000 ≤ c) (hc2 : c ≤ 1000000000000) (hf : ∀ x, off ≤ x → x < off + 8 → bz f x < p) :
  CallR P ρ 71 [.ag [p, n] 2 g0, .pt k off, .i .i64 c, .ag [] 8 w] H fun u G => u = .tup [] ∧ G = H.set k ⟨false, .by hd N (plsN p f off c w 8)⟩ :=
 ((i_field_plus_ok B E (p := p) (n := n) (k := c) (g0 := g0) (w := w) (f := f) (hd := hd) (N := N) (off := off) hp hp2 ho hN hc hc2 hf).emb (H := H) (H' := H.set k ⟨false, .by hd N (plsN p f off c w 8)⟩) (args := [.ag [p, n] 2 g0, .pt k off, .i .i64 c, .ag [] 8 w]) [k] rfl ⟨⟨_, hk, fun _ => rfl⟩, trivial⟩ rfl rfl (by simp [back]; rfl)).r
theorem byL1_pls {p : Int} {v w r : By} (hp : 1 ≤ p) (hv : ∀ y, y < 8 → bz w y < p) (h : ∀ y, y < 8 → w y = v y) (hr : fst8 r < 8) : ∀ y, y < 8 → plsN p w 0 (-(bz w (fst8 r))) r 8 y = byL1 p v r y := by
 intro y hy
 unfold byL1
 by_cases e : v (fst8 r) = 0
 ·rw [if_pos e, bz_eq0.2 ((h _ hr).trans e), Int.neg_zero, plsN_k0 fun x _ hx => hv x (by omega)]
  exact h y hy
 ·rw [if_neg e]
  simp only [plsN, addV, vec]
  rw [if_pos (by omega), if_pos hy]
  simp only [bz, Nat.sub_zero]
  rw [h y hy, h _ hr]
theorem i_field_rest_ok (B : Bs P ρ) (E : F_i_field_rest P ρ) {p n : Int} {g v : By} {H : List Blk} {a : At} {L : List By} (hp : 1 ≤ p) (hp2 : p ≤ 256) (hv : ∀ x, x < 8 → bz v x < p) (hL : VS H a L) (hl : ∀ r ∈ L, fst8 r < 8) (hlen : L.length ≤ 1000000) :
  CallR P ρ 379 [.ag [p, n] 2 g, a, .ag [] 8 v] H (fun u G => u = .one (.ag [] 8 (byL p v L)) ∧ G = H) := by
 refine CallR.pure (call_of_q B.fn B.mo E.1 rfl (fun hA hH => ?_) (by simp only [List.all_cons, List.all_nil, hL.lt]; rfl)) rfl
 refine ⟨_, rfl, ?_⟩
 refine ⟨H.length + 1, by simp, ?_⟩
 refine ⟨H.length + 2, by simp, ?_⟩
 refine ⟨_, (hL).len, ?_⟩
 refine ⟨Unit, (fun a3 a5 a6 a9 a10 (i0 : Nat) (x0 : Unit) => [(3, a3), (5, a5), (6, a6), (9, a9), (10, a10), (11, .one (.i .i64 ((i0 : Nat) : Int)))]) _ _ _ _ _ , fun (i0 : Nat) (x0 : Unit) (G0 : List Blk) => (∃ w, (G0[H.length]? = some ⟨false, .by [p, n] 2 g⟩ ∧ G0[H.length + 1]? = some ⟨false, .by [] 8 w⟩ ∧ G0[H.length + 2]? = some ⟨false, .by [] 8 fun _ => 0⟩) ∧ Ext H G0 ∧ (∀ y, y < 8 → bz w y < p) ∧ ∀ y, y < 8 → w y = byL p v (L.take i0) y), L.length, ⟨(), ?_, ⟨rfl, rfl, rfl, rfl, rfl, rfl, trivial⟩⟩, ?_⟩
 ·refine ⟨v, ⟨by simp, by simp, by simp; rfl⟩, Ext.app.trans (Ext.app.trans Ext.app), hv, fun _ _ => rfl⟩
 rintro i0 _ G0 hi0 ⟨w, ⟨hb3, hb5, hb6⟩, hE0, hwp, hw⟩
 refine ⟨fun h12 => ?_, fun h12 => ?_⟩
 ·replace h12 := of_decide_eq_true h12
  obtain ⟨k13, o13, n13, c13, q13, ea13, hl13, hq13, r13, N13, f13, hk13, hN13, hf13⟩ := (hL.ext hE0).at i0 (by omega)
  refine ⟨k13, o13, n13, c13, i0, q13, ea13, rfl, hl13, hq13, ?_⟩
  refine ⟨_, _, _, _, _, hk13, ⟨by simp, hN13⟩, hf13, ?_⟩
  refine ⟨_, rfl, ?_⟩
  refine ⟨_, _, _, get_new, cputs_by (by simp) (by omega), eqBk_rfl, ?_⟩
  rw [app_set0]
  have hfl := hl _ (getD_mem (L := L) (i := i0) (by omega))
  have hl5 := lt_of hb5
  have hrv : ∀ x, x < 8 → spl (fun _ => 0) 0 8 (L.getD i0 z0) x = L.getD i0 z0 x := fun x hx => by simp [spl, hx]
  refine .inl ⟨_, _, _, _, app_old hb3, ⟨rfl, by omega⟩, ?_⟩
  refine ⟨_, _, _, _, L.getD i0 z0, get_new, ⟨by simp, by omega⟩, fun x hx => by rw [Nat.zero_add]; exact (hrv x hx).symm, ?_⟩
  refine ⟨_, i_lead_ok B E.2.1 , rfl, ?_⟩
  rw [ldI_lt hfl]
  refine ⟨fst8 (L.getD i0 z0), fst8 (L.getD i0 z0), rfl, hfl, by omega, ?_⟩
  refine ⟨_, _, app_old hb5, cat_u hfl, ?_⟩
  have hx := toNat_le (w (fst8 (L.getD i0 z0)))
  refine ⟨_, w64_id _ (by omega) (by omega), ?_⟩
  refine ⟨_, _, _, _, L.getD i0 z0, get_new, ⟨by simp, by omega⟩, fun x hx => by rw [Nat.zero_add]; exact (hrv x hx).symm, ?_⟩
  refine ⟨_, plus_at B E.2.2 (app_old hb5) hp (by omega) (by simp) (by omega) (by omega) (by omega) (fun x _ hx => hwp x (by omega)), ?_⟩
  rintro _ _ ⟨rfl, rfl⟩
  refine ⟨((i0 + 1 : Nat) : Int), w64_id _ (by omega) (by omega), ?_⟩
  refine ⟨by omega, (), ?_, ⟨rfl, rfl, rfl, rfl, rfl, rfl, trivial⟩⟩
  have hn1 : H.length + 1 ≠ H.length := by omega
  have hn2 : H.length + 1 ≠ H.length + 2 := by omega
  refine ⟨_, ⟨set_other (app_old hb3) hn1, set_same (app_old hb5), set_other (app_old hb6) hn2⟩, (hE0.trans Ext.app).set (by omega), ?_, ?_⟩
  ·intro y hy
   simp only [bz, plsN]
   rw [if_pos (by omega), bz_byt _ (Int.emod_nonneg _ (by omega)) (by have := Int.emod_lt_of_pos (bz w y + -(bz w (fst8 (L.getD i0 z0))) * bz (L.getD i0 z0) (y - 0)) (show 0 < p by omega); simp only [bz] at this; omega)]
   exact Int.emod_lt_of_pos _ (by omega)
  ·intro y hy
   rw [byL_take (by omega)]
   exact byL1_pls hp hwp hw hfl y hy
 ·replace h12 := of_decide_eq_false h12
  have e0 : L.length = i0 := by omega
  subst e0
  refine ⟨_, _, _, _, byL p v L, hb5, ⟨by simp, by omega⟩, fun x hx => by rw [Nat.zero_add, hw x hx, List.take_length], ?_⟩
  refine ⟨_, _, _, hb6, cputs_by (by simp) (by omega), eqBk_rfl, ?_⟩
  refine ⟨rfl, false, [], 8, _, byL p v L, set_same hb6, ⟨by simp, by omega⟩, fun x hx => by simp [spl, hx], rfl, ?_⟩
  exact hE0.set (by omega)

theorem i_within_1_ok (B : Bs P ρ) (E : F_i_within_1 P ρ) {p n : Int} {g v : By} {H : List Blk} {a : At} {L : List By} {kf ks : Nat} {r1 r2 : Bool} (hp : 1 ≤ p) (hp2 : p ≤ 256) (hv : ∀ x, x < 8 → bz v x < p) (hf : H[kf]? = some ⟨r1, .by [p, n] 2 g⟩) (hs : H[ks]? = some ⟨r2, .vr a⟩) (hL : VS H a L) (hl : ∀ r ∈ L, fst8 r < 8) (hlen : L.length ≤ 1000000) :
  CallR P ρ 380 [.ag [] 8 v, .pt kf 0, .pt ks 0] H (fun u G => u = .one (.b (!eqB 8 (byL p v L) z0)) ∧ G = H) := by
 refine CallR.pure (call_of_q B.fn B.mo E.1 rfl (fun hA hH => ?_) (by simp [At.lt, lt_of hf, lt_of hs])) rfl
 refine ⟨_, rfl, ?_⟩
 refine .inl ⟨_, _, _, _, app_old hf, ⟨rfl, by omega⟩, ?_⟩
 refine ⟨_, _, app_old hs, rfl, ?_⟩
 refine ⟨_, _, _, _, v, get_new, ⟨by simp, by omega⟩, fun x _ => congrArg _ (Nat.zero_add x).symm, ?_⟩
 refine ⟨_, i_field_rest_ok B E.2 hp hp2 hv (hL.ext Ext.app) hl hlen, ?_⟩
 rintro _ _ ⟨rfl, rfl⟩
 exact ⟨rfl, rfl, Ext.app⟩

theorem VS.shape {H : List Blk} {a : At} {L : List By} (h : VS H a L) : a = .sn ∨ ∃ k o n c, a = .sl k o n c := by
 rcases h with ⟨h, -⟩ | ⟨k, off, cap, r, N, f, h, -⟩
 ·exact .inl h
 ·exact .inr ⟨_, _, _, _, h⟩
/-- all of M reduce to 0 -/
def inL (p : Int) (L M : List By) : Bool := M.all fun v => eqB 8 (byL p v L) z0
theorem i_within_ok (B : Bs P ρ) (E : F_i_within P ρ) {p : Int} {H : List Blk} {a b : At} {L M : List By} (hp : 1 ≤ p) (hp2 : p ≤ 256) (hL : VS H a L) (hl : ∀ r ∈ L, fst8 r < 8) (hlen : L.length ≤ 1000000) (hM : VS H b M) (hMv : ∀ v ∈ M, ∀ x, x < 8 → bz v x < p) (hMl : M.length ≤ 1000000) :
  CallR P ρ 378 [.i .i64 p, a, b] H (fun u G => u = .one (.b (inL p L M)) ∧ G = H) := by
 refine CallR.pure (call_of_q B.fn B.mo E.1 rfl (fun hA hH => ?_) (by simp only [List.all_cons, List.all_nil, hL.lt, hM.lt]; rfl)) rfl
 rcases hL.shape with rfl | ⟨k0, o0, n0, c0, rfl⟩
 ·refine ⟨_, rfl, ?_⟩
  refine ⟨_, rfl, ?_⟩
  refine ⟨_, _, _, get_new, rfl, eqBk_rfl, ?_⟩
  rw [app_set0]
  refine ⟨_, x_ContainsFunc_V2_ok B E.2.2 (q := fun i => !eqB 8 (byL p (M.getD i z0) L) z0) (hM.ext (Ext.app.trans Ext.app)) (by simp [At.lt]) hMl (fun i hi => i_within_1_ok B E.2.1 hp hp2 (hMv _ (getD_mem hi)) get_new (app_old get_new) (hL.ext (Ext.app.trans Ext.app)) hl hlen), ?_⟩
  rintro _ _ ⟨rfl, rfl⟩
  refine ⟨rfl, ?_, Ext.app.trans Ext.app⟩
  have e : (!decide (∃ i, i < M.length ∧ (!eqB 8 (byL p (M.getD i z0) L) z0) = true)) = inL p L M := by
   unfold inL
   rw [Bool.eq_iff_iff, Bool.not_eq_true', decide_eq_false_iff_not, List.all_eq_true]
   constructor
   ·intro h v hv
    obtain ⟨i, hi, rfl⟩ := List.mem_iff_getElem.1 hv
    apply Classical.byContradiction
    intro hn
    refine h ⟨i, hi, ?_⟩
    rw [List.getD_eq_getElem?_getD, List.getElem?_eq_getElem hi]
    simpa using hn
   ·rintro h ⟨i, hi, hq⟩
    rw [h _ (getD_mem hi)] at hq
    cases hq
  rw [e]; rfl
 ·refine ⟨_, rfl, ?_⟩
  refine ⟨_, rfl, ?_⟩
  refine ⟨_, _, _, get_new, rfl, eqBk_rfl, ?_⟩
  rw [app_set0]
  refine ⟨_, x_ContainsFunc_V2_ok B E.2.2 (q := fun i => !eqB 8 (byL p (M.getD i z0) L) z0) (hM.ext (Ext.app.trans Ext.app)) (by simp [At.lt]) hMl (fun i hi => i_within_1_ok B E.2.1 hp hp2 (hMv _ (getD_mem hi)) get_new (app_old get_new) (hL.ext (Ext.app.trans Ext.app)) hl hlen), ?_⟩
  rintro _ _ ⟨rfl, rfl⟩
  refine ⟨rfl, ?_, Ext.app.trans Ext.app⟩
  have e : (!decide (∃ i, i < M.length ∧ (!eqB 8 (byL p (M.getD i z0) L) z0) = true)) = inL p L M := by
   unfold inL
   rw [Bool.eq_iff_iff, Bool.not_eq_true', decide_eq_false_iff_not, List.all_eq_true]
   constructor
   ·intro h v hv
    obtain ⟨i, hi, rfl⟩ := List.mem_iff_getElem.1 hv
    apply Classical.byContradiction
    intro hn
    refine h ⟨i, hi, ?_⟩
    rw [List.getD_eq_getElem?_getD, List.getElem?_eq_getElem hi]
    simpa using hn
   ·rintro h ⟨i, hi, hq⟩
    rw [h _ (getD_mem hi)] at hq
    cases hq
  rw [e]; rfl


end Hf
namespace Hf
open Go Classical
variable {P : Program} {ρ : Nat → FuncId}
theorem cputs_rw {l : List At} {q : List C1} {n : Nat} (h1 : q.length = n) (h2 : l.length = n) : cputs (.rw l) 0 (.ac q) n = some (.rw (q.map C1.at)) := if_pos ⟨rfl, h1, h2⟩
/-- a slice whose block is none of the first m, or that is full -/
def VF (m : Nat) (H : List Blk) (a : At) (L : List By) : Prop :=
 ∃ k off cap N f, a = .sl k off L.length cap ∧ H[k]? = some ⟨false, .by [] N f⟩ ∧ (off + cap * 8 ≤ N ∧ L.length ≤ cap ∧ (m ≤ k ∨ L.length = cap)) ∧ ∀ i x, i < L.length → x < 8 → f (off + i * 8 + x) = (L.getD i z0) x
theorem VF.vs {m : Nat} {H : List Blk} {a : At} {L : List By} (h : VF m H a L) : VS H a L := by
 obtain ⟨k, off, cap, N, f, h1, h2, h3, h4⟩ := h
 exact .inr ⟨k, off, cap, false, N, f, h1, h2, ⟨h3.1, h3.2.1⟩, h4⟩
theorem VF.ext {m : Nat} {H H' : List Blk} {a : At} {L : List By} (h : VF m H a L) (e : Ext H H') : VF m H' a L := by
 obtain ⟨k, off, cap, N, f, h1, h2, h3, h4⟩ := h
 exact ⟨k, off, cap, N, f, h1, e k _ h2, h3, h4⟩
theorem VF.nil {m : Nat} {H : List Blk} {f : By} : VF m (H ++ [⟨false, .by [] (0 * 8) f⟩]) (.sl H.length 0 0 0) [] :=
 ⟨H.length, 0, 0, _, f, rfl, get_new, ⟨by omega, by simp, .inr rfl⟩, fun i x h => by simp at h⟩
theorem vf_app {m : Nat} {H : List Blk} {a b : At} {L : List By} {v : By} (hL : VF m H a L) (hM : VS H b [v]) (hb : L.length ≤ 1000000) (hm : m ≤ H.length) :
  apB 8 8 H a b fun a' H' => VF m H' a' (L ++ [v]) ∧ Upto m H H' := by
 obtain ⟨k, off, cap, N, f, e, hk, ⟨h1, h2, h3⟩, hf⟩ := hL
 rcases h3 with h3 | h3
 ·have := vw_app (m := m) (L := L) (M := [v]) ⟨k, off, cap, N, f, e, hk, ⟨h1, h2, h3⟩, hf⟩ hM (by simp; omega) hm
  subst e
  obtain ⟨mm, g, N', f', q1, q2, q3, q4, q5⟩ := this
  refine ⟨mm, g, N', f', q1, q2, q3, fun hc => ?_, fun hc cap' hc' => ?_⟩
  ·obtain ⟨⟨k, off, cap, N, f, w1, w2, w3, w4⟩, w5⟩ := q4 hc
   exact ⟨⟨k, off, cap, N, f, w1, w2, ⟨w3.1, w3.2.1, .inl w3.2.2⟩, w4⟩, w5⟩
  ·obtain ⟨⟨k, off, cap, N, f, w1, w2, w3, w4⟩, w5⟩ := q5 hc cap' hc'
   exact ⟨⟨k, off, cap, N, f, w1, w2, ⟨w3.1, w3.2.1, .inl w3.2.2⟩, w4⟩, w5⟩
 ·have := vw_app (m := 0) (L := L) (M := [v]) ⟨k, off, cap, N, f, e, hk, ⟨h1, h2, Nat.zero_le _⟩, hf⟩ hM (by simp; omega) (Nat.zero_le _)
  subst e
  obtain ⟨mm, g, N', f', q1, q2, q3, q4, q5⟩ := this
  have hmm : mm = 1 := by
   rcases hM with ⟨-, h⟩ | ⟨k2, off2, cap2, r2, N2, f2, rfl, -⟩
   ·cases h
   ·exact q1.1.symm
  refine ⟨mm, g, N', f', q1, q2, q3, fun hc => ?_, fun hc cap' hc' => ?_⟩
  ·omega
  ·obtain ⟨⟨k, off, cap, N, f, w1, w2, w3, w4⟩, -⟩ := q5 hc cap' hc'
   refine ⟨⟨k, off, cap, N, f, w1, w2, ⟨w3.1, w3.2.1, .inl ?_⟩, w4⟩, fun j B hj e => app_old e⟩
   have := (At.sl.inj w1).1
   omega
theorem take_getD {L : List By} {i : Nat} (h : i < L.length) : L.take (i + 1) = L.take i ++ [L.getD i z0] := by rw [List.take_add_one]; simp [h]
theorem redL_snoc {p : Int} {L : List By} {v : By} : redL p (L ++ [v]) = putL p (redL p L) v := by simp [redL, List.foldl_append]
theorem s_l01Reduce_ok (B : Bs P ρ) (E : F_s_l01Reduce P ρ) {H : List Blk} {p : Int} {a : At} {L : List By} (hp : Pr p) (hL : VS H a L) (hv : ∀ v ∈ L, Vp 8 p v) (hlen : L.length ≤ 1000000) :
  CallR P ρ 270 [.i .i64 p, a] H (fun u G => ∃ b, u = .one b ∧ Ext H G ∧ VS G b (redL p L)) := by
 have hp2 := hp.1
 have hp3 := hp.2.1
 refine call_of_q B.fn B.mo E.1 rfl (fun hAr hHp => ?_) (by simp only [List.all_cons, List.all_nil, hL.lt]; rfl)
 refine ⟨_, rfl, ?_⟩
 refine ⟨At, (fun a0 a1 (i0 : Nat) (x0 : At) => [(0, a0), (1, a1), (5, .one x0), (6, .one (.i .i64 ((i0 : Nat) : Int)))]) _ _ , fun (i0 : Nat) (x0 : At) (G0 : List Blk) => (VS G0 x0 (redL p (L.take i0)) ∧ Ext H G0), L.length, ⟨_, ⟨(VW.nil (m := 0) (Nat.zero_le _)).vs, Ext.app⟩, ⟨rfl, rfl, rfl, rfl, trivial⟩⟩, ?_⟩
 rintro i0 x0 G0 hi0 ⟨hV0, hE0⟩
 refine ⟨_, (hL).len, ?_⟩
 refine ⟨fun h11 => ?_, fun h11 => ?_⟩
 ·replace h11 := of_decide_eq_true h11
  obtain ⟨k18, o18, n18, c18, q18, ea18, hl18, hq18, r18, N18, f18, hk18, hN18, hf18⟩ := (hL.ext hE0).at i0 (by omega)
  refine ⟨k18, o18, n18, c18, i0, q18, ea18, rfl, hl18, hq18, ?_⟩
  refine ⟨_, _, _, _, _, hk18, ⟨by simp, hN18⟩, hf18, ?_⟩
  have hr := (redL_rr hp fun v h => hv v (List.mem_of_mem_take (i := i0) h)).1
  have hrl := hr.len
  refine ⟨_, s_l01Put_ok B E.2 (by omega) (by omega) hV0 hr.fs (by omega), ?_⟩
  rintro _ G20 ⟨b20, rfl, hE20, hV20⟩
  refine ⟨((i0 + 1 : Nat) : Int), w64_id _ (by omega) (by omega), ?_⟩
  refine ⟨by omega, _, ?_, ⟨rfl, rfl, rfl, rfl, trivial⟩⟩
  dsimp only
  rw [take_getD (by omega), redL_snoc]
  exact ⟨hV20, hE0.trans hE20⟩
 ·replace h11 := of_decide_eq_false h11
  have e0 : L.length = i0 := by omega
  subst e0
  exact ⟨rfl, x0, rfl, hE0, by rw [List.take_length] at hV0; exact hV0⟩

theorem nulP_take {R : List By} {i y : Nat} (h : i < R.length) : nulP (R.take (i + 1)) y = (nulP (R.take i) y || fst8 (R.getD i z0) == y) := by
 unfold nulP; rw [take_getD h, List.any_append]; simp
theorem s_l02Null_ok (B : Bs P ρ) (E : F_s_l02Null P ρ) {H : List Blk} {p : Int} {n : Nat} {a : At} {L : List By} (hp : Pr p) (hn : n ≤ 8) (hL : VS H a L) (hv : ∀ v ∈ L, Vp 8 p v) (hlen : L.length ≤ 1000000) :
  CallR P ρ 284 [.i .i64 p, .i .i64 (n : Int), a] H (fun u G => ∃ b, u = .one b ∧ Ext H G ∧ VS G b (kerL p n L)) := by
 have hp2 := hp.1
 have hp3 := hp.2.1
 have hrr := (redL_rr hp hv).1
 have hrl := hrr.len
 have hfs : ∀ i, i < (redL p L).length → fst8 ((redL p L).getD i z0) < 8 := fun i hi => hrr.fs _ (getD_mem hi)
 refine call_of_q B.fn B.mo E.1 rfl (fun hAr hHp => ?_) (by simp only [List.all_cons, List.all_nil, hL.lt]; rfl)
 refine ⟨_, s_l01Reduce_ok B E.2.1 hp hL hv hlen, ?_⟩
 rintro _ G16 ⟨b16, rfl, hE16, hV16⟩
 refine ⟨_, rfl, ?_⟩
 refine ⟨_, rfl, ?_⟩
 refine ⟨_, _, _, get_new, cputs_rw rfl rfl, eqBk_rfl, ?_⟩
 rw [app_set0]
 refine ⟨Unit, (fun a0 a1 a7 a8 a9 (i0 : Nat) (x0 : Unit) => [(0, a0), (1, a1), (7, a7), (8, a8), (9, a9), (10, .one (.i .i64 ((i0 : Nat) : Int)))]) _ _ _ _ _ , fun (i0 : Nat) (x0 : Unit) (G0 : List Blk) => (∃ l, G0 = G16 ++ [⟨false, .by [] (0 * 8) fun _ => 0⟩] ++ [⟨false, .rw l⟩] ∧ l.length = 8 ∧ ∀ y, y < 8 → l[y]? = some (.b (nulP ((redL p L).take i0) y))), (redL p L).length, ⟨(), ?_, ⟨rfl, rfl, rfl, rfl, rfl, rfl, trivial⟩⟩, ?_⟩
 ·refine ⟨_, rfl, rfl, fun y hy => ?_⟩
  have : y = 0 ∨ y = 1 ∨ y = 2 ∨ y = 3 ∨ y = 4 ∨ y = 5 ∨ y = 6 ∨ y = 7 := by omega
  rcases this with rfl | rfl | rfl | rfl | rfl | rfl | rfl | rfl <;> rfl
 rintro i0 _ G0 hi0 ⟨l, rfl, hl, hj⟩
 refine ⟨_, (hV16).len, ?_⟩
 refine ⟨fun h22 => ?_, fun h22 => ?_⟩
 ·replace h22 := of_decide_eq_true h22
  obtain ⟨k27, o27, n27, c27, q27, ea27, hl27, hq27, r27, N27, f27, hk27, hN27, hf27⟩ := (hV16.ext (Ext.app.trans Ext.app)).at i0 (by omega)
  refine ⟨k27, o27, n27, c27, i0, q27, ea27, rfl, hl27, hq27, ?_⟩
  refine ⟨_, _, _, _, _, hk27, ⟨by simp, hN27⟩, hf27, ?_⟩
  refine ⟨_, s_l01First_ok B E.2.2.1 , rfl, ?_⟩
  refine ⟨fst8 ((redL p L).getD i0 z0), _, rfl, hfs i0 (by omega), rfl, ?_⟩
  refine ⟨_, _, _, get_new, cput_rw (by have := hfs i0 (by omega); omega) rfl, eqBk_rfl, ?_⟩
  refine ⟨((i0 + 1 : Nat) : Int), w64_id _ (by omega) (by omega), ?_⟩
  refine ⟨by omega, (), ?_, ⟨rfl, rfl, rfl, rfl, rfl, rfl, trivial⟩⟩
  refine ⟨_, app_set0, by simpa using hl, fun y hy => ?_⟩
  rw [nulP_take (by omega), show 0 + fst8 ((redL p L).getD i0 z0) * 1 = fst8 ((redL p L).getD i0 z0) by omega]
  by_cases e : y = fst8 ((redL p L).getD i0 z0)
  ·subst e
   rw [List.getElem?_set_self (by have := hfs i0 (by omega); omega)]
   simp
  ·rw [List.getElem?_set_ne (Ne.symm e), hj y hy]
   have : (fst8 ((redL p L).getD i0 z0) == y) = false := by simpa using Ne.symm e
   rw [this, Bool.or_false]
 ·replace h22 := of_decide_eq_false h22
  have e0 : (redL p L).length = i0 := by omega
  subst e0
  rw [List.take_length] at hj
  refine ⟨At, (fun a0 a1 a7 a9 (i1 : Nat) (x1 : At) => [(0, a0), (1, a1), (7, a7), (8, .one x1), (9, a9), (11, .one (.i .i64 ((i1 : Nat) : Int)))]) _ _ _ _ , fun (i1 : Nat) (x1 : At) (G1 : List Blk) => (VF (G16.length + 2) G1 x1 (nulL p i1 (redL p L)) ∧ Ext (G16 ++ [⟨false, .by [] (0 * 8) fun _ => 0⟩] ++ [⟨false, .rw l⟩]) G1), n, ⟨_, ⟨VF.nil.ext Ext.app, Ext.refl⟩, ⟨rfl, rfl, rfl, rfl, rfl, rfl, trivial⟩⟩, ?_⟩
  rintro i1 x1 G1 hi1 ⟨hV1, hE1⟩
  have hb9 := hE1 _ _ get_new
  have hV16' := hV16.ext (Ext.app.trans (Ext.app.trans hE1))
  have hl16 := hE16.len
  have hl1 := hE1.len
  simp only [List.length_append, List.length_singleton] at hl1
  refine ⟨fun h33 => ?_, fun h33 => ?_⟩
  ·replace h33 := of_decide_eq_true h33
   refine ⟨i1, _, rfl, by omega, rfl, ?_⟩
   refine ⟨_, _, hb9, (by rw [show 0 + i1 * 1 = i1 by omega]; exact hj i1 (by omega)), ?_⟩
   refine ⟨fun h38 => ?_, fun h38 => ?_⟩
   ·skip
    have hsc := @nulL_succ p i1 (redL p L)
    rw [if_pos h38] at hsc
    refine ⟨((i1 + 1 : Nat) : Int), w64_id _ (by omega) (by omega), ?_⟩
    exact ⟨by omega, _, ⟨by rw [hsc]; exact hV1, hE1⟩, ⟨rfl, rfl, rfl, rfl, rfl, rfl, trivial⟩⟩
   ·skip
    have hsc := @nulL_succ p i1 (redL p L)
    rw [if_neg (by rw [h38]; simp)] at hsc
    refine ⟨_, s_l01Basis_ok B E.2.2.2.1 (by omega), rfl, ?_⟩
    refine ⟨_, rfl, ?_⟩
    refine ⟨_, _, _, get_new, cputs_by (by simp) (by omega), eqBk_rfl, ?_⟩
    rw [app_set0]
    refine ⟨Unit, (fun a0 a1 a7 a8 a9 a11 a12 (i2 : Nat) (x2 : Unit) => [(0, a0), (1, a1), (7, a7), (8, a8), (9, a9), (11, a11), (12, a12), (13, .one (.i .i64 ((i2 : Nat) : Int)))]) _ _ _ _ _ _ _ , fun (i2 : Nat) (x2 : Unit) (G2 : List Blk) => (∃ w, G2 = G1 ++ [⟨false, .by [] 8 w⟩] ∧ ∀ y, y < 8 → w y = (((redL p L).take i2).foldl (fun v r => upd v (fst8 r) (byt ((-(bz r i1)) % p))) (bas i1)) y), (redL p L).length, ⟨(), ⟨_, rfl, fun y hy => by simp [spl, hy]⟩, ⟨rfl, rfl, rfl, rfl, rfl, rfl, rfl, rfl, trivial⟩⟩, ?_⟩
    rintro i2 _ G2 hi2 ⟨w, rfl, hw⟩
    refine ⟨_, (hV16).len, ?_⟩
    refine ⟨fun h44 => ?_, fun h44 => ?_⟩
    ·replace h44 := of_decide_eq_true h44
     obtain ⟨k49, o49, n49, c49, q49, ea49, hl49, hq49, r49, N49, f49, hk49, hN49, hf49⟩ := (hV16'.ext Ext.app).at i2 (by omega)
     refine ⟨k49, o49, n49, c49, i2, q49, ea49, rfl, hl49, hq49, ?_⟩
     refine ⟨_, _, _, _, _, hk49, ⟨by simp, hN49⟩, hf49, ?_⟩
     refine ⟨_, s_l01First_ok B E.2.2.1 , rfl, ?_⟩
     obtain ⟨k56, o56, n56, c56, q56, ea56, hl56, hq56, r56, N56, f56, hk56, hN56, hf56⟩ := (hV16'.ext Ext.app).at i2 (by omega)
     refine ⟨k56, o56, n56, c56, i2, q56, ea56, rfl, hl56, hq56, ?_⟩
     refine ⟨i1, q56 + i1, rfl, by omega, by omega, ?_⟩
     refine ⟨_, .u ((redL p L).getD i2 z0 i1), hk56, (by rw [cat_u (by omega), ← hf56 i1 (by omega)]), ?_⟩
     have hxb := toNat_le ((redL p L).getD i2 z0 i1)
     refine ⟨_, w64_id _ (by omega) (by omega), ?_⟩
     refine ⟨_, s_l01Mod_ok B E.2.2.2.2 (by omega) (by omega), rfl, ?_⟩
     refine ⟨fst8 ((redL p L).getD i2 z0), _, rfl, hfs i2 (by omega), rfl, ?_⟩
     refine ⟨_, _, _, get_new, cput_u (by simp) (by have := hfs i2 (by omega); omega), eqBk_rfl, ?_⟩
     refine ⟨((i2 + 1 : Nat) : Int), w64_id _ (by omega) (by omega), ?_⟩
     refine ⟨by omega, (), ?_, ⟨rfl, rfl, rfl, rfl, rfl, rfl, rfl, rfl, trivial⟩⟩
     refine ⟨_, app_set0, fun y hy => ?_⟩
     rw [nulV_take (by omega), show 0 + fst8 ((redL p L).getD i2 z0) * 1 = fst8 ((redL p L).getD i2 z0) by omega]
     by_cases e : y = fst8 ((redL p L).getD i2 z0)
     ·subst e
      rw [upd_same, upd_same]; rfl
     ·rw [upd_ne _ _ _ _ e, upd_ne _ _ _ _ e, hw y hy]
    ·replace h44 := of_decide_eq_false h44
     have e2 : (redL p L).length = i2 := by omega
     subst e2
     refine ⟨_, _, _, _, nulV p (redL p L) i1, get_new, ⟨by simp, by omega⟩, fun x hx => ?_, ?_⟩
     ·rw [Nat.zero_add, hw x hx, List.take_length]; rfl
     refine ⟨_, rfl, ?_⟩
     refine ⟨_, vf_app ((hV1.ext Ext.app).ext Ext.app) VS.one (by have := @nulL_len p (redL p L) i1; omega) (by simp; omega), ?_⟩
     rintro a66 G66 ⟨hv66, hu66⟩
     refine ⟨((i1 + 1 : Nat) : Int), w64_id _ (by omega) (by omega), ?_⟩
     refine ⟨by omega, _, ?_, ⟨rfl, rfl, rfl, rfl, rfl, rfl, trivial⟩⟩
     dsimp only
     rw [hsc]
     exact ⟨hv66, Upto.ext (hE1.trans (Ext.app.trans Ext.app)) hu66 (by simp)⟩
  ·replace h33 := of_decide_eq_false h33
   have e1 : n = i1 := by omega
   subst e1
   refine ⟨_, s_l01Reduce_ok B E.2.1 hp hV1.vs (nulL_vp (by omega) (by omega) hn hrr.fs) (by have := @nulL_len p (redL p L) n; omega), ?_⟩
   rintro _ G69 ⟨b69, rfl, hE69, hV69⟩
   exact ⟨rfl, b69, rfl, hE16.trans (Ext.app.trans (Ext.app.trans (hE1.trans hE69))), hV69⟩


end Hf
namespace Hf
open Go Classical
variable {P : Program} {ρ : Nat → FuncId}
theorem all_getD {L : List By} {q : By → Prop} : (∀ v ∈ L, q v) ↔ ∀ i, i < L.length → q (L.getD i z0) :=
 ⟨fun h i hi => h _ (getD_mem hi), fun h v hv => by
  obtain ⟨i, hi, rfl⟩ := List.mem_iff_getElem.1 hv
  have := h i hi
  rwa [List.getD_eq_getElem?_getD, List.getElem?_eq_getElem hi] at this⟩
-- left out: i_Module_vectorsCode_1
-- left out: i_Module_vectorsCode
theorem redL_vp {p : Int} {d : Nat} {L : List By} (hp : Pr p) (hd : d ≤ 8) (h : ∀ v ∈ L, Vp d p v) : ∀ v ∈ redL p L, Vp d p v := by
 intro v hv
 have h2 := hp.1
 have h3 := hp.2.1
 obtain ⟨r1, r2⟩ := redL_rr hp fun v hv => (h v hv).mono hd
 have q : Sp' 8 p L v := (r2 v).1 (.mem (by omega) (by omega) hv (r1.vp v hv))
 exact (q.w1 (by omega) (by omega) hd h).vp (by omega) (by omega)
end Hf
namespace Hf
open Go Classical
section
variable {p : Int} {n d : Nat} {g f : By}
end
theorem nodup_sub : ∀ {A B : List Nat}, A.Nodup → (∀ x ∈ A, x ∈ B) → A.length ≤ B.length ∧ (A.length = B.length → ∀ x ∈ B, x ∈ A)
  | [], B, _, _ => ⟨Nat.zero_le _, fun h x hx => by
    have : B = [] := List.length_eq_zero_iff.1 h.symm
    subst this; cases hx⟩
  | a :: A, B, hn, hs => by
    obtain ⟨h1, h2⟩ := List.nodup_cons.1 hn
    have ha : a ∈ B := hs a (by simp)
    have hle := List.length_erase_of_mem ha
    have hpos : 0 < B.length := List.length_pos_of_mem ha
    obtain ⟨q1, q2⟩ := nodup_sub (A := A) (B := B.erase a) h2 fun x hx => (List.mem_erase_of_ne (by rintro rfl; exact h1 hx)).2 (hs x (by simp [hx]))
    refine ⟨by simp only [List.length_cons]; omega, fun h x hx => ?_⟩
    by_cases e : x = a
    · subst e; simp
    · exact List.mem_cons_of_mem _ (q2 (by simp only [List.length_cons] at h; omega) x ((List.mem_erase_of_ne e).2 hx))
section
variable {p : Int}
/-- a space of the same size that lies in another one -/
theorem RR.same (hp1 : 1 ≤ p) (hp2 : p ≤ 256) {A B : List By} (hA : RR 8 p A) (hB : RR 8 p B) (h : ∀ u ∈ A, Sp' 8 p B u) : A.length ≤ B.length ∧ (A.length = B.length → SpE 8 p A B) := by
 have nA : (A.map (fstW 8)).Nodup := by
  rw [List.nodup_iff_pairwise_ne, List.pairwise_map]
  exact hA.sorted.imp fun h => Nat.ne_of_lt h
 have sub : ∀ x ∈ A.map (fstW 8), x ∈ B.map (fstW 8) := by
  intro x hx
  obtain ⟨u, hu, rfl⟩ := List.mem_map.1 hx
  obtain ⟨b, hb, e⟩ := hB.lead hp1 hp2 (h u hu) (hA.nz hu)
  exact List.mem_map.2 ⟨b, hb, e⟩
 obtain ⟨q1, q2⟩ := nodup_sub nA sub
 simp only [List.length_map] at q1 q2
 refine ⟨q1, fun e => SpE.of hp1 hp2 h fun b hb => ?_⟩
 have hbv := hB.vp b hb
 refine (hA.in_iff hp1 hp2 hbv).2 ?_
 apply Classical.byContradiction
 intro hn
 obtain ⟨s, m1, m2, m3⟩ := byW_sp hp1 hp2 (L := A) (M := A) (v := b) (fun _ h => h) hbv
 have hr : Sp' 8 p B (byW 8 p b A) := by
  rw [m3]
  exact (Sp'.mem hp1 hp2 hb hbv).add hp1 hp2 (m1.sub hp1 hp2 h)
 obtain ⟨c, hc, e2⟩ := hB.lead hp1 hp2 hr hn
 have hcA := q2 e _ (List.mem_map.2 ⟨c, hc, rfl⟩)
 obtain ⟨a, ha, e3⟩ := List.mem_map.1 hcA
 have h0 := hA.left hp1 hp2 hbv a ha
 have hl : fstW 8 (byW 8 p b A) < 8 := by rw [← e2, ← e3]; exact hA.fs a ha
 have := fstW_ne (W := 8) hl
 rw [e3, e2] at h0
 exact this h0
end
end Hf
namespace Hf
open Go Classical
section
variable {W : Nat} {p : Int}
theorem Sp'.at0 (hp : 1 ≤ p) (hp2 : p ≤ 256) {L : List By} {y : Nat} (h : ∀ r ∈ L, r y = 0) {v : By} (hv : Sp' W p L v) : v y = 0 := by
  induction hv with
  | z => rfl
  | a q1 q2 ih =>
    rename_i u w k
    by_cases hy : y < W
    · refine bz_eq0.1 ?_
      rw [bz_add hp hp2 hy, bz_eq0.2 ih, bz_eq0.2 (h _ q2)]; simp
    · exact (Vp.add hp hp2).2 y (by omega)
theorem add_add (hp : 1 ≤ p) (hp2 : p ≤ 256) {u e : By} {a b : Int} : addW W p (addW W p u e a) e b = addW W p u e (a + b) := by
 refine (Vp.add hp hp2).ext (Vp.add hp hp2) fun x hx => ?_
 refine (cg_add' hp hp2 hx).trans ?_
 refine (cg_add (cg_add' hp hp2 hx) cg.rfl').trans ?_
 refine cg.trans ?_ (cg_add' hp hp2 hx).symm
 exact cg_of_eq (by grind)
theorem sp_cons (hp : 1 ≤ p) (hp2 : p ≤ 256) {e : By} {E : List By} {v : By} (h : Sp' W p (e :: E) v) : ∃ u k, Sp' W p E u ∧ v = addW W p u e k := by
  induction h with
  | z => exact ⟨z0, 0, .z, (add_0 hp hp2 (Vp.z hp)).symm⟩
  | a q1 q2 ih =>
    rename_i u w k
    obtain ⟨u', k', hu', rfl⟩ := ih
    rcases List.mem_cons.1 q2 with rfl | q2
    · exact ⟨u', k' + k, hu', add_add hp hp2⟩
    · exact ⟨addW W p u' w k, k', .a hu' q2, add_comm' hp hp2⟩
end
end Hf
namespace Hf
open Go Classical
variable {P : Program} {ρ : Nat → FuncId}
theorem rdR_fr {l : List Nat} {H H' : List Blk} {a : At} {L : List At} (h : rdR H a L) (e : Fr l H H') (hn : ∀ k ∈ spB a, k ∉ l) : rdR H' a L := by
  cases a with
  | sl k o m c =>
    obtain ⟨r, q, hk, h1, h2⟩ := h
    exact ⟨r, q, e _ _ (hn k (by simp [spB])) hk, h1, h2⟩
  | sn => exact h
  | _ => exact h.elim
end Hf
namespace Hf
open Go Classical
variable {P : Program} {ρ : Nat → FuncId}
theorem addN {x y : Nat} (h : x + y ≤ 1000000) : w64 ((x : Int) + (y : Int)) = ((x + y : Nat) : Int) := by
 rw [← Int.natCast_add]; exact w64_id _ (by omega) (by omega)
theorem cat_bq {hd : List Int} {N x : Nat} {f : By} (q : Nat) (e : x = q) (h1 : hd.length ≤ q) (h2 : q < N) : cat (.by hd N f) x = some (.u (f q)) := by
 subst e
 simp only [cat]
 rw [if_pos h2, List.getElem?_eq_none h1]
end Hf
namespace Hf
open Go Classical
variable {P : Program} {ρ : Nat → FuncId}
/-- the code, as it lies in the blocks -/
def CB (H : List Blk) (a : At) : Prop := a = .sn ∨ ∃ k off len cap r cs fz, a = .sl k off len cap ∧ H[k]? = some ⟨r, .fo cs fz⟩ ∧ len ≤ 4096 ∧ ∀ y, y < len → ∃ u : UInt8, cs[off + y]? = some (.int .u8 (u.toNat : Int))
theorem CB.len {H : List Blk} {a : At} (h : CB H a) : ∃ n, lenA a = some n ∧ n ≤ 4096 := by
 rcases h with rfl | ⟨k, off, len, cap, r, cs, fz, rfl, -, h, -⟩
 ·exact ⟨0, rfl, by omega⟩
 ·exact ⟨len, rfl, h⟩
theorem CB.at {H : List Blk} {a : At} {n : Nat} (h : CB H a) (hn : lenA a = some n) (y : Nat) (hy : y < n) : ∃ k off len cap B u, a = .sl k off len cap ∧ y < len ∧ H[k]? = some B ∧ cat B.c (off + y * 1) = some (.u u) := by
 rcases h with rfl | ⟨k, off, len, cap, r, cs, fz, rfl, h1, -, h2⟩
 ·simp [lenA] at hn; omega
 ·have hn : len = n := by simpa [lenA] using hn
  subst hn
  obtain ⟨u, hu⟩ := h2 y hy
  refine ⟨k, off, len, cap, _, u, rfl, hy, h1, ?_⟩
  have hle := toNat_le u
  simp only [cat, Nat.mul_one, hu]
  rw [if_pos ⟨by omega, by omega⟩]
  have e : byt (u.toNat : Int) = u := by
   apply UInt8.toNat_inj.1
   have := byt_toNat (u.toNat : Int)
   omega
  rw [e]
theorem CB.ext {H G : List Blk} {a : At} (h : CB H a) (e : Ext H G) : CB G a := by
 rcases h with rfl | ⟨k, off, len, cap, r, cs, fz, rfl, h1, h2⟩
 ·exact .inl rfl
 ·exact .inr ⟨k, off, len, cap, r, cs, fz, rfl, e _ _ h1, h2⟩
theorem CB.lt {H : List Blk} {a : At} (h : CB H a) : a.lt H.length = true := by
 rcases h with rfl | ⟨k, off, len, cap, r, cs, fz, rfl, h1, -⟩
 ·rfl
 ·simp [At.lt, lt_of h1]
theorem CB.cell {H : List Blk} {a : At} (h : CB H a) : a.cell1 = true := by
 rcases h with rfl | ⟨k, off, len, cap, r, cs, fz, rfl, -⟩ <;> rfl
/-- a block that is none of the input's -/
def own : Bk → Bool
  | .fo _ _ => false
  | _ => true
theorem CB.set {H : List Blk} {a : At} {k : Nat} {A B : Blk} (h : CB H a) (hk : H[k]? = some A) (ho : own A.c = true) : CB (H.set k B) a := by
 rcases h with rfl | ⟨j, off, len, cap, r, cs, fz, rfl, h1, h2⟩
 ·exact .inl rfl
 ·refine .inr ⟨j, off, len, cap, r, cs, fz, rfl, set_other h1 ?_, h2⟩
  intro q; subst q
  rw [hk] at h1; cases h1; cases ho
/-- a source of numbers lies in block s -/
def Src (H : List Blk) (s : Nat) : Prop := ∃ (code : At) (j : Nat) (h : Int), H[s]? = some ⟨false, .rw [code, .i .i64 (j : Int), .i .u64 h]⟩ ∧ CB H code ∧ j ≤ 4096
theorem Src.lt {H : List Blk} {s : Nat} (h : Src H s) : s < H.length := by
 obtain ⟨c, j, k, h, -⟩ := h; exact lt_of h
theorem Src.ext {H G : List Blk} {s : Nat} (h : Src H s) (e : Ext H G) : Src G s := by
 obtain ⟨c, j, k, h1, h2, h3⟩ := h; exact ⟨c, j, k, e _ _ h1, h2.ext e, h3⟩
theorem Src.set {H : List Blk} {s k : Nat} {A B : Blk} (h : Src H s) (hk : H[k]? = some A) (ho : own A.c = true) (hn : s ≠ k) : Src (H.set k B) s := by
 obtain ⟨c, j, x, h1, h2, h3⟩ := h; exact ⟨c, j, x, set_other h1 (Ne.symm hn), h2.set hk ho, h3⟩
theorem src_upd {H : List Blk} {s : Nat} {A : Blk} {code : At} {j : Nat} {x : Int} (hs : H[s]? = some A) (ho : own A.c = true) (hc : CB H code) (hj : j ≤ 4096) :
  Fr [s] H (H.set s ⟨false, .rw [code, .i .i64 (j : Int), .i .u64 x]⟩) ∧ Src (H.set s ⟨false, .rw [code, .i .i64 (j : Int), .i .u64 x]⟩) s :=
 ⟨fun k B hk e => set_other e (by intro q; subst q; exact hk (by simp)), code, j, x, set_same hs, hc.set hs ho, hj⟩
theorem Fr.len {s : Nat} {H G : List Blk} (h : Fr [s] H G) (hs : s < G.length) : H.length ≤ G.length := by
 rcases Nat.lt_or_ge (s + 1) H.length with q | q
 ·have := h (H.length - 1) H[H.length - 1] (by simp; omega) (by simp [show H.length - 1 < H.length by omega])
  have := lt_of this
  omega
 ·omega
theorem Fr.get {s k : Nat} {H G : List Blk} {B : Blk} (h : Fr [s] H G) (hk : H[k]? = some B) (hn : k ≠ s) : G[k]? = some B := h k B (by simpa using hn) hk
theorem and_bd {m : Int} : 0 ≤ IntKind.u64.wrap ((BitVec.ofInt 64 m &&& BitVec.ofInt 64 16777215).toNat : Int) ∧ IntKind.u64.wrap ((BitVec.ofInt 64 m &&& BitVec.ofInt 64 16777215).toNat : Int) ≤ 16777215 := by
 have h : (BitVec.ofInt 64 m &&& BitVec.ofInt 64 16777215).toNat ≤ 16777215 := by
  rw [BitVec.toNat_and]
  exact Nat.le_trans Nat.and_le_right (by decide)
 generalize (BitVec.ofInt 64 m &&& BitVec.ofInt 64 16777215).toNat = x at h
 simp [IntKind.wrap, IntKind.bits, IntKind.signed]
 omega
theorem tmod_bd {x n : Int} (hx : 0 ≤ x) (hn : ¬ n < 1) : 0 ≤ x.tmod n ∧ x.tmod n < n := ⟨Int.tmod_nonneg n hx, Int.tmod_lt_of_pos x (by omega)⟩
theorem l_big_ok (B : Bs P ρ) (E : F_l_big P ρ) {H : List Blk} {a : At} {n : Nat} (hn : lenA a = some n) (hlt : a.lt H.length = true) :
  CallR P ρ 176 [a] H (fun u G => u = .one (.b (decide ((n : Int) > 4096))) ∧ G = H) := by
 refine call_of_q B.fn B.mo E rfl (fun hAr hHp => ?_) (by simp only [List.all_cons, List.all_nil, hlt]; rfl)
 refine ⟨n, hn, ?_⟩
 exact ⟨rfl, rfl, rfl⟩

theorem s_l01From_ok (B : Bs P ρ) (E : F_s_l01From P ρ) {H : List Blk} {a : At} (hC : CB H a) :
  CallR P ρ 186 [a] H (fun u G => u = .one (.pt H.length 0) ∧ Ext H G ∧ Src G H.length) := by
 obtain ⟨n, hn, hn2⟩ := hC.len
 refine call_of_q B.fn B.mo E rfl (fun hAr hHp => ?_) (by simp only [List.all_cons, List.all_nil, hC.lt]; rfl)
 refine ⟨n, hn, ?_⟩
 refine ⟨_, rfl, ?_⟩
 refine ⟨_, rfl, ?_⟩
 refine ⟨hC.cell, rfl, ?_⟩
 refine ⟨_, rfl, by show (a.cell1 && _) = true; rw [hC.cell]; rfl, ?_⟩
 refine ⟨Unit, (fun a0 (i0 : Nat) (x0 : Unit) => [(0, a0), (3, .one (.pt H.length 0)), (4, .one (.i .i64 ((i0 : Nat) : Int)))]) _ , fun (i0 : Nat) (x0 : Unit) (G0 : List Blk) => (∃ h : Int, G0 = H ++ [⟨false, .rw [a, .i .i64 ((0 : Nat) : Int), .i .u64 h]⟩]), n, ⟨(), ⟨_, rfl⟩, ⟨rfl, rfl, rfl, trivial⟩⟩, ?_⟩
 rintro i0 _ G0 hi0 ⟨h, rfl⟩
 refine ⟨n, hn, ?_⟩
 refine ⟨fun h16 => ?_, fun h16 => ?_⟩
 ·replace h16 := of_decide_eq_true h16
  iterate 2 refine brB_t ?_
  refine ⟨fun h19 => ?_, fun h19 => ?_⟩
  ·replace h19 := of_decide_eq_true h19
   refine ⟨_, _, get_new, rfl, ?_⟩
   refine ⟨_, rfl, ?_⟩
   have hcat := (hC.ext (Ext.app (G := [⟨false, .rw [a, .i .i64 ((0 : Nat) : Int), .i .u64 h]⟩]))).at hn i0 (by omega)
   obtain ⟨k, off, len, cap, B0, u, ea, hl, hk, hu⟩ := hcat
   refine ⟨k, off, len, cap, i0, _, ea, rfl, hl, rfl, ?_⟩
   refine ⟨_, _, hk, hu, ?_⟩
   refine ⟨_, rfl, ?_⟩
   refine ⟨_, rfl, ?_⟩
   refine ⟨_, _, _, get_new, cput_rw (by simp) rfl, eqBk_rfl, ?_⟩
   refine ⟨((i0 + 1 : Nat) : Int), w64_id _ (by omega) (by omega), ?_⟩
   exact ⟨by omega, (), ⟨_, app_set0⟩, ⟨rfl, rfl, rfl, trivial⟩⟩
  ·replace h19 := of_decide_eq_false h19
   refine ⟨rfl, rfl, Ext.app, a, 0, h, get_new, hC.ext Ext.app, by omega⟩
 ·replace h16 := of_decide_eq_false h16
  iterate 3 refine brB_f ?_
  refine ⟨rfl, rfl, Ext.app, a, 0, h, get_new, hC.ext Ext.app, by omega⟩

theorem s_l01Next_ok (B : Bs P ρ) (E : F_s_l01Next P ρ) {H : List Blk} {s : Nat} {n : Int} (hS : Src H s) :
  CallR P ρ 195 [.pt s 0, .i .i64 n] H (fun u G => ∃ z : Int, u = .one (.i .i64 z) ∧ (0 ≤ z ∧ (n < 1 → z = 0) ∧ (1 ≤ n → z < n)) ∧ Fr [s] H G ∧ Src G s) := by
 have hS2 := hS
 obtain ⟨code, j, h, hs, hC, hj⟩ := hS
 obtain ⟨m, hm, hm2⟩ := hC.len
 refine call_of_q B.fn B.mo E rfl (fun hAr hHp => ?_) (by simp [At.lt, hS2.lt])
 refine ⟨fun h7 => ?_, fun h7 => ?_⟩
 ·replace h7 := of_decide_eq_true h7
  exact ⟨rfl, 0, rfl, ⟨by omega, fun _ => rfl, fun q => by omega⟩, Fr.refl, hS2⟩
 ·replace h7 := of_decide_eq_false h7
  refine ⟨_, _, hs, rfl, ?_⟩
  refine ⟨_, rfl, ?_⟩
  refine ⟨_, rfl, ?_⟩
  refine ⟨_, _, _, hs, cput_rw (by simp) rfl, eqBk_rfl, ?_⟩
  refine ⟨_, _, set_same hs, rfl, ?_⟩
  refine ⟨_, rfl, ?_⟩
  refine ⟨_, rfl, ?_⟩
  have hb := @and_bd ((IntKind.u64.wrap (IntKind.u64.wrap (h * 6364136223846793005) + 1442695040888963407)).fdiv (2 ^ (min (33 : Int).toNat 64)))
  refine ⟨_, w64_id _ (by exact Int.le_trans (by decide) hb.1) (by exact Int.le_trans hb.2 (by decide)), ?_⟩
  refine ⟨_, _, set_same hs, rfl, ?_⟩
  refine ⟨_, _, set_same hs, rfl, ?_⟩
  refine ⟨m, hm, ?_⟩
  refine ⟨fun h33 => ?_, fun h33 => ?_⟩
  ·replace h33 := of_decide_eq_true h33
   refine ⟨_, _, set_same hs, rfl, ?_⟩
   refine ⟨_, _, set_same hs, rfl, ?_⟩
   have hcat := (hC.set (B := ⟨false, .rw [code, .i .i64 (j : Int), .i .u64 (IntKind.u64.wrap (IntKind.u64.wrap (h * 6364136223846793005) + 1442695040888963407))]⟩) hs rfl).at hm j (by omega)
   obtain ⟨k, off, len, cap, B0, u, ea, hl, hk, hu⟩ := hcat
   have hule := toNat_le u
   refine ⟨k, off, len, cap, j, _, ea, rfl, hl, rfl, ?_⟩
   refine ⟨_, _, hk, hu, ?_⟩
   refine ⟨_, w64_id _ (by have := hb.1; omega) (by have := hb.2; omega), ?_⟩
   refine ⟨_, _, set_same hs, rfl, ?_⟩
   refine ⟨((j + 1 : Nat) : Int), w64_id _ (by omega) (by omega), ?_⟩
   refine ⟨_, _, _, set_same hs, cput_rw (by simp) rfl, eqBk_rfl, ?_⟩
   refine ⟨by omega, _, rfl, ?_⟩
   have ht := tmod_bd (n := n) (x := IntKind.u64.wrap ((BitVec.ofInt 64 ((IntKind.u64.wrap (IntKind.u64.wrap (h * 6364136223846793005) + 1442695040888963407)).fdiv (2 ^ (min (33 : Int).toNat 64))) &&& BitVec.ofInt 64 16777215).toNat : Int) + (u.toNat : Int)) (by have := hb.1; omega) h7
   rw [List.set_set]
   exact ⟨rfl, _, rfl, ⟨ht.1, fun q => absurd q h7, fun _ => ht.2⟩, src_upd hs rfl hC (by omega)⟩
  ·replace h33 := of_decide_eq_false h33
   refine ⟨by omega, _, rfl, ?_⟩
   have ht := tmod_bd (n := n) hb.1 h7
   exact ⟨rfl, _, rfl, ⟨ht.1, fun q => absurd q h7, fun _ => ht.2⟩, src_upd hs rfl hC hj⟩


end Hf
namespace Hf
open Go Classical
theorem VS.fr {l : List Nat} {H H' : List Blk} {a : At} {L : List By} (h : VS H a L) (e : Fr l H H') (hn : ∀ k ∈ spB a, k ∉ l) : VS H' a L := by
 rcases h with h | ⟨k, off, cap, r, N, f, rfl, h2, h3, h4⟩
 ·exact .inl h
 ·exact .inr ⟨k, off, cap, r, N, f, rfl, e _ _ (hn k (by simp [spB])) h2, h3, h4⟩
theorem VW.fr {m : Nat} {l : List Nat} {H H' : List Blk} {a : At} {L : List By} (h : VW m H a L) (e : Fr l H H') (hn : blkOf a ∉ l) : VW m H' a L := by
 obtain ⟨k, off, cap, N, f, rfl, h2, h3, h4⟩ := h
 exact ⟨k, off, cap, N, f, rfl, e _ _ hn h2, h3, h4⟩
theorem VW.lt {m : Nat} {H : List Blk} {a : At} {L : List By} (h : VW m H a L) : blkOf a < H.length := by
 obtain ⟨k, off, cap, N, f, rfl, h2, h3, h4⟩ := h
 exact lt_of h2
theorem VW.sp {m : Nat} {H : List Blk} {a : At} {L : List By} (h : VW m H a L) : spB a = [blkOf a] := by
 obtain ⟨k, off, cap, N, f, rfl, h2, h3, h4⟩ := h
 rfl
theorem get_new1 {G : List Blk} {A B : Blk} : (G ++ [A] ++ [B])[G.length + 1]? = some B := by simp
/-- an append of many changes its own block alone -/
theorem vw_appF {m : Nat} {H : List Blk} {a b : At} {L M : List By} (hL : VW m H a L) (hM : VS H b M) (hb : L.length + M.length ≤ 1000000000) (hm : m ≤ H.length) :
  apB 8 8 H a b fun a' H' => VW m H' a' (L ++ M) ∧ Fr [blkOf a] H H' ∧ (blkOf a' = blkOf a ∨ blkOf a' = H.length) ∧ H.length ≤ H'.length := by
 obtain ⟨k, off, cap, N, f, e, hk, ⟨h1, h2, h3⟩, hf⟩ := hL
 have := vw_app (m := m) (L := L) (M := M) ⟨k, off, cap, N, f, e, hk, ⟨h1, h2, h3⟩, hf⟩ hM hb hm
 subst e
 obtain ⟨mm, g, N', f', q1, q2, q3, q4, q5⟩ := this
 refine ⟨mm, g, N', f', q1, q2, q3, fun hc => ⟨(q4 hc).1, fun j B hj e => set_other e (by intro q; subst q; exact hj (by simp [blkOf])), .inl rfl, by simp⟩, fun hc cap' hc' => ⟨(q5 hc cap' hc').1, fun j B hj e => app_old e, .inr rfl, by simp⟩⟩
theorem Fr.up {m k : Nat} {H H' : List Blk} (h : Fr [k] H H') (hk : m ≤ k) : Upto m H H' := h.upto fun j hj => by simp at hj; omega
theorem VW.ge {m : Nat} {H : List Blk} {a : At} {L : List By} (h : VW m H a L) : m ≤ blkOf a := by
 obtain ⟨k, off, cap, N, f, rfl, h2, h3, h4⟩ := h
 exact h3.2.2
end Hf
namespace Hf
open Go Classical
variable {P : Program} {ρ : Nat → FuncId}
theorem tmodN {x n : Nat} : ((x : Int)).tmod (n : Int) = ((x % n : Nat) : Int) := by
 rw [Int.tmod_eq_emod_of_nonneg (by omega)]; rfl
theorem Fr.set {s k : Nat} {H G : List Blk} {B : Blk} (h : Fr [s] H G) (hk : H.length ≤ k) : Fr [s] H (G.set k B) := fun j A hj e => by
 have := lt_of e
 exact set_other (h j A hj e) (by omega)
theorem VI.fr {l : List Nat} {H H' : List Blk} {a : At} {L : List Int} (h : VI H a L) (e : Fr l H H') (hn : ∀ k ∈ spB a, k ∉ l) : VI H' a L := rdR_fr h e hn
theorem s_l01Pick_ok (B : Bs P ρ) (E : F_s_l01Pick P ρ) {H : List Blk} {s : Nat} {a : At} {L : List Int} (hS : Src H s) (hV : VI H a L) (hlt : a.lt H.length = true) (hd : ∀ k ∈ spB a, k ≠ s) (hL : 0 < L.length) :
  CallR P ρ 205 [.pt s 0, a] H (fun u G => ∃ z : Int, z ∈ L ∧ u = .one (.i .i64 z) ∧ Fr [s] H G ∧ Src G s) := by
 refine call_of_q B.fn B.mo E.1 rfl (fun hAr hHp => ?_) (by simp only [List.all_cons, List.all_nil, hlt]; simp [At.lt, hS.lt])
 refine ⟨_, (hV).len, ?_⟩
 refine ⟨_, s_l01Next_ok B E.2 hS, ?_⟩
 rintro _ G9 ⟨z, rfl, hz, hf, hS9⟩
 obtain ⟨x, rfl⟩ : ∃ x : Nat, z = (x : Int) := ⟨z.toNat, by have := hz.1; omega⟩
 have hx : x < L.length := by have := hz.2.2 (by omega); omega
 have hVG := hV.fr hf (by simpa using hd)
 obtain ⟨k10, o10, n10, c10, q10, ea10, hl10, hq10, r10, l10, hk10, hi10⟩ := VI.at (hVG) x (by omega)
 refine ⟨k10, o10, n10, c10, x, q10, ea10, rfl, hl10, hq10, ?_⟩
 refine ⟨_, _, hk10, hi10, ?_⟩
 exact ⟨rfl, L.getD x 0, by rw [List.getD_eq_getElem?_getD, List.getElem?_eq_getElem hx]; exact List.getElem_mem hx, rfl, hf, hS9⟩

theorem s_l01DrawPrime_ok (B : Bs P ρ) (E : F_s_l01DrawPrime P ρ) {H : List Blk} {s : Nat} (hS : Src H s) :
  CallR P ρ 206 [.pt s 0] H (fun u G => ∃ z : Int, (2 ≤ z ∧ z ≤ 31) ∧ u = .one (.i .i64 z) ∧ Fr [s] H G ∧ Src G s) := by
 have hsl := hS.lt
 refine call_of_q B.fn B.mo E.1 rfl (fun hAr hHp => ?_) (by simp [At.lt, hS.lt])
 refine ⟨_, rfl, ?_⟩
 refine ⟨_, s_l01Pick_ok B E.2 (L := [2, 2, 3, 3, 5, 5, 7, 11, 31]) (hS.ext Ext.app) ⟨false, _, get_new, by simp, rfl⟩ (by simp [At.lt]) (by simp [spB]; omega) (by simp), ?_⟩
 rintro _ G5 ⟨z, hz, rfl, hf, hS5⟩
 exact ⟨rfl, z, by simp at hz; omega, rfl, (Ext.app.fr).trans hf, hS5⟩

theorem s_l01DrawVector_ok (B : Bs P ρ) (E : F_s_l01DrawVector P ρ) {H : List Blk} {s : Nat} {p n : Int} (hS : Src H s) :
  CallR P ρ 198 [.pt s 0, .i .i64 p, .i .i64 n] H (fun u G => ∃ f : By, u = .one (.ag [] 8 f) ∧ Fr [s] H G ∧ Src G s) := by
 have hsl := hS.lt
 refine call_of_q B.fn B.mo E.1 rfl (fun hAr hHp => ?_) (by simp [At.lt, hS.lt])
 refine ⟨_, rfl, ?_⟩
 refine ⟨H.length + 1, by simp, ?_⟩
 refine ⟨_, _, _, get_new1, cputs_by (by simp) (by omega), eqBk_rfl, ?_⟩
 refine ⟨Unit, (fun a0 a1 a2 a6 a7 (i0 : Nat) (x0 : Unit) => [(0, a0), (1, a1), (2, a2), (6, a6), (7, a7), (8, .one (.i .i64 ((i0 : Nat) : Int)))]) _ _ _ _ _ , fun (i0 : Nat) (x0 : Unit) (G0 : List Blk) => (Fr [s] H G0 ∧ Src G0 s ∧ (∃ f : By, G0[H.length + 1]? = some ⟨false, .by [] 8 f⟩) ∧ ∃ f : By, G0[H.length]? = some ⟨false, .by [] 8 f⟩), 8, ⟨(), ⟨(Ext.app.trans Ext.app).fr.set (Nat.le_succ _), ((hS.ext Ext.app).ext Ext.app).set get_new1 rfl (by omega), ⟨_, set_same get_new1⟩, ⟨_, set_other (app_old get_new) (by omega)⟩⟩, ⟨rfl, rfl, rfl, rfl, rfl, rfl, trivial⟩⟩, ?_⟩
 rintro i0 _ G0 hi0 ⟨hF0, hS0, ⟨f, hk0⟩, f0, hm0⟩
 refine ⟨fun h13 => ?_, fun h13 => ?_⟩
 ·replace h13 := of_decide_eq_true h13
  iterate 2 refine brB_t ?_
  refine ⟨fun h16 => ?_, fun h16 => ?_⟩
  ·replace h16 := of_decide_eq_true h16
   refine ⟨_, s_l01Next_ok B E.2 hS0, ?_⟩
   rintro _ G20 ⟨z, rfl, hz, hf20, hS20⟩
   refine ⟨fun h21 => ?_, fun h21 => ?_⟩
   ·replace h21 := eq_of_beq h21
    refine ⟨_, rfl, ?_⟩
    refine ⟨_, rfl, ?_⟩
    refine ⟨_, s_l01Next_ok B E.2 hS20, ?_⟩
    rintro _ G27 ⟨z27, rfl, hz27, hf27, hS27⟩
    refine ⟨i0, _, rfl, by omega, rfl, ?_⟩
    have hk27 := hf27.get (hf20.get hk0 (by omega)) (by omega)
    have hm27 := hf27.get (hf20.get hm0 (by omega)) (by omega)
    refine ⟨_, _, _, hk27, cput_u (by simp) (by omega), eqBk_rfl, ?_⟩
    refine ⟨((i0 + 1 : Nat) : Int), w64_id _ (by omega) (by omega), ?_⟩
    exact ⟨by omega, (), ⟨((hF0.trans hf20).trans hf27).set (Nat.le_succ _), hS27.set hk27 rfl (by omega), ⟨_, set_same hk27⟩, _, set_other hm27 (by omega)⟩, ⟨rfl, rfl, rfl, rfl, rfl, rfl, trivial⟩⟩
   ·replace h21 := ne_of_beq_false h21
    refine ⟨((i0 + 1 : Nat) : Int), w64_id _ (by omega) (by omega), ?_⟩
    exact ⟨by omega, (), ⟨hF0.trans hf20, hS20, ⟨_, hf20.get hk0 (by omega)⟩, _, hf20.get hm0 (by omega)⟩, ⟨rfl, rfl, rfl, rfl, rfl, rfl, trivial⟩⟩
  ·replace h16 := of_decide_eq_false h16
   refine ⟨_, _, _, _, _, hk0, ⟨by simp, by omega⟩, fun x _ => congrArg _ (Nat.zero_add x).symm, ?_⟩
   refine ⟨_, _, _, hm0, cputs_by (by simp) (by omega), eqBk_rfl, ?_⟩
   exact ⟨rfl, false, [], 8, _, f, set_same hm0, ⟨by simp, by omega⟩, fun x hx => by simp [spl, hx], ⟨f, rfl, hF0.set (Nat.le_refl _), hS0.set hm0 rfl (by omega)⟩⟩
 ·replace h13 := of_decide_eq_false h13
  iterate 3 refine brB_f ?_
  refine ⟨_, _, _, _, _, hk0, ⟨by simp, by omega⟩, fun x _ => congrArg _ (Nat.zero_add x).symm, ?_⟩
  refine ⟨_, _, _, hm0, cputs_by (by simp) (by omega), eqBk_rfl, ?_⟩
  exact ⟨rfl, false, [], 8, _, f, set_same hm0, ⟨by simp, by omega⟩, fun x hx => by simp [spl, hx], ⟨f, rfl, hF0.set (Nat.le_refl _), hS0.set hm0 rfl (by omega)⟩⟩

end Hf
namespace Hf
open Go Classical
variable {P : Program} {ρ : Nat → FuncId}
/-- an algebra behind another one: u entries of the unit, i rows, of row i j columns, of column j k entries are in -/
def pfx (n m : Nat) (f g : By) (u i j k : Nat) : By := fun x =>
 if x < 10 then (if n + 2 ≤ x ∧ x < n + 2 + u then g (x - n) else f x)
 else if n ≤ (x - 10) / 64 ∧ (n ≤ (x - 10) / 8 % 8 ∧ (x - 10) / 8 % 8 < n + m) ∧ (n ≤ (x - 10) % 8 ∧ (x - 10) % 8 < n + m) ∧ ((x - 10) / 64 < n + i ∨ (x - 10) / 64 = n + i ∧ ((x - 10) / 8 % 8 < n + j ∨ (x - 10) / 8 % 8 = n + j ∧ (x - 10) % 8 < n + k))
  then g (10 + ((x - 10) / 64 - n) * 64 + ((x - 10) / 8 % 8 - n) * 8 + ((x - 10) % 8 - n)) else f x
theorem pfx_0 {n m : Nat} {f g : By} : f = pfx n m f g 0 0 0 0 := by
 funext x
 unfold pfx
 by_cases h : x < 10
 ·rw [if_pos h, if_neg (by omega)]
 ·rw [if_neg h, if_neg (by omega)]
theorem pfx_u {n m i : Nat} {f g : By} (h : n + i < 8) : upd (pfx n m f g i i 0 0) (2 + (n + i)) (g (2 + i)) = pfx n m f g (i + 1) i 0 0 := by
 funext x
 by_cases e : x = 2 + (n + i)
 ·subst e
  rw [upd_same]
  unfold pfx
  rw [if_pos (by omega), if_pos (by omega)]; congr 1; omega
 ·rw [upd_ne _ _ _ _ e]
  unfold pfx
  by_cases q : x < 10
  ·rw [if_pos q, if_pos q]
   by_cases z : n + 2 ≤ x ∧ x < n + 2 + i
   ·rw [if_pos z, if_pos (by omega)]
   ·rw [if_neg z, if_neg (by omega)]
  ·rw [if_neg q, if_neg q]
theorem pfx_m {n m u i j k : Nat} {f g : By} (hi : n + i < 8) (hj : n + j < 8) (hk : n + k < 8) (hjm : j < m) (hkm : k < m) : upd (pfx n m f g u i j k) (10 + (n + i) * 64 + (n + j) * 8 + (n + k)) (g (10 + i * 64 + j * 8 + k)) = pfx n m f g u i j (k + 1) := by
 funext x
 by_cases e : x = 10 + (n + i) * 64 + (n + j) * 8 + (n + k)
 ·have e1 : (x - 10) / 64 = n + i := by omega
  have e2 : (x - 10) / 8 % 8 = n + j := by omega
  have e3 : (x - 10) % 8 = n + k := by omega
  rw [← e, upd_same]
  unfold pfx
  rw [if_neg (by omega), if_pos (by rw [e1, e2, e3]; omega), e1, e2, e3]; congr 1; omega
 ·rw [upd_ne _ _ _ _ e]
  unfold pfx
  by_cases q : x < 10
  ·rw [if_pos q, if_pos q]
  ·rw [if_neg q, if_neg q]
   have e' : ¬ ((x - 10) / 64 = n + i ∧ (x - 10) / 8 % 8 = n + j ∧ (x - 10) % 8 = n + k) := by omega
   generalize (x - 10) / 64 = a at *
   generalize (x - 10) / 8 % 8 = b at *
   generalize (x - 10) % 8 = c at *
   by_cases z : n ≤ a ∧ (n ≤ b ∧ b < n + m) ∧ (n ≤ c ∧ c < n + m) ∧ (a < n + i ∨ a = n + i ∧ (b < n + j ∨ b = n + j ∧ c < n + k))
   ·rw [if_pos z, if_pos (by omega)]
   ·rw [if_neg z, if_neg (by omega)]
theorem pfx_j {n m u i j : Nat} {f g : By} : pfx n m f g u i j m = pfx n m f g u i (j + 1) 0 := by
 funext x
 unfold pfx
 by_cases q : x < 10
 ·rw [if_pos q, if_pos q]
 ·rw [if_neg q, if_neg q]
  generalize (x - 10) / 64 = a at *
  generalize (x - 10) / 8 % 8 = b at *
  generalize (x - 10) % 8 = c at *
  by_cases z : n ≤ a ∧ (n ≤ b ∧ b < n + m) ∧ (n ≤ c ∧ c < n + m) ∧ (a < n + i ∨ a = n + i ∧ (b < n + j ∨ b = n + j ∧ c < n + m))
  ·rw [if_pos z, if_pos (by omega)]
  ·rw [if_neg z, if_neg (by omega)]
theorem pfx_i {n m u i : Nat} {f g : By} : pfx n m f g u i m 0 = pfx n m f g u (i + 1) 0 0 := by
 funext x
 unfold pfx
 by_cases q : x < 10
 ·rw [if_pos q, if_pos q]
 ·rw [if_neg q, if_neg q]
  generalize (x - 10) / 64 = a at *
  generalize (x - 10) / 8 % 8 = b at *
  generalize (x - 10) % 8 = c at *
  by_cases z : n ≤ a ∧ (n ≤ b ∧ b < n + m) ∧ (n ≤ c ∧ c < n + m) ∧ (a < n + i ∨ a = n + i ∧ (b < n + m ∨ b = n + m ∧ c < n + 0))
  ·rw [if_pos z, if_pos (by omega)]
  ·rw [if_neg z, if_neg (by omega)]
theorem cput_i {hd : List Int} {N x : Nat} {f : By} {z : Int} (h : x < hd.length) (h2 : x < N) : cput (.by hd N f) x (.i .i64 z) = some (.by (hd.set x z) N f) := if_pos ⟨h, h2⟩
theorem cputs_2 {a b a' b' : Int} {N : Nat} {f g : By} : cputs (.by [a', b'] N f) 0 (.ag [a, b] N g) N = some (.by [a, b] N g) := if_pos ⟨rfl, rfl, rfl, rfl⟩
theorem pa0 {n m : Nat} {a b : Int} {f g : By} {X Y : Blk} : [(⟨false, .by [a, b] 522 f⟩ : Blk), X, Y] = [⟨false, .by [a, b] 522 (pfx n m f g 0 0 0 0)⟩, X, Y] := by rw [← pfx_0]
theorem pa1 {n m i : Nat} {a b : Int} {f g : By} {X Y : Blk} (h : n + i < 8) : [(⟨false, .by [a, b] 522 (upd (pfx n m f g i i 0 0) (0 + 2 + (n + i) * 1) (g (2 + i)))⟩ : Blk), X, Y] = [⟨false, .by [a, b] 522 (pfx n m f g (i + 1) i 0 0)⟩, X, Y] := by
 rw [← pfx_u h, show 0 + 2 + (n + i) * 1 = 2 + (n + i) by omega]
theorem app_set1 {H : List Blk} {A B C : Blk} : (H ++ [A] ++ [B]).set (H.length + 1) C = H ++ [A] ++ [C] := by
 have : H.length + 1 = (H ++ [A]).length := by simp
 rw [this, app_set0]
noncomputable def paC (p n q m : Int) (f g : By) : Int := if ¬ (Alg p n f ∧ Alg q m g) then 1 else if p ≠ q then 2 else if n + m > 8 then 3 else 0
noncomputable def paF (p n q m : Int) (f g : By) : By := if paC p n q m f g = 0 then pfx n.toNat m.toNat f g m.toNat m.toNat 0 0 else fun _ => 0
noncomputable def paV (p n q m : Int) (f g : By) : Sv := .tup [.ag [if paC p n q m f g = 0 then p else 0, if paC p n q m f g = 0 then n + m else 0] 522 (paF p n q m f g), .i .i64 (paC p n q m f g)]
theorem paV_n {p n q m c : Int} {f g : By} (h : paC p n q m f g = c) (hc : c ≠ 0) : paV p n q m f g = .tup [.ag [0, 0] 522 fun _ => 0, .i .i64 c] := by
 unfold paV paF
 rw [h, if_neg hc, if_neg hc, if_neg hc]
theorem s_ProductAlgebra_ok (B : Bs P ρ) (E : F_s_ProductAlgebra P ρ) {p n q m : Int} {f g : By} :
    CallOK P ρ 209 [.ag [p, n] 522 f, .ag [q, m] 522 g] [] (paV p n q m f g) [] := by
  refine (CallR.pure (call_of_q B.fn B.mo E.1 rfl (fun _ _ => ?_) rfl) rfl).ok
  refine ⟨_, rfl, ?_⟩
  refine ⟨_, rfl, ?_⟩
  refine ⟨_, rfl, ?_⟩
  refine .inl ⟨_, _, _, _, rfl, ⟨rfl, by omega⟩, ?_⟩
  refine ⟨_, s_l01Is_ok B E.2 (p := p) (n := n) (f := f), rfl, ?_⟩
  refine ⟨fun h14 => ?_, fun h14 => ?_⟩
  · skip
    have hA : ¬ Alg p n f := fun z => by rw [decide_eq_true z] at h14; cases h14
    have hc : paC p n q m f g = 1 := if_pos fun z => hA z.1
    iterate 4 refine brB_t ?_
    refine ⟨_, _, _, get_new, cputs_2, eqBk_rfl, ?_⟩
    first
      | exact ⟨rfl, false, _, 522, _, rfl, ⟨rfl, by omega⟩, (paV_n hc (by decide)).symm, Ext.nil⟩
      | (refine ⟨rfl, false, _, 522, _, rfl, ⟨rfl, by omega⟩, ?_, Ext.nil⟩
         show _ = paV _ _ _ _ _ _
         unfold paV paF
         rw [hc, if_pos rfl, if_pos rfl, if_pos rfl]
         rfl)
  · skip
    have hA : Alg p n f := by simpa using h14
    refine .inl ⟨_, _, _, _, rfl, ⟨rfl, by omega⟩, ?_⟩
    refine brB_f ?_
    refine ⟨_, s_l01Is_ok B E.2 (p := q) (n := m) (f := g), rfl, ?_⟩
    iterate 2 refine brB_f ?_
    refine ⟨fun h10 => ?_, fun h10 => ?_⟩
    · skip
      have hB : ¬ Alg q m g := fun z => by rw [decide_eq_true z] at h10; cases h10
      have hc : paC p n q m f g = 1 := if_pos fun z => hB z.2
      refine ⟨_, _, _, get_new, cputs_2, eqBk_rfl, ?_⟩
      first
        | exact ⟨rfl, false, _, 522, _, rfl, ⟨rfl, by omega⟩, (paV_n hc (by decide)).symm, Ext.nil⟩
        | (refine ⟨rfl, false, _, 522, _, rfl, ⟨rfl, by omega⟩, ?_, Ext.nil⟩
           show _ = paV _ _ _ _ _ _
           unfold paV paF
           rw [hc, if_pos rfl, if_pos rfl, if_pos rfl]
           rfl)
    · skip
      have hB : Alg q m g := by simpa using h10
      obtain ⟨n, rfl⟩ : ∃ k : Nat, n = (k : Int) := ⟨n.toNat, by have := hA.1.1.2.1; omega⟩
      obtain ⟨m, rfl⟩ : ∃ k : Nat, m = (k : Int) := ⟨m.toNat, by have := hB.1.1.2.1; omega⟩
      have hn8 : n ≤ 8 := by have := hA.1.1.2.2; omega
      have hm8 : m ≤ 8 := by have := hB.1.1.2.2; omega
      refine ⟨_, _, rfl, rfl, ?_⟩
      refine ⟨_, _, rfl, rfl, ?_⟩
      refine ⟨fun h20 => ?_, fun h20 => ?_⟩
      · replace h20 := bne_t h20
        have hc : paC p n q m f g = 2 := by unfold paC; rw [if_neg (by simpa using ⟨hA, hB⟩), if_pos h20]
        refine ⟨_, _, _, get_new, cputs_2, eqBk_rfl, ?_⟩
        first
          | exact ⟨rfl, false, _, 522, _, rfl, ⟨rfl, by omega⟩, (paV_n hc (by decide)).symm, Ext.nil⟩
          | (refine ⟨rfl, false, _, 522, _, rfl, ⟨rfl, by omega⟩, ?_, Ext.nil⟩
             show _ = paV _ _ _ _ _ _
             unfold paV paF
             rw [hc, if_pos rfl, if_pos rfl, if_pos rfl]
             rfl)
      · replace h20 := bne_f h20
        subst h20
        refine ⟨_, _, rfl, rfl, ?_⟩
        refine ⟨_, _, rfl, rfl, ?_⟩
        refine ⟨_, w64_id _ (by omega) (by omega), ?_⟩
        refine ⟨fun h27 => ?_, fun h27 => ?_⟩
        · replace h27 := of_decide_eq_true h27
          have hc : paC p n p m f g = 3 := by unfold paC; rw [if_neg (by simpa using ⟨hA, hB⟩), if_neg (by simp), if_pos h27]
          refine ⟨_, _, _, get_new, cputs_2, eqBk_rfl, ?_⟩
          first
            | exact ⟨rfl, false, _, 522, _, rfl, ⟨rfl, by omega⟩, (paV_n hc (by decide)).symm, Ext.nil⟩
            | (refine ⟨rfl, false, _, 522, _, rfl, ⟨rfl, by omega⟩, ?_, Ext.nil⟩
               show _ = paV _ _ _ _ _ _
               unfold paV paF
               rw [hc, if_pos rfl, if_pos rfl, if_pos rfl]
               rfl)
        · replace h27 := of_decide_eq_false h27
          have hc : paC p n p m f g = 0 := by unfold paC; rw [if_neg (by simpa using ⟨hA, hB⟩), if_neg (by simp), if_neg h27]
          refine ⟨_, _, rfl, rfl, ?_⟩
          refine ⟨Unit, (fun a2 a3 a4 a6 (i0 : Nat) (x0 : Unit) => [(2, a2), (3, a3), (4, a4), (6, a6), (7, .one (.i .i64 ((i0 : Nat) : Int)))]) _ _ _ _ , fun (i0 : Nat) (x0 : Unit) (G0 : List Blk) => (G0 = [⟨false, .by [p, (n : Int)] 522 (pfx n m f g i0 i0 0 0)⟩, ⟨false, .by [p, (m : Int)] 522 g⟩, ⟨false, .by [0, 0] 522 fun _ => 0⟩]), m, ⟨(), pa0, ⟨rfl, rfl, rfl, rfl, rfl, trivial⟩⟩, ?_⟩
          rintro i0 _ G0 hi0 rfl
          refine ⟨_, _, rfl, rfl, ?_⟩
          refine ⟨fun h40 => ?_, fun h40 => ?_⟩
          · replace h40 := of_decide_eq_true h40
            refine ⟨((n + i0 : Nat) : Int), addN (by omega), ?_⟩
            refine ⟨i0, _, rfl, by omega, rfl, ?_⟩
            refine ⟨_, _, rfl, cat_bq (2 + i0) (by omega) (by simp <;> omega) (by omega), ?_⟩
            refine ⟨n + i0, _, rfl, by omega, rfl, ?_⟩
            refine ⟨_, _, _, rfl, cput_u (by simp <;> omega) (by omega), eqBk_rfl, ?_⟩
            refine ⟨Unit, (fun a2 a3 a4 a6 a7 (i1 : Nat) (x1 : Unit) => [(2, a2), (3, a3), (4, a4), (6, a6), (7, a7), (8, .one (.i .i64 ((i1 : Nat) : Int)))]) _ _ _ _ _ , fun (i1 : Nat) (x1 : Unit) (G1 : List Blk) => (G1 = [⟨false, .by [p, (n : Int)] 522 (pfx n m f g (i0 + 1) i0 i1 0)⟩, ⟨false, .by [p, (m : Int)] 522 g⟩, ⟨false, .by [0, 0] 522 fun _ => 0⟩]), m, ⟨(), (pa1 (by omega)), ⟨rfl, rfl, rfl, rfl, rfl, rfl, trivial⟩⟩, ?_⟩
            rintro i1 _ G1 hi1 rfl
            refine ⟨_, _, rfl, rfl, ?_⟩
            refine ⟨fun h55 => ?_, fun h55 => ?_⟩
            · replace h55 := of_decide_eq_true h55
              refine ⟨Unit, (fun a2 a3 a4 a6 a7 a8 (i2 : Nat) (x2 : Unit) => [(2, a2), (3, a3), (4, a4), (6, a6), (7, a7), (8, a8), (9, .one (.i .i64 ((i2 : Nat) : Int)))]) _ _ _ _ _ _ , fun (i2 : Nat) (x2 : Unit) (G2 : List Blk) => (G2 = [⟨false, .by [p, (n : Int)] 522 (pfx n m f g (i0 + 1) i0 i1 i2)⟩, ⟨false, .by [p, (m : Int)] 522 g⟩, ⟨false, .by [0, 0] 522 fun _ => 0⟩]), m, ⟨(), rfl, ⟨rfl, rfl, rfl, rfl, rfl, rfl, rfl, trivial⟩⟩, ?_⟩
              rintro i2 _ G2 hi2 rfl
              refine ⟨_, _, rfl, rfl, ?_⟩
              refine ⟨fun h61 => ?_, fun h61 => ?_⟩
              · replace h61 := of_decide_eq_true h61
                refine ⟨((n + i0 : Nat) : Int), addN (by omega), ?_⟩
                refine ⟨((n + i1 : Nat) : Int), addN (by omega), ?_⟩
                refine ⟨((n + i2 : Nat) : Int), addN (by omega), ?_⟩
                refine ⟨i0, _, rfl, by omega, rfl, ?_⟩
                refine ⟨i1, _, rfl, by omega, rfl, ?_⟩
                refine ⟨i2, _, rfl, by omega, rfl, ?_⟩
                refine ⟨_, _, rfl, cat_bq (10 + i0 * 64 + i1 * 8 + i2) (by omega) (by simp <;> omega) (by omega), ?_⟩
                refine ⟨n + i0, _, rfl, by omega, rfl, ?_⟩
                refine ⟨n + i1, _, rfl, by omega, rfl, ?_⟩
                refine ⟨n + i2, _, rfl, by omega, rfl, ?_⟩
                refine ⟨_, _, _, rfl, cput_u (by simp <;> omega) (by omega), eqBk_rfl, ?_⟩
                refine ⟨((i2 + 1 : Nat) : Int), w64_id _ (by omega) (by omega), ?_⟩
                refine ⟨by omega, (), ?_, ⟨rfl, rfl, rfl, rfl, rfl, rfl, rfl, trivial⟩⟩
                dsimp only
                rw [← pfx_m (by omega) (by omega) (by omega) (by omega) (by omega), show 0 + 10 + (n + i0) * 64 + (n + i1) * 8 + (n + i2) * 1 = 10 + (n + i0) * 64 + (n + i1) * 8 + (n + i2) by omega]; rfl
              · replace h61 := of_decide_eq_false h61
                have e2 : m = i2 := by omega
                subst e2
                refine ⟨((i1 + 1 : Nat) : Int), w64_id _ (by omega) (by omega), ?_⟩
                refine ⟨by omega, (), ?_, ⟨rfl, rfl, rfl, rfl, rfl, rfl, trivial⟩⟩
                dsimp only
                rw [← pfx_j]
            · replace h55 := of_decide_eq_false h55
              have e1 : m = i1 := by omega
              subst e1
              refine ⟨((i0 + 1 : Nat) : Int), w64_id _ (by omega) (by omega), ?_⟩
              refine ⟨by omega, (), ?_, ⟨rfl, rfl, rfl, rfl, rfl, trivial⟩⟩
              dsimp only
              rw [← pfx_i]
          · replace h40 := of_decide_eq_false h40
            have e0 : m = i0 := by omega
            subst e0
            refine ⟨_, _, rfl, rfl, ?_⟩
            refine ⟨((n + m : Nat) : Int), addN (by omega), ?_⟩
            refine ⟨_, _, .by [p, ((n + m : Nat) : Int)] 522 (pfx n m f g m m 0 0), rfl, cput_i (by simp) (by omega), eqBk_rfl, ?_⟩
            refine .inl ⟨_, _, _, _, rfl, ⟨rfl, by omega⟩, ?_⟩
            refine ⟨_, _, _, rfl, cputs_2, eqBk_rfl, ?_⟩
            first
              | exact ⟨rfl, false, _, 522, _, rfl, ⟨rfl, by omega⟩, (paV_n hc (by decide)).symm, Ext.nil⟩
              | (refine ⟨rfl, false, _, 522, _, rfl, ⟨rfl, by omega⟩, ?_, Ext.nil⟩
                 show _ = paV _ _ _ _ _ _
                 unfold paV paF
                 rw [hc, if_pos rfl, if_pos rfl, if_pos rfl]
                 rfl)

theorem s_l01Cyclic_ok (B : Bs P ρ) (E : F_s_l01Cyclic P ρ) {H : List Blk} {p : Int} {n : Nat} (hn : 1 ≤ n) (hn8 : n ≤ 8) :
  CallR P ρ 196 [.i .i64 p, .i .i64 (n : Int)] H (fun u G => (∃ f : By, u = .one (.ag [p, (n : Int)] 522 f)) ∧ Ext H G) := by
 refine call_of_q B.fn B.mo E rfl (fun hAr hHp => ?_) (by simp [At.lt])
 refine ⟨_, rfl, ?_⟩
 refine ⟨H.length + 1, by simp, ?_⟩
 refine ⟨_, _, _, get_new1, cputs_2, eqBk_rfl, ?_⟩
 rw [app_set1]
 refine ⟨0, _, rfl, by omega, rfl, ?_⟩
 refine ⟨_, _, _, get_new1, cput_u (by simp) (by omega), eqBk_rfl, ?_⟩
 rw [app_set1]
 refine ⟨Unit, (fun a1 a4 a5 (i0 : Nat) (x0 : Unit) => [(1, a1), (4, a4), (5, a5), (6, .one (.i .i64 ((i0 : Nat) : Int)))]) _ _ _ , fun (i0 : Nat) (x0 : Unit) (G0 : List Blk) => (∃ f : By, G0 = H ++ [⟨false, (Zk.by 2 522).bk⟩] ++ [⟨false, .by [p, (n : Int)] 522 f⟩]), n, ⟨(), ⟨_, rfl⟩, ⟨rfl, rfl, rfl, rfl, trivial⟩⟩, ?_⟩
 rintro i0 _ G0 hi0 ⟨f, rfl⟩
 refine ⟨fun h15 => ?_, fun h15 => ?_⟩
 ·replace h15 := of_decide_eq_true h15
  refine ⟨Unit, (fun a1 a4 a5 a6 (i1 : Nat) (x1 : Unit) => [(1, a1), (4, a4), (5, a5), (6, a6), (7, .one (.i .i64 ((i1 : Nat) : Int)))]) _ _ _ _ , fun (i1 : Nat) (x1 : Unit) (G1 : List Blk) => (∃ f : By, G1 = H ++ [⟨false, (Zk.by 2 522).bk⟩] ++ [⟨false, .by [p, (n : Int)] 522 f⟩]), n, ⟨(), ⟨_, rfl⟩, ⟨rfl, rfl, rfl, rfl, rfl, trivial⟩⟩, ?_⟩
  rintro i1 _ G1 hi1 ⟨f1, rfl⟩
  refine ⟨fun h20 => ?_, fun h20 => ?_⟩
  ·replace h20 := of_decide_eq_true h20
   refine ⟨((i0 + i1 : Nat) : Int), addN (by omega), ?_⟩
   refine ⟨by omega, (((i0 + i1) % n : Nat) : Int), tmodN, ?_⟩
   have hmod := Nat.mod_lt (i0 + i1) (show 0 < n by omega)
   refine ⟨i0, _, rfl, by omega, rfl, ?_⟩
   refine ⟨i1, _, rfl, by omega, rfl, ?_⟩
   refine ⟨(i0 + i1) % n, _, rfl, by omega, rfl, ?_⟩
   refine ⟨_, _, _, get_new1, cput_u (by simp <;> omega) (by omega), eqBk_rfl, ?_⟩
   refine ⟨((i1 + 1 : Nat) : Int), w64_id _ (by omega) (by omega), ?_⟩
   exact ⟨by omega, (), ⟨_, app_set1⟩, ⟨rfl, rfl, rfl, rfl, rfl, trivial⟩⟩
  ·replace h20 := of_decide_eq_false h20
   have e1 : n = i1 := by omega
   subst e1
   refine ⟨((i0 + 1 : Nat) : Int), w64_id _ (by omega) (by omega), ?_⟩
   exact ⟨by omega, (), ⟨_, rfl⟩, ⟨rfl, rfl, rfl, rfl, trivial⟩⟩
 ·replace h15 := of_decide_eq_false h15
  have e0 : n = i0 := by omega
  subst e0
  refine .inl ⟨_, _, _, _, get_new1, ⟨rfl, by omega⟩, ?_⟩
  refine ⟨_, _, _, app_old get_new, cputs_2, eqBk_rfl, ?_⟩
  exact ⟨rfl, false, _, 522, _, set_same (app_old get_new), ⟨rfl, by omega⟩, ⟨_, rfl⟩, (Ext.app.trans Ext.app).set (Nat.le_refl _)⟩

theorem s_l01Powers_ok (B : Bs P ρ) (E : F_s_l01Powers P ρ) {H : List Blk} {p k : Int} {n to : Nat} (hp : 1 ≤ p) (hp2 : p ≤ 31) (hk : 0 ≤ k) (hk2 : k ≤ 31) (hn : 1 ≤ n) (hn8 : n ≤ 8) (hto : to < n) :
  CallR P ρ 208 [.i .i64 p, .i .i64 (n : Int), .i .i64 k, .i .i64 (to : Int)] H (fun u G => (∃ f : By, u = .one (.ag [p, (n : Int)] 522 f)) ∧ Ext H G) := by
 refine call_of_q B.fn B.mo E rfl (fun hAr hHp => ?_) (by simp [At.lt])
 refine ⟨_, rfl, ?_⟩
 refine ⟨H.length + 1, by simp, ?_⟩
 refine ⟨_, _, _, get_new1, cputs_2, eqBk_rfl, ?_⟩
 rw [app_set1]
 refine ⟨0, _, rfl, by omega, rfl, ?_⟩
 refine ⟨_, _, _, get_new1, cput_u (by simp) (by omega), eqBk_rfl, ?_⟩
 rw [app_set1]
 refine ⟨Unit, (fun a0 a1 a2 a3 a8 a9 (i0 : Nat) (x0 : Unit) => [(0, a0), (1, a1), (2, a2), (3, a3), (8, a8), (9, a9), (10, .one (.i .i64 ((i0 : Nat) : Int)))]) _ _ _ _ _ _ , fun (i0 : Nat) (x0 : Unit) (G0 : List Blk) => (∃ f : By, G0 = H ++ [⟨false, (Zk.by 2 522).bk⟩] ++ [⟨false, .by [p, (n : Int)] 522 f⟩]), n, ⟨(), ⟨_, rfl⟩, ⟨rfl, rfl, rfl, rfl, rfl, rfl, rfl, trivial⟩⟩, ?_⟩
 rintro i0 _ G0 hi0 ⟨f, rfl⟩
 refine ⟨fun h21 => ?_, fun h21 => ?_⟩
 ·replace h21 := of_decide_eq_true h21
  refine ⟨Unit, (fun a0 a1 a2 a3 a8 a9 a10 (i1 : Nat) (x1 : Unit) => [(0, a0), (1, a1), (2, a2), (3, a3), (8, a8), (9, a9), (10, a10), (11, .one (.i .i64 ((i1 : Nat) : Int)))]) _ _ _ _ _ _ _ , fun (i1 : Nat) (x1 : Unit) (G1 : List Blk) => (∃ f : By, G1 = H ++ [⟨false, (Zk.by 2 522).bk⟩] ++ [⟨false, .by [p, (n : Int)] 522 f⟩]), n, ⟨(), ⟨_, rfl⟩, ⟨rfl, rfl, rfl, rfl, rfl, rfl, rfl, rfl, trivial⟩⟩, ?_⟩
  rintro i1 _ G1 hi1 ⟨f1, rfl⟩
  refine ⟨fun h26 => ?_, fun h26 => ?_⟩
  ·replace h26 := of_decide_eq_true h26
   refine ⟨((i0 + i1 : Nat) : Int), addN (by omega), ?_⟩
   refine ⟨Nat × Int, (fun a0 a1 a2 a3 a8 a9 a10 a11 (i2 : Nat) (x2 : Nat × Int) => match x2 with | ⟨t, fa⟩ => [(0, a0), (1, a1), (2, a2), (3, a3), (8, a8), (9, a9), (10, a10), (11, a11), (12, .one (.i .i64 ((t : Nat) : Int))), (13, .one (.i .i64 fa))]) _ _ _ _ _ _ _ _ , fun (i2 : Nat) (x2 : Nat × Int) (G2 : List Blk) => match x2 with | ⟨t, fa⟩ => ((t + i2 + 2 ≤ 2 * n ∧ 0 ≤ fa ∧ fa ≤ 31) ∧ G2 = H ++ [⟨false, (Zk.by 2 522).bk⟩] ++ [⟨false, .by [p, (n : Int)] 522 f1⟩]), 2 * n, ⟨(i0 + i1, 1), ⟨⟨by omega, by omega, by omega⟩, rfl⟩, ⟨rfl, rfl, rfl, rfl, rfl, rfl, rfl, rfl, rfl, rfl, trivial⟩⟩, ?_⟩
   rintro i2 ⟨t, fa⟩ G2 hi2 ⟨⟨ht, hfa, hfa2⟩, rfl⟩
   refine ⟨fun h34 => ?_, fun h34 => ?_⟩
   ·replace h34 := of_decide_eq_true h34
    refine ⟨((t - n : Nat) : Int), by rw [show ((t : Int) - (n : Int)) = ((t - n : Nat) : Int) by omega]; exact w64_id _ (by omega) (by omega), ?_⟩
    refine ⟨((t - n + to : Nat) : Int), addN (by omega), ?_⟩
    have hmb := mul_bd2 (a := fa) (b := k) (c := 31) (d := 31) hfa hfa2 hk hk2
    refine ⟨_, w64_id _ (by omega) (by omega), ?_⟩
    refine ⟨by omega, _, rfl, ?_⟩
    have htm := tmod_bd (x := fa * k) (n := p) hmb.1 (by omega)
    exact ⟨by omega, (t - n + to, (fa * k).tmod p), ⟨⟨by omega, htm.1, by omega⟩, rfl⟩, ⟨rfl, rfl, rfl, rfl, rfl, rfl, rfl, rfl, rfl, rfl, trivial⟩⟩
   ·replace h34 := of_decide_eq_false h34
    refine ⟨i0, _, rfl, by omega, rfl, ?_⟩
    refine ⟨i1, _, rfl, by omega, rfl, ?_⟩
    refine ⟨t, _, rfl, by omega, rfl, ?_⟩
    refine ⟨_, _, _, get_new1, cput_u (by simp <;> omega) (by omega), eqBk_rfl, ?_⟩
    refine ⟨((i1 + 1 : Nat) : Int), w64_id _ (by omega) (by omega), ?_⟩
    exact ⟨by omega, (), ⟨_, app_set1⟩, ⟨rfl, rfl, rfl, rfl, rfl, rfl, rfl, rfl, trivial⟩⟩
  ·replace h26 := of_decide_eq_false h26
   have e1 : n = i1 := by omega
   subst e1
   refine ⟨((i0 + 1 : Nat) : Int), w64_id _ (by omega) (by omega), ?_⟩
   exact ⟨by omega, (), ⟨_, rfl⟩, ⟨rfl, rfl, rfl, rfl, rfl, rfl, rfl, trivial⟩⟩
 ·replace h21 := of_decide_eq_false h21
  have e0 : n = i0 := by omega
  subst e0
  refine .inl ⟨_, _, _, _, get_new1, ⟨rfl, by omega⟩, ?_⟩
  refine ⟨_, _, _, app_old get_new, cputs_2, eqBk_rfl, ?_⟩
  exact ⟨rfl, false, _, 522, _, set_same (app_old get_new), ⟨rfl, by omega⟩, ⟨_, rfl⟩, (Ext.app.trans Ext.app).set (Nat.le_refl _)⟩

theorem s_l01Matrices_ok (B : Bs P ρ) (E : F_s_l01Matrices P ρ) {H : List Blk} {p : Int} :
  CallR P ρ 197 [.i .i64 p] H (fun u G => (∃ f : By, u = .one (.ag [p, 4] 522 f)) ∧ Ext H G) := by
 refine call_of_q B.fn B.mo E rfl (fun hAr hHp => ?_) (by simp [At.lt])
 refine ⟨_, rfl, ?_⟩
 refine ⟨H.length + 1, by simp, ?_⟩
 refine ⟨_, _, _, get_new1, cputs_2, eqBk_rfl, ?_⟩
 rw [app_set1]
 refine ⟨0, _, rfl, by omega, rfl, ?_⟩
 refine ⟨_, _, _, get_new1, cput_u (by simp) (by omega), eqBk_rfl, ?_⟩
 rw [app_set1]
 refine ⟨3, _, rfl, by omega, rfl, ?_⟩
 refine ⟨_, _, _, get_new1, cput_u (by simp) (by omega), eqBk_rfl, ?_⟩
 rw [app_set1]
 refine ⟨Unit, (fun a2 a3 (i0 : Nat) (x0 : Unit) => [(2, a2), (3, a3), (4, .one (.i .i64 ((i0 : Nat) : Int)))]) _ _ , fun (i0 : Nat) (x0 : Unit) (G0 : List Blk) => (∃ f : By, G0 = H ++ [⟨false, (Zk.by 2 522).bk⟩] ++ [⟨false, .by [p, 4] 522 f⟩]), 2, ⟨(), ⟨_, rfl⟩, ⟨rfl, rfl, rfl, trivial⟩⟩, ?_⟩
 rintro i0 _ G0 hi0 ⟨f, rfl⟩
 refine ⟨fun h14 => ?_, fun h14 => ?_⟩
 ·replace h14 := of_decide_eq_true h14
  refine ⟨Unit, (fun a2 a3 a4 (i1 : Nat) (x1 : Unit) => [(2, a2), (3, a3), (4, a4), (5, .one (.i .i64 ((i1 : Nat) : Int)))]) _ _ _ , fun (i1 : Nat) (x1 : Unit) (G1 : List Blk) => (∃ f : By, G1 = H ++ [⟨false, (Zk.by 2 522).bk⟩] ++ [⟨false, .by [p, 4] 522 f⟩]), 2, ⟨(), ⟨_, rfl⟩, ⟨rfl, rfl, rfl, rfl, trivial⟩⟩, ?_⟩
  rintro i1 _ G1 hi1 ⟨f1, rfl⟩
  refine ⟨fun h18 => ?_, fun h18 => ?_⟩
  ·replace h18 := of_decide_eq_true h18
   refine ⟨Unit, (fun a2 a3 a4 a5 (i2 : Nat) (x2 : Unit) => [(2, a2), (3, a3), (4, a4), (5, a5), (6, .one (.i .i64 ((i2 : Nat) : Int)))]) _ _ _ _ , fun (i2 : Nat) (x2 : Unit) (G2 : List Blk) => (∃ f : By, G2 = H ++ [⟨false, (Zk.by 2 522).bk⟩] ++ [⟨false, .by [p, 4] 522 f⟩]), 2, ⟨(), ⟨_, rfl⟩, ⟨rfl, rfl, rfl, rfl, rfl, trivial⟩⟩, ?_⟩
   rintro i2 _ G2 hi2 ⟨f2, rfl⟩
   refine ⟨fun h22 => ?_, fun h22 => ?_⟩
   ·replace h22 := of_decide_eq_true h22
    refine ⟨((2 * i0 : Nat) : Int), (w64_id _ (by omega) (by omega)).trans (by omega), ?_⟩
    refine ⟨((2 * i0 + i1 : Nat) : Int), addN (by omega), ?_⟩
    refine ⟨((2 * i1 : Nat) : Int), (w64_id _ (by omega) (by omega)).trans (by omega), ?_⟩
    refine ⟨((2 * i1 + i2 : Nat) : Int), addN (by omega), ?_⟩
    refine ⟨((2 * i0 : Nat) : Int), (w64_id _ (by omega) (by omega)).trans (by omega), ?_⟩
    refine ⟨((2 * i0 + i2 : Nat) : Int), addN (by omega), ?_⟩
    refine ⟨2 * i0 + i1, _, rfl, by omega, rfl, ?_⟩
    refine ⟨2 * i1 + i2, _, rfl, by omega, rfl, ?_⟩
    refine ⟨2 * i0 + i2, _, rfl, by omega, rfl, ?_⟩
    refine ⟨_, _, _, get_new1, cput_u (by simp <;> omega) (by omega), eqBk_rfl, ?_⟩
    refine ⟨((i2 + 1 : Nat) : Int), w64_id _ (by omega) (by omega), ?_⟩
    exact ⟨by omega, (), ⟨_, app_set1⟩, ⟨rfl, rfl, rfl, rfl, rfl, trivial⟩⟩
   ·replace h22 := of_decide_eq_false h22
    have e2 : 2 = i2 := by omega
    subst e2
    refine ⟨((i1 + 1 : Nat) : Int), w64_id _ (by omega) (by omega), ?_⟩
    exact ⟨by omega, (), ⟨_, rfl⟩, ⟨rfl, rfl, rfl, rfl, trivial⟩⟩
  ·replace h18 := of_decide_eq_false h18
   have e1 : 2 = i1 := by omega
   subst e1
   refine ⟨((i0 + 1 : Nat) : Int), w64_id _ (by omega) (by omega), ?_⟩
   exact ⟨by omega, (), ⟨_, rfl⟩, ⟨rfl, rfl, rfl, trivial⟩⟩
 ·replace h14 := of_decide_eq_false h14
  have e0 : 2 = i0 := by omega
  subst e0
  refine .inl ⟨_, _, _, _, get_new1, ⟨rfl, by omega⟩, ?_⟩
  refine ⟨_, _, _, app_old get_new, cputs_2, eqBk_rfl, ?_⟩
  exact ⟨rfl, false, _, 522, _, set_same (app_old get_new), ⟨rfl, by omega⟩, ⟨_, rfl⟩, (Ext.app.trans Ext.app).set (Nat.le_refl _)⟩


end Hf
namespace Hf
open Go Classical
variable {P : Program} {ρ : Nat → FuncId}
/-- what a draw leaves: a value of an algebra's kind, the source further on -/
def DrA (H : List Blk) (s : Nat) (u : Sv) (G : List Blk) : Prop := ∃ (p q : Int) (f : By), u = .one (.ag [p, q] 522 f) ∧ Fr [s] H G ∧ Src G s
set_option maxHeartbeats 2000000 in
theorem s_l01Draw_ok (B : Bs P ρ) (E : F_s_l01Draw P ρ) {H : List Blk} {s : Nat} (hS : Src H s) :
  CallR P ρ 203 [.pt s 0] H (DrA H s) := by
 have hsl := hS.lt
 refine call_of_q B.fn B.mo E.1 rfl (fun hAr hHp => ?_) (by simp [At.lt, hS.lt])
 refine ⟨_, rfl, ?_⟩
 refine ⟨_, s_l01DrawPrime_ok B E.2.1 (hS.ext Ext.app), ?_⟩
 rintro _ G10 ⟨p, hp, rfl, hf10, hS10⟩
 have hF10 : Fr [s] H G10 := (Ext.app.fr).trans hf10
 have hm10 := hf10.get get_new (by omega)
 refine ⟨_, s_l01Next_ok B E.2.2.1 hS10, ?_⟩
 rintro _ G12 ⟨z12, rfl, hz12, hf12, hS12⟩
 have hF12 := hF10.trans hf12
 have hm12 := hf12.get hm10 (by omega)
 refine ⟨fun h13 => ?_, fun h13 => ?_⟩
 ·replace h13 := eq_of_beq h13
  refine ⟨_, s_l01Next_ok B E.2.2.1 hS12, ?_⟩
  rintro _ G17 ⟨z17, rfl, hz17, hf17, hS17⟩
  obtain ⟨x17, rfl⟩ : ∃ x : Nat, z17 = (x : Int) := ⟨z17.toNat, by have := hz17.1; omega⟩
  have hb17 := hz17.2.2 (by omega)
  refine ⟨((1 + x17 : Nat) : Int), (w64_id _ (by omega) (by omega)).trans (by omega), ?_⟩
  refine ⟨_, s_l01Cyclic_ok B E.2.2.2.1 (p := p) (n := 1 + x17) (by omega) (by omega), ?_⟩
  rintro _ G19 ⟨⟨f19, rfl⟩, hE19⟩
  have hmE := hE19 _ _ (hf17.get hm12 (by omega))
  have hFE := (hF12.trans hf17).trans hE19.fr
  have hSE := hS17.ext hE19
  refine ⟨_, _, _, hmE, cputs_2, eqBk_rfl, ?_⟩
  first
   | exact ⟨rfl, false, _, 522, _, set_same hmE, ⟨rfl, by omega⟩, ⟨_, _, _, rfl, hFE.set (Nat.le_refl _), hSE.set hmE rfl (by omega)⟩⟩
   | exact ⟨rfl, false, _, 522, _, set_same (hA _).1, ⟨rfl, by omega⟩, ⟨_, _, _, rfl, (hA _).2.1.set (Nat.le_refl _), (hA _).2.2.set (hA _).1 rfl (by omega)⟩⟩
 ·replace h13 := ne_of_beq_false h13
  refine ⟨fun h20 => ?_, fun h20 => ?_⟩
  ·replace h20 := eq_of_beq h20
   refine ⟨_, s_l01Next_ok B E.2.2.1 hS12, ?_⟩
   rintro _ G23 ⟨z23, rfl, hz23, hf23, hS23⟩
   obtain ⟨x23, rfl⟩ : ∃ x : Nat, z23 = (x : Int) := ⟨z23.toNat, by have := hz23.1; omega⟩
   have hb23 := hz23.2.2 (by omega)
   refine ⟨((1 + x23 : Nat) : Int), (w64_id _ (by omega) (by omega)).trans (by omega), ?_⟩
   refine ⟨_, s_l01Next_ok B E.2.2.1 hS23, ?_⟩
   rintro _ G29 ⟨z29, rfl, hz29, hf29, hS29⟩
   refine ⟨_, s_l01Next_ok B E.2.2.1 hS29, ?_⟩
   rintro _ G32 ⟨z32, rfl, hz32, hf32, hS32⟩
   obtain ⟨x32, rfl⟩ : ∃ x : Nat, z32 = (x : Int) := ⟨z32.toNat, by have := hz32.1; omega⟩
   have hb32 := hz32.2.2 (by omega)
   have hb29 := hz29.2.2 (by omega)
   refine ⟨_, s_l01Powers_ok B E.2.2.2.2.1 (p := p) (k := z29) (n := 1 + x23) (to := x32) (by omega) (by omega) hz29.1 (by omega) (by omega) (by omega) (by omega), ?_⟩
   rintro _ G33 ⟨⟨f33, rfl⟩, hE33⟩
   have hmE := hE33 _ _ (hf32.get (hf29.get (hf23.get hm12 (by omega)) (by omega)) (by omega))
   have hFE := (((hF12.trans hf23).trans hf29).trans hf32).trans hE33.fr
   have hSE := hS32.ext hE33
   refine ⟨_, _, _, hmE, cputs_2, eqBk_rfl, ?_⟩
   first
    | exact ⟨rfl, false, _, 522, _, set_same hmE, ⟨rfl, by omega⟩, ⟨_, _, _, rfl, hFE.set (Nat.le_refl _), hSE.set hmE rfl (by omega)⟩⟩
    | exact ⟨rfl, false, _, 522, _, set_same (hA _).1, ⟨rfl, by omega⟩, ⟨_, _, _, rfl, (hA _).2.1.set (Nat.le_refl _), (hA _).2.2.set (hA _).1 rfl (by omega)⟩⟩
  ·replace h20 := ne_of_beq_false h20
   refine ⟨fun h34 => ?_, fun h34 => ?_⟩
   ·replace h34 := eq_of_beq h34
    refine ⟨_, s_l01Matrices_ok B E.2.2.2.2.2.1 (p := p), ?_⟩
    rintro _ G37 ⟨⟨f37, rfl⟩, hE37⟩
    have hmE := hE37 _ _ hm12
    have hFE := hF12.trans hE37.fr
    have hSE := hS12.ext hE37
    refine ⟨_, _, _, hmE, cputs_2, eqBk_rfl, ?_⟩
    first
     | exact ⟨rfl, false, _, 522, _, set_same hmE, ⟨rfl, by omega⟩, ⟨_, _, _, rfl, hFE.set (Nat.le_refl _), hSE.set hmE rfl (by omega)⟩⟩
     | exact ⟨rfl, false, _, 522, _, set_same (hA _).1, ⟨rfl, by omega⟩, ⟨_, _, _, rfl, (hA _).2.1.set (Nat.le_refl _), (hA _).2.2.set (hA _).1 rfl (by omega)⟩⟩
   ·replace h34 := ne_of_beq_false h34
    refine ⟨fun h38 => ?_, fun h38 => ?_⟩
    ·replace h38 := eq_of_beq h38
     refine ⟨_, s_l01Next_ok B E.2.2.1 hS12, ?_⟩
     rintro _ G43 ⟨z43, rfl, hz43, hf43, hS43⟩
     obtain ⟨x43, rfl⟩ : ∃ x : Nat, z43 = (x : Int) := ⟨z43.toNat, by have := hz43.1; omega⟩
     have hb43 := hz43.2.2 (by omega)
     refine ⟨((1 + x43 : Nat) : Int), (w64_id _ (by omega) (by omega)).trans (by omega), ?_⟩
     refine ⟨_, s_l01Cyclic_ok B E.2.2.2.1 (p := p) (n := 1 + x43) (by omega) (by omega), ?_⟩
     rintro _ G45 ⟨⟨f45, rfl⟩, hE45⟩
     refine ⟨_, s_l01Matrices_ok B E.2.2.2.2.2.1 (p := p), ?_⟩
     rintro _ G47 ⟨⟨f47, rfl⟩, hE47⟩
     refine ⟨_, s_ProductAlgebra_ok B E.2.2.2.2.2.2 (p := p) (n := ((1 + x43 : Nat) : Int)) (q := p) (m := 4) (f := f45) (g := f47), rfl, ?_⟩
     refine ⟨_, rfl, ?_⟩
     have hA : ∀ X : List Blk, (G47 ++ X)[H.length]? = some ⟨false, (Zk.by 2 522).bk⟩ ∧ Fr [s] H (G47 ++ X) ∧ Src (G47 ++ X) s := fun X =>
      ⟨app_old (hE47 _ _ (hE45 _ _ (hf43.get hm12 (by omega)))), (((hF12.trans hf43).trans hE45.fr).trans hE47.fr).trans Ext.app.fr, ((hS43.ext hE45).ext hE47).ext Ext.app⟩
     refine ⟨_, _, _, get_new, cputs_2, eqBk_rfl, ?_⟩
     rw [app_set0]
     refine ⟨fun h52 => ?_, fun h52 => ?_⟩
     ·replace h52 := eq_of_beq h52
      refine .inl ⟨_, _, _, _, get_new, ⟨rfl, by omega⟩, ?_⟩
      refine ⟨_, _, _, (hA _).1, cputs_2, eqBk_rfl, ?_⟩
      first
       | exact ⟨rfl, false, _, 522, _, set_same hmE, ⟨rfl, by omega⟩, ⟨_, _, _, rfl, hFE.set (Nat.le_refl _), hSE.set hmE rfl (by omega)⟩⟩
       | exact ⟨rfl, false, _, 522, _, set_same (hA _).1, ⟨rfl, by omega⟩, ⟨_, _, _, rfl, (hA _).2.1.set (Nat.le_refl _), (hA _).2.2.set (hA _).1 rfl (by omega)⟩⟩
     ·replace h52 := ne_of_beq_false h52
      refine ⟨_, s_l01Next_ok B E.2.2.1 (hA _).2.2, ?_⟩
      rintro _ G78 ⟨z78, rfl, hz78, hf78, hS78⟩
      have hm78 := hf78.get (hA _).1 (by omega)
      have hF78 := (hA _).2.1.trans hf78
      obtain ⟨x78, rfl⟩ : ∃ x : Nat, z78 = (x : Int) := ⟨z78.toNat, by have := hz78.1; omega⟩
      have hb78 := hz78.2.2 (by omega)
      refine ⟨((1 + x78 : Nat) : Int), (w64_id _ (by omega) (by omega)).trans (by omega), ?_⟩
      refine ⟨_, s_l01Powers_ok B E.2.2.2.2.1 (p := p) (k := 0) (n := 1 + x78) (to := 0) (by omega) (by omega) (by omega) (by omega) (by omega) (by omega) (by omega), ?_⟩
      rintro _ G80 ⟨⟨f80, rfl⟩, hE80⟩
      have hmE := hE80 _ _ hm78
      have hFE := hF78.trans hE80.fr
      have hSE := hS78.ext hE80
      refine ⟨_, _, _, hmE, cputs_2, eqBk_rfl, ?_⟩
      first
       | exact ⟨rfl, false, _, 522, _, set_same hmE, ⟨rfl, by omega⟩, ⟨_, _, _, rfl, hFE.set (Nat.le_refl _), hSE.set hmE rfl (by omega)⟩⟩
       | exact ⟨rfl, false, _, 522, _, set_same (hA _).1, ⟨rfl, by omega⟩, ⟨_, _, _, rfl, (hA _).2.1.set (Nat.le_refl _), (hA _).2.2.set (hA _).1 rfl (by omega)⟩⟩
    ·replace h38 := ne_of_beq_false h38
     refine ⟨fun h54 => ?_, fun h54 => ?_⟩
     ·replace h54 := eq_of_beq h54
      refine ⟨_, s_l01Next_ok B E.2.2.1 hS12, ?_⟩
      rintro _ G59 ⟨z59, rfl, hz59, hf59, hS59⟩
      obtain ⟨x59, rfl⟩ : ∃ x : Nat, z59 = (x : Int) := ⟨z59.toNat, by have := hz59.1; omega⟩
      have hb59 := hz59.2.2 (by omega)
      refine ⟨((1 + x59 : Nat) : Int), (w64_id _ (by omega) (by omega)).trans (by omega), ?_⟩
      refine ⟨_, s_l01Powers_ok B E.2.2.2.2.1 (p := p) (k := 0) (n := 1 + x59) (to := 0) (by omega) (by omega) (by omega) (by omega) (by omega) (by omega) (by omega), ?_⟩
      rintro _ G61 ⟨⟨f61, rfl⟩, hE61⟩
      refine ⟨_, s_l01Next_ok B E.2.2.1 (hS59.ext hE61), ?_⟩
      rintro _ G64 ⟨z64, rfl, hz64, hf64, hS64⟩
      obtain ⟨x64, rfl⟩ : ∃ x : Nat, z64 = (x : Int) := ⟨z64.toNat, by have := hz64.1; omega⟩
      have hb64 := hz64.2.2 (by omega)
      refine ⟨((1 + x64 : Nat) : Int), (w64_id _ (by omega) (by omega)).trans (by omega), ?_⟩
      refine ⟨_, s_l01Next_ok B E.2.2.1 hS64, ?_⟩
      rintro _ G68 ⟨z68, rfl, hz68, hf68, hS68⟩
      have hb68 := hz68.2.2 (by omega)
      refine ⟨_, s_l01Powers_ok B E.2.2.2.2.1 (p := p) (k := z68) (n := 1 + x64) (to := 0) (by omega) (by omega) hz68.1 (by omega) (by omega) (by omega) (by omega), ?_⟩
      rintro _ G69 ⟨⟨f69, rfl⟩, hE69⟩
      refine ⟨_, s_ProductAlgebra_ok B E.2.2.2.2.2.2 (p := p) (n := ((1 + x59 : Nat) : Int)) (q := p) (m := ((1 + x64 : Nat) : Int)) (f := f61) (g := f69), rfl, ?_⟩
      refine ⟨_, rfl, ?_⟩
      have hA : ∀ X : List Blk, (G69 ++ X)[H.length]? = some ⟨false, (Zk.by 2 522).bk⟩ ∧ Fr [s] H (G69 ++ X) ∧ Src (G69 ++ X) s := fun X =>
       ⟨app_old (hE69 _ _ (hf68.get (hf64.get (hE61 _ _ (hf59.get hm12 (by omega))) (by omega)) (by omega))), (((((hF12.trans hf59).trans hE61.fr).trans hf64).trans hf68).trans hE69.fr).trans Ext.app.fr, (hS68.ext hE69).ext Ext.app⟩
      refine ⟨_, _, _, get_new, cputs_2, eqBk_rfl, ?_⟩
      rw [app_set0]
      refine ⟨fun h74 => ?_, fun h74 => ?_⟩
      ·replace h74 := eq_of_beq h74
       refine .inl ⟨_, _, _, _, get_new, ⟨rfl, by omega⟩, ?_⟩
       refine ⟨_, _, _, (hA _).1, cputs_2, eqBk_rfl, ?_⟩
       first
        | exact ⟨rfl, false, _, 522, _, set_same hmE, ⟨rfl, by omega⟩, ⟨_, _, _, rfl, hFE.set (Nat.le_refl _), hSE.set hmE rfl (by omega)⟩⟩
        | exact ⟨rfl, false, _, 522, _, set_same (hA _).1, ⟨rfl, by omega⟩, ⟨_, _, _, rfl, (hA _).2.1.set (Nat.le_refl _), (hA _).2.2.set (hA _).1 rfl (by omega)⟩⟩
      ·replace h74 := ne_of_beq_false h74
       refine ⟨_, s_l01Next_ok B E.2.2.1 (hA _).2.2, ?_⟩
       rintro _ G78 ⟨z78, rfl, hz78, hf78, hS78⟩
       have hm78 := hf78.get (hA _).1 (by omega)
       have hF78 := (hA _).2.1.trans hf78
       obtain ⟨x78, rfl⟩ : ∃ x : Nat, z78 = (x : Int) := ⟨z78.toNat, by have := hz78.1; omega⟩
       have hb78 := hz78.2.2 (by omega)
       refine ⟨((1 + x78 : Nat) : Int), (w64_id _ (by omega) (by omega)).trans (by omega), ?_⟩
       refine ⟨_, s_l01Powers_ok B E.2.2.2.2.1 (p := p) (k := 0) (n := 1 + x78) (to := 0) (by omega) (by omega) (by omega) (by omega) (by omega) (by omega) (by omega), ?_⟩
       rintro _ G80 ⟨⟨f80, rfl⟩, hE80⟩
       have hmE := hE80 _ _ hm78
       have hFE := hF78.trans hE80.fr
       have hSE := hS78.ext hE80
       refine ⟨_, _, _, hmE, cputs_2, eqBk_rfl, ?_⟩
       first
        | exact ⟨rfl, false, _, 522, _, set_same hmE, ⟨rfl, by omega⟩, ⟨_, _, _, rfl, hFE.set (Nat.le_refl _), hSE.set hmE rfl (by omega)⟩⟩
        | exact ⟨rfl, false, _, 522, _, set_same (hA _).1, ⟨rfl, by omega⟩, ⟨_, _, _, rfl, (hA _).2.1.set (Nat.le_refl _), (hA _).2.2.set (hA _).1 rfl (by omega)⟩⟩
     ·replace h54 := ne_of_beq_false h54
      refine ⟨_, s_l01Next_ok B E.2.2.1 hS12, ?_⟩
      rintro _ G78 ⟨z78, rfl, hz78, hf78, hS78⟩
      have hm78 := hf78.get hm12 (by omega)
      have hF78 := hF12.trans hf78
      obtain ⟨x78, rfl⟩ : ∃ x : Nat, z78 = (x : Int) := ⟨z78.toNat, by have := hz78.1; omega⟩
      have hb78 := hz78.2.2 (by omega)
      refine ⟨((1 + x78 : Nat) : Int), (w64_id _ (by omega) (by omega)).trans (by omega), ?_⟩
      refine ⟨_, s_l01Powers_ok B E.2.2.2.2.1 (p := p) (k := 0) (n := 1 + x78) (to := 0) (by omega) (by omega) (by omega) (by omega) (by omega) (by omega) (by omega), ?_⟩
      rintro _ G80 ⟨⟨f80, rfl⟩, hE80⟩
      have hmE := hE80 _ _ hm78
      have hFE := hF78.trans hE80.fr
      have hSE := hS78.ext hE80
      refine ⟨_, _, _, hmE, cputs_2, eqBk_rfl, ?_⟩
      first
       | exact ⟨rfl, false, _, 522, _, set_same hmE, ⟨rfl, by omega⟩, ⟨_, _, _, rfl, hFE.set (Nat.le_refl _), hSE.set hmE rfl (by omega)⟩⟩
       | exact ⟨rfl, false, _, 522, _, set_same (hA _).1, ⟨rfl, by omega⟩, ⟨_, _, _, rfl, (hA _).2.1.set (Nat.le_refl _), (hA _).2.2.set (hA _).1 rfl (by omega)⟩⟩

end Hf
namespace Hf
open Go Classical
variable {P : Program} {ρ : Nat → FuncId}
theorem i_first2_at (B : Bs P ρ) (E : E_i_first P ρ) {H : List Blk} {k : Nat} {r : Bool} {a b : Int} (h : H[k]? = some ⟨r, .rw [.i .i64 a, .i .i64 b]⟩) : CallR P ρ 139 [.sl k 0 2 2] H fun u G => u = .one (.i .i64 (fz [a, b])) ∧ G = H :=
 ((i_first2_ok B E (a := a) (b := b)).emb (H := H) (H' := H) (args := [.sl k 0 2 2]) [k] rfl ⟨⟨_, h, fun h => by cases h⟩, trivial⟩ (by simp [apart]) rfl (by simp [back])).r
-- left out: i_NormedIntegral
-- left out: s_NormedIntegral
-- left out: l_FnExactNormedIntegral

end Hf
namespace Hf
open Go Classical
variable {P : Program} {ρ : Nat → FuncId}
theorem ifc {α : Type} {p q : Prop} {i1 : Decidable p} {i2 : Decidable q} {a b : α} (h : p ↔ q) : @ite α p i1 a b = @ite α q i2 a b := by
 by_cases hp : p
 ·rw [if_pos hp, if_pos (h.1 hp)]
 ·rw [if_neg hp, if_neg (fun q => hp (h.2 q))]
def dBf (f : By) (o : Nat) : By := fun x => f (o + (x % 8) * 64 + (x / 64) * 8 + x / 8 % 8)
end Hf
namespace Hf
open Go Classical
variable {P : Program} {ρ : Nat → FuncId}
/-- the dual of an algebra as a coalgebra -/
def dcF (f : By) : By := spl (spl (fun _ => 0) 2 8 (sh f 2)) 10 512 (dBf (dBf (sh f 10) 0) 0)
noncomputable def dcV (p n : Int) (f : By) : Sv := .tup [.ag [if Alg p n f then p else 0, if Alg p n f then n else 0] 522 (if Alg p n f then dcF f else fun _ => 0), .i .i64 (oc (Alg p n f) 1)]
theorem s_l02Turned_ok (B : Bs P ρ) (E : F_s_l02Turned P ρ) {f : By} :
  CallOK P ρ 210 [.ag [] 512 f] [] (.one (.ag [] 512 (dBf f 0))) [] := by
 refine (CallR.pure (call_of_q B.fn B.mo E rfl (fun _ _ => ?_) rfl) rfl).ok
 refine ⟨_, rfl, ?_⟩
 refine ⟨_, rfl, ?_⟩
 refine ⟨_, rfl, ?_⟩
 refine ⟨_, _, _, rfl, cputs_by (by simp) (by omega), eqBk_rfl, ?_⟩
 refine ⟨Unit, (fun a1 a2 a3 (i0 : Nat) (x0 : Unit) => [(1, a1), (2, a2), (3, a3), (4, .one (.i .i64 ((i0 : Nat) : Int)))]) _ _ _ , fun (i0 : Nat) (x0 : Unit) (G0 : List Blk) => (∃ w, G0 = [⟨false, .by [] 512 f⟩, ⟨false, .by [] 512 fun _ => 0⟩, ⟨false, .by [] 512 w⟩] ∧ ∀ x, x < 512 → w x = if x % 8 < i0 then dBf f 0 x else 0), 8, ⟨(), ⟨_, rfl, fun x hx => by simp [spl, hx]⟩, ⟨rfl, rfl, rfl, rfl, trivial⟩⟩, ?_⟩
 rintro i0 _ G0 hi0 ⟨w0, rfl, hw0⟩
 refine ⟨fun h9 => ?_, fun h9 => ?_⟩
 ·replace h9 := of_decide_eq_true h9
  refine ⟨Unit, (fun a1 a2 a3 a4 (i1 : Nat) (x1 : Unit) => [(1, a1), (2, a2), (3, a3), (4, a4), (5, .one (.i .i64 ((i1 : Nat) : Int)))]) _ _ _ _ , fun (i1 : Nat) (x1 : Unit) (G1 : List Blk) => (∃ w, G1 = [⟨false, .by [] 512 f⟩, ⟨false, .by [] 512 fun _ => 0⟩, ⟨false, .by [] 512 w⟩] ∧ ∀ x, x < 512 → w x = if x % 8 < i0 ∨ (x % 8 = i0 ∧ x / 8 < i1 * 8) then dBf f 0 x else 0), 8, ⟨(), ⟨_, rfl, fun x hx => by rw [hw0 x hx]; exact ifc (by omega)⟩, ⟨rfl, rfl, rfl, rfl, rfl, trivial⟩⟩, ?_⟩
  rintro i1 _ G1 hi1 ⟨w1, rfl, hw1⟩
  refine ⟨fun h13 => ?_, fun h13 => ?_⟩
  ·replace h13 := of_decide_eq_true h13
   refine ⟨Unit, (fun a1 a2 a3 a4 a5 (i2 : Nat) (x2 : Unit) => [(1, a1), (2, a2), (3, a3), (4, a4), (5, a5), (6, .one (.i .i64 ((i2 : Nat) : Int)))]) _ _ _ _ _ , fun (i2 : Nat) (x2 : Unit) (G2 : List Blk) => (∃ w, G2 = [⟨false, .by [] 512 f⟩, ⟨false, .by [] 512 fun _ => 0⟩, ⟨false, .by [] 512 w⟩] ∧ ∀ x, x < 512 → w x = if x % 8 < i0 ∨ (x % 8 = i0 ∧ x / 8 < i1 * 8 + i2) then dBf f 0 x else 0), 8, ⟨(), ⟨_, rfl, fun x hx => by rw [hw1 x hx]; exact ifc (by omega)⟩, ⟨rfl, rfl, rfl, rfl, rfl, rfl, trivial⟩⟩, ?_⟩
   rintro i2 _ G2 hi2 ⟨w2, rfl, hw2⟩
   refine ⟨fun h17 => ?_, fun h17 => ?_⟩
   ·replace h17 := of_decide_eq_true h17
    refine ⟨i0, _, rfl, by omega, rfl, ?_⟩
    refine ⟨i1, _, rfl, by omega, rfl, ?_⟩
    refine ⟨i2, _, rfl, by omega, rfl, ?_⟩
    refine ⟨_, _, rfl, cat_bq (i0 * 64 + i1 * 8 + i2) (by omega) (by simp) (by omega), ?_⟩
    refine ⟨i1, _, rfl, by omega, rfl, ?_⟩
    refine ⟨i2, _, rfl, by omega, rfl, ?_⟩
    refine ⟨i0, _, rfl, by omega, rfl, ?_⟩
    refine ⟨_, _, _, rfl, cput_u (by simp) (by omega), eqBk_rfl, ?_⟩
    refine ⟨((i2 + 1 : Nat) : Int), w64_id _ (by omega) (by omega), ?_⟩
    refine ⟨by omega, (), ?_, ⟨rfl, rfl, rfl, rfl, rfl, rfl, trivial⟩⟩
    refine ⟨_, rfl, fun x hx => ?_⟩
    by_cases e : x = i1 * 64 + i2 * 8 + i0
    ·rw [show x = 0 + i1 * 64 + i2 * 8 + i0 * 1 from by omega, upd_same, if_pos (by omega)]
     unfold dBf
     congr 1; omega
    ·rw [upd_ne _ _ _ _ (by omega), hw2 x hx]
     exact ifc (by omega)
   ·replace h17 := of_decide_eq_false h17
    have e2 : 8 = i2 := by omega
    subst e2
    refine ⟨((i1 + 1 : Nat) : Int), w64_id _ (by omega) (by omega), ?_⟩
    exact ⟨by omega, (), ⟨_, rfl, fun x hx => by rw [hw2 x hx]; exact ifc (by omega)⟩, ⟨rfl, rfl, rfl, rfl, rfl, trivial⟩⟩
  ·replace h13 := of_decide_eq_false h13
   have e1 : 8 = i1 := by omega
   subst e1
   refine ⟨((i0 + 1 : Nat) : Int), w64_id _ (by omega) (by omega), ?_⟩
   exact ⟨by omega, (), ⟨_, rfl, fun x hx => by rw [hw1 x hx]; exact ifc (by omega)⟩, ⟨rfl, rfl, rfl, rfl, trivial⟩⟩
 ·replace h9 := of_decide_eq_false h9
  have e0 : 8 = i0 := by omega
  subst e0
  refine ⟨_, _, _, _, dBf f 0, rfl, ⟨by simp, by omega⟩, fun x hx => by rw [Nat.zero_add, hw0 x hx, if_pos (by omega)], ?_⟩
  refine ⟨_, _, _, rfl, cputs_by (by simp) (by omega), eqBk_rfl, ?_⟩
  exact ⟨rfl, false, [], 512, _, dBf f 0, rfl, ⟨by simp, by omega⟩, fun x hx => by simp [spl, hx], rfl, Ext.nil⟩

theorem s_DualCoalgebra_ok (B : Bs P ρ) (E : F_s_DualCoalgebra P ρ) {p n : Int} {f : By} :
    CallOK P ρ 207 [.ag [p, n] 522 f] [] (dcV p n f) [] := by
  refine (CallR.pure (call_of_q B.fn B.mo E.1 rfl (fun _ _ => ?_) rfl) rfl).ok
  refine ⟨_, rfl, ?_⟩
  refine ⟨_, rfl, ?_⟩
  refine .inl ⟨_, _, _, _, rfl, ⟨rfl, by omega⟩, ?_⟩
  refine ⟨_, s_l01Is_ok B E.2.1 (p := p) (n := n) (f := f), rfl, ?_⟩
  refine ⟨fun h6 => ?_, fun h6 => ?_⟩
  · skip
    have hA : ¬ Alg p n f := fun z => by rw [decide_eq_true z] at h6; cases h6
    refine ⟨_, _, _, rfl, cputs_2, eqBk_rfl, ?_⟩
    first
      | (refine ⟨rfl, false, _, 522, _, rfl, ⟨rfl, by omega⟩, ?_, Ext.nil⟩
         show _ = dcV p n f
         unfold dcV
         rw [if_neg hA, if_neg hA, if_neg hA, oc_f hA]
         rfl)
      | (refine ⟨rfl, false, _, 522, _, rfl, ⟨rfl, by omega⟩, ?_, Ext.nil⟩
         show _ = dcV p n f
         unfold dcV
         rw [if_pos hA, if_pos hA, if_pos hA, oc_t hA]
         rfl)
  · skip
    have hA : Alg p n f := by simpa using h6
    refine ⟨_, _, rfl, rfl, ?_⟩
    refine ⟨_, _, rfl, rfl, ?_⟩
    refine ⟨_, _, _, _, sh f 2, rfl, ⟨by simp, by omega⟩, fun x hx => rfl, ?_⟩
    refine ⟨_, _, _, _, sh f 10, rfl, ⟨by simp, by omega⟩, fun x hx => rfl, ?_⟩
    refine ⟨_, s_l02Turned_ok B E.2.2 (f := sh f 10), rfl, ?_⟩
    refine ⟨_, s_l02Turned_ok B E.2.2 (f := dBf (sh f 10) 0), rfl, ?_⟩
    refine ⟨_, _, _, rfl, cputs_2, eqBk_rfl, ?_⟩
    first
      | (refine ⟨rfl, false, _, 522, _, rfl, ⟨rfl, by omega⟩, ?_, Ext.nil⟩
         show _ = dcV p n f
         unfold dcV
         rw [if_neg hA, if_neg hA, if_neg hA, oc_f hA]
         rfl)
      | (refine ⟨rfl, false, _, 522, _, rfl, ⟨rfl, by omega⟩, ?_, Ext.nil⟩
         show _ = dcV p n f
         unfold dcV
         rw [if_pos hA, if_pos hA, if_pos hA, oc_t hA]
         rfl)

set_option maxHeartbeats 2000000 in
theorem s_l02Draw_ok (B : Bs P ρ) (E : F_s_l02Draw P ρ) {H : List Blk} {s : Nat} (hS : Src H s) :
  CallR P ρ 201 [.pt s 0] H (DrA H s) := by
 have hsl := hS.lt
 refine call_of_q B.fn B.mo E.1 rfl (fun hAr hHp => ?_) (by simp [At.lt, hS.lt])
 refine ⟨_, rfl, ?_⟩
 refine ⟨_, s_l01Next_ok B E.2.1 (hS.ext Ext.app), ?_⟩
 rintro _ G11 ⟨z11, rfl, hz11, hf11, hS11⟩
 have hF11 : Fr [s] H G11 := (Ext.app.fr).trans hf11
 have hm11 := hf11.get get_new (by omega)
 refine ⟨fun h12 => ?_, fun h12 => ?_⟩
 ·replace h12 := eq_of_beq h12
  refine ⟨_, s_l01DrawPrime_ok B E.2.2.1 hS11, ?_⟩
  rintro _ G15 ⟨p, hp, rfl, hf15, hS15⟩
  refine ⟨_, s_l01Next_ok B E.2.1 hS15, ?_⟩
  rintro _ G17 ⟨z17, rfl, hz17, hf17, hS17⟩
  obtain ⟨x17, rfl⟩ : ∃ x : Nat, z17 = (x : Int) := ⟨z17.toNat, by have := hz17.1; omega⟩
  have hb17 := hz17.2.2 (by omega)
  have hA : ∀ X : List Blk, (G17 ++ X)[H.length]? = some ⟨false, (Zk.by 2 522).bk⟩ ∧ Fr [s] H (G17 ++ X) ∧ Src (G17 ++ X) s := fun X =>
   ⟨app_old (hf17.get (hf15.get hm11 (by omega)) (by omega)), ((hF11.trans hf15).trans hf17).trans Ext.app.fr, hS17.ext Ext.app⟩
  refine ⟨((1 + x17 : Nat) : Int), (w64_id _ (by omega) (by omega)).trans (by omega), ?_⟩
  refine ⟨_, rfl, ?_⟩
  refine ⟨_, _, _, get_new, cputs_2, eqBk_rfl, ?_⟩
  rw [app_set0]
  refine ⟨Unit, (fun a2 a3 (i0 : Nat) (x0 : Unit) => [(2, a2), (3, a3), (4, .one (.i .i64 ((i0 : Nat) : Int)))]) _ _ , fun (i0 : Nat) (x0 : Unit) (G0 : List Blk) => (∃ f : By, G0 = G17 ++ [⟨false, .by [p, ((1 + x17 : Nat) : Int)] 522 f⟩]), 1 + x17, ⟨(), ⟨_, rfl⟩, ⟨rfl, rfl, rfl, trivial⟩⟩, ?_⟩
  rintro i0 _ G0 hi0 ⟨f0, rfl⟩
  refine ⟨_, _, get_new, rfl, ?_⟩
  refine ⟨fun h23 => ?_, fun h23 => ?_⟩
  ·replace h23 := of_decide_eq_true h23
   refine ⟨i0, _, rfl, by omega, rfl, ?_⟩
   refine ⟨_, _, _, get_new, cput_u (by simp <;> omega) (by omega), eqBk_rfl, ?_⟩
   rw [app_set0]
   refine ⟨i0, _, rfl, by omega, rfl, ?_⟩
   refine ⟨i0, _, rfl, by omega, rfl, ?_⟩
   refine ⟨i0, _, rfl, by omega, rfl, ?_⟩
   refine ⟨_, _, _, get_new, cput_u (by simp <;> omega) (by omega), eqBk_rfl, ?_⟩
   refine ⟨((i0 + 1 : Nat) : Int), w64_id _ (by omega) (by omega), ?_⟩
   exact ⟨by omega, (), ⟨_, app_set0⟩, ⟨rfl, rfl, rfl, trivial⟩⟩
  ·replace h23 := of_decide_eq_false h23
   have e0 : 1 + x17 = i0 := by omega
   subst e0
   refine .inl ⟨_, _, _, _, get_new, ⟨rfl, by omega⟩, ?_⟩
   refine ⟨_, _, _, (hA _).1, cputs_2, eqBk_rfl, ?_⟩
   exact ⟨rfl, false, _, 522, _, set_same (hA _).1, ⟨rfl, by omega⟩, ⟨_, _, _, rfl, (hA _).2.1.set (Nat.le_refl _), (hA _).2.2.set (hA _).1 rfl (by omega)⟩⟩
 ·replace h12 := ne_of_beq_false h12
  refine ⟨fun h37 => ?_, fun h37 => ?_⟩
  ·replace h37 := eq_of_beq h37
   refine ⟨_, s_l01DrawPrime_ok B E.2.2.1 hS11, ?_⟩
   rintro _ G40 ⟨p, hp, rfl, hf40, hS40⟩
   refine ⟨_, s_l01Next_ok B E.2.1 hS40, ?_⟩
   rintro _ G42 ⟨z42, rfl, hz42, hf42, hS42⟩
   obtain ⟨x42, rfl⟩ : ∃ x : Nat, z42 = (x : Int) := ⟨z42.toNat, by have := hz42.1; omega⟩
   have hb42 := hz42.2.2 (by omega)
   have hA : ∀ X : List Blk, (G42 ++ X)[H.length]? = some ⟨false, (Zk.by 2 522).bk⟩ ∧ Fr [s] H (G42 ++ X) ∧ Src (G42 ++ X) s := fun X =>
    ⟨app_old (hf42.get (hf40.get hm11 (by omega)) (by omega)), ((hF11.trans hf40).trans hf42).trans Ext.app.fr, hS42.ext Ext.app⟩
   refine ⟨((1 + x42 : Nat) : Int), (w64_id _ (by omega) (by omega)).trans (by omega), ?_⟩
   refine ⟨_, rfl, ?_⟩
   refine ⟨_, _, _, get_new, cputs_2, eqBk_rfl, ?_⟩
   rw [app_set0]
   refine ⟨Unit, (fun a2 a5 (i1 : Nat) (x1 : Unit) => [(2, a2), (5, a5), (6, .one (.i .i64 ((i1 : Nat) : Int)))]) _ _ , fun (i1 : Nat) (x1 : Unit) (G1 : List Blk) => (∃ f : By, G1 = G42 ++ [⟨false, .by [p, ((1 + x42 : Nat) : Int)] 522 f⟩]), 1 + x42, ⟨(), ⟨_, rfl⟩, ⟨rfl, rfl, rfl, trivial⟩⟩, ?_⟩
   rintro i1 _ G1 hi1 ⟨f1, rfl⟩
   refine ⟨_, _, get_new, rfl, ?_⟩
   refine ⟨fun h49 => ?_, fun h49 => ?_⟩
   ·replace h49 := of_decide_eq_true h49
    refine ⟨Unit, (fun a2 a5 a6 (i2 : Nat) (x2 : Unit) => [(2, a2), (5, a5), (6, a6), (7, .one (.i .i64 ((i2 : Nat) : Int)))]) _ _ _ , fun (i2 : Nat) (x2 : Unit) (G2 : List Blk) => (∃ f : By, G2 = G42 ++ [⟨false, .by [p, ((1 + x42 : Nat) : Int)] 522 f⟩]), i1 + 1, ⟨(), ⟨_, rfl⟩, ⟨rfl, rfl, rfl, rfl, trivial⟩⟩, ?_⟩
    rintro i2 _ G2 hi2 ⟨f2, rfl⟩
    refine ⟨fun h54 => ?_, fun h54 => ?_⟩
    ·replace h54 := of_decide_eq_true h54
     refine ⟨((i1 - i2 : Nat) : Int), (w64_id _ (by omega) (by omega)).trans (by omega), ?_⟩
     refine ⟨i1, _, rfl, by omega, rfl, ?_⟩
     refine ⟨i2, _, rfl, by omega, rfl, ?_⟩
     refine ⟨i1 - i2, _, rfl, by omega, rfl, ?_⟩
     refine ⟨_, _, _, get_new, cput_u (by simp <;> omega) (by omega), eqBk_rfl, ?_⟩
     refine ⟨((i2 + 1 : Nat) : Int), w64_id _ (by omega) (by omega), ?_⟩
     exact ⟨by omega, (), ⟨_, app_set0⟩, ⟨rfl, rfl, rfl, rfl, trivial⟩⟩
    ·replace h54 := of_decide_eq_false h54
     have e2 : i1 + 1 = i2 := by omega
     subst e2
     refine ⟨((i1 + 1 : Nat) : Int), w64_id _ (by omega) (by omega), ?_⟩
     exact ⟨by omega, (), ⟨_, rfl⟩, ⟨rfl, rfl, rfl, trivial⟩⟩
   ·replace h49 := of_decide_eq_false h49
    have e1 : 1 + x42 = i1 := by omega
    subst e1
    refine .inl ⟨_, _, _, _, get_new, ⟨rfl, by omega⟩, ?_⟩
    refine ⟨_, _, _, (hA _).1, cputs_2, eqBk_rfl, ?_⟩
    exact ⟨rfl, false, _, 522, _, set_same (hA _).1, ⟨rfl, by omega⟩, ⟨_, _, _, rfl, (hA _).2.1.set (Nat.le_refl _), (hA _).2.2.set (hA _).1 rfl (by omega)⟩⟩
  ·replace h37 := ne_of_beq_false h37
   refine ⟨_, s_l01Draw_ok B E.2.2.2.1 hS11, ?_⟩
   rintro _ G69 ⟨p69, q69, f69, rfl, hf69, hS69⟩
   have hA : ∀ X : List Blk, (G69 ++ X)[H.length]? = some ⟨false, (Zk.by 2 522).bk⟩ ∧ Fr [s] H (G69 ++ X) ∧ Src (G69 ++ X) s := fun X =>
    ⟨app_old (hf69.get hm11 (by omega)), (hF11.trans hf69).trans Ext.app.fr, hS69.ext Ext.app⟩
   refine ⟨_, s_DualCoalgebra_ok B E.2.2.2.2 (p := p69) (n := q69) (f := f69), rfl, ?_⟩
   refine ⟨_, rfl, ?_⟩
   refine ⟨_, _, _, get_new, cputs_2, eqBk_rfl, ?_⟩
   rw [app_set0]
   refine .inl ⟨_, _, _, _, get_new, ⟨rfl, by omega⟩, ?_⟩
   refine ⟨_, _, _, (hA _).1, cputs_2, eqBk_rfl, ?_⟩
   exact ⟨rfl, false, _, 522, _, set_same (hA _).1, ⟨rfl, by omega⟩, ⟨_, _, _, rfl, (hA _).2.1.set (Nat.le_refl _), (hA _).2.2.set (hA _).1 rfl (by omega)⟩⟩

set_option maxHeartbeats 2000000 in
theorem s_l02Bad_ok (B : Bs P ρ) (E : F_s_l02Bad P ρ) {H : List Blk} {s : Nat} {p q : Int} {f : By} (hS : Src H s) :
  CallR P ρ 202 [.pt s 0, .ag [p, q] 522 f] H (DrA H s) := by
 have hsl := hS.lt
 refine call_of_q B.fn B.mo E.1 rfl (fun hAr hHp => ?_) (by simp [At.lt, hS.lt])
 refine ⟨_, rfl, ?_⟩
 refine ⟨H.length + 1, by simp, ?_⟩
 refine ⟨_, s_l01Next_ok B E.2.1 ((hS.ext Ext.app).ext Ext.app), ?_⟩
 rintro _ G6 ⟨z6, rfl, hz6, hf6, hS6⟩
 have hF6 : Fr [s] H G6 := (Ext.app.trans Ext.app).fr.trans hf6
 have hk6 := hf6.get (k := H.length) (app_old get_new) (by omega)
 have hm6 := hf6.get (k := H.length + 1) get_new1 (by omega)
 refine ⟨fun h7 => ?_, fun h7 => ?_⟩
 ·replace h7 := eq_of_beq h7
  refine ⟨_, rfl, ?_⟩
  refine ⟨_, s_l01Pick_ok B E.2.2 (L := [0, 4, 37]) (hS6.ext Ext.app) ⟨false, _, get_new, by simp, rfl⟩ (by simp [At.lt]) (by have := hS6.lt; simp [spB]; omega) (by simp), ?_⟩
  rintro _ G11 ⟨z11, hz11, rfl, hf11, hS11⟩
  have hk11 := hf11.get (k := H.length) (app_old hk6) (by omega)
  have hm11 := hf11.get (k := H.length + 1) (app_old hm6) (by omega)
  refine ⟨_, _, .by [z11, q] 522 f, hk11, cput_i (by simp) (by omega), eqBk_rfl, ?_⟩
  have hkE := set_same (B := ⟨false, .by [z11, q] 522 f⟩) hk11
  have hmE := set_other (B := ⟨false, .by [z11, q] 522 f⟩) hm11 (show H.length ≠ H.length + 1 by omega)
  have hFE := ((hF6.trans Ext.app.fr).trans hf11).set (B := ⟨false, .by [z11, q] 522 f⟩) (Nat.le_refl _)
  have hSE := hS11.set (B := ⟨false, .by [z11, q] 522 f⟩) hk11 rfl (by omega)
  refine .inl ⟨_, _, _, _, hkE, ⟨rfl, by omega⟩, ?_⟩
  refine ⟨_, _, _, hmE, cputs_2, eqBk_rfl, ?_⟩
  exact ⟨rfl, false, _, 522, _, set_same hmE, ⟨rfl, by omega⟩, ⟨_, _, _, rfl, hFE.set (Nat.le_succ _), hSE.set hmE rfl (by omega)⟩⟩
 ·replace h7 := ne_of_beq_false h7
  refine ⟨fun h13 => ?_, fun h13 => ?_⟩
  ·replace h13 := eq_of_beq h13
   refine ⟨_, _, hk6, rfl, ?_⟩
   refine ⟨_, rfl, ?_⟩
   refine ⟨_, rfl, ?_⟩
   refine ⟨_, s_l01Pick_ok B E.2.2 (L := [0, 9, w64 (q - 1)]) (hS6.ext Ext.app) ⟨false, _, get_new, by simp, rfl⟩ (by simp [At.lt]) (by have := hS6.lt; simp [spB]; omega) (by simp), ?_⟩
   rintro _ G20 ⟨z20, hz20, rfl, hf20, hS20⟩
   have hk20 := hf20.get (k := H.length) (app_old hk6) (by omega)
   have hm20 := hf20.get (k := H.length + 1) (app_old hm6) (by omega)
   refine ⟨_, _, .by [p, z20] 522 f, hk20, cput_i (by simp) (by omega), eqBk_rfl, ?_⟩
   have hkE := set_same (B := ⟨false, .by [p, z20] 522 f⟩) hk20
   have hmE := set_other (B := ⟨false, .by [p, z20] 522 f⟩) hm20 (show H.length ≠ H.length + 1 by omega)
   have hFE := ((hF6.trans Ext.app.fr).trans hf20).set (B := ⟨false, .by [p, z20] 522 f⟩) (Nat.le_refl _)
   have hSE := hS20.set (B := ⟨false, .by [p, z20] 522 f⟩) hk20 rfl (by omega)
   refine .inl ⟨_, _, _, _, hkE, ⟨rfl, by omega⟩, ?_⟩
   refine ⟨_, _, _, hmE, cputs_2, eqBk_rfl, ?_⟩
   exact ⟨rfl, false, _, 522, _, set_same hmE, ⟨rfl, by omega⟩, ⟨_, _, _, rfl, hFE.set (Nat.le_succ _), hSE.set hmE rfl (by omega)⟩⟩
  ·replace h13 := ne_of_beq_false h13
   refine ⟨fun h22 => ?_, fun h22 => ?_⟩
   ·replace h22 := eq_of_beq h22
    refine ⟨_, s_l01Next_ok B E.2.1 hS6, ?_⟩
    rintro _ G25 ⟨z25, rfl, hz25, hf25, hS25⟩
    obtain ⟨x25, rfl⟩ : ∃ x : Nat, z25 = (x : Int) := ⟨z25.toNat, by have := hz25.1; omega⟩
    have hb25 := hz25.2.2 (by omega)
    refine ⟨x25, _, rfl, by omega, rfl, ?_⟩
    refine ⟨_, s_l01Next_ok B E.2.1 hS25, ?_⟩
    rintro _ G27 ⟨z27, rfl, hz27, hf27, hS27⟩
    obtain ⟨x27, rfl⟩ : ∃ x : Nat, z27 = (x : Int) := ⟨z27.toNat, by have := hz27.1; omega⟩
    have hb27 := hz27.2.2 (by omega)
    refine ⟨x27, _, rfl, by omega, rfl, ?_⟩
    refine ⟨_, s_l01Next_ok B E.2.1 hS27, ?_⟩
    rintro _ G29 ⟨z29, rfl, hz29, hf29, hS29⟩
    obtain ⟨x29, rfl⟩ : ∃ x : Nat, z29 = (x : Int) := ⟨z29.toNat, by have := hz29.1; omega⟩
    have hb29 := hz29.2.2 (by omega)
    refine ⟨_, s_l01Next_ok B E.2.1 hS29, ?_⟩
    rintro _ G31 ⟨z31, rfl, hz31, hf31, hS31⟩
    refine ⟨x29, _, rfl, by omega, rfl, ?_⟩
    have hF31 := (((hF6.trans hf25).trans hf27).trans hf29).trans hf31
    have hk31 := hf31.get (hf29.get (hf27.get (hf25.get hk6 (by omega)) (by omega)) (by omega)) (by omega)
    have hm31 := hf31.get (hf29.get (hf27.get (hf25.get hm6 (by omega)) (by omega)) (by omega)) (by omega)
    refine ⟨_, _, .by [p, q] 522 (upd f (0 + 10 + x25 * 64 + x27 * 8 + x29 * 1) (byt z31)), hk31, cput_u (by simp <;> omega) (by omega), eqBk_rfl, ?_⟩
    have hkE := set_same (B := ⟨false, .by [p, q] 522 (upd f (0 + 10 + x25 * 64 + x27 * 8 + x29 * 1) (byt z31))⟩) hk31
    have hmE := set_other (B := ⟨false, .by [p, q] 522 (upd f (0 + 10 + x25 * 64 + x27 * 8 + x29 * 1) (byt z31))⟩) hm31 (show H.length ≠ H.length + 1 by omega)
    have hFE := hF31.set (B := ⟨false, .by [p, q] 522 (upd f (0 + 10 + x25 * 64 + x27 * 8 + x29 * 1) (byt z31))⟩) (Nat.le_refl _)
    have hSE := hS31.set (B := ⟨false, .by [p, q] 522 (upd f (0 + 10 + x25 * 64 + x27 * 8 + x29 * 1) (byt z31))⟩) hk31 rfl (by omega)
    refine .inl ⟨_, _, _, _, hkE, ⟨rfl, by omega⟩, ?_⟩
    refine ⟨_, _, _, hmE, cputs_2, eqBk_rfl, ?_⟩
    exact ⟨rfl, false, _, 522, _, set_same hmE, ⟨rfl, by omega⟩, ⟨_, _, _, rfl, hFE.set (Nat.le_succ _), hSE.set hmE rfl (by omega)⟩⟩
   ·replace h22 := ne_of_beq_false h22
    refine ⟨fun h37 => ?_, fun h37 => ?_⟩
    ·replace h37 := eq_of_beq h37
     refine ⟨_, s_l01Next_ok B E.2.1 hS6, ?_⟩
     rintro _ G40 ⟨z40, rfl, hz40, hf40, hS40⟩
     obtain ⟨x40, rfl⟩ : ∃ x : Nat, z40 = (x : Int) := ⟨z40.toNat, by have := hz40.1; omega⟩
     have hb40 := hz40.2.2 (by omega)
     refine ⟨_, s_l01Next_ok B E.2.1 hS40, ?_⟩
     rintro _ G42 ⟨z42, rfl, hz42, hf42, hS42⟩
     refine ⟨x40, _, rfl, by omega, rfl, ?_⟩
     have hF42 := (hF6.trans hf40).trans hf42
     have hk42 := hf42.get (hf40.get hk6 (by omega)) (by omega)
     have hm42 := hf42.get (hf40.get hm6 (by omega)) (by omega)
     refine ⟨_, _, .by [p, q] 522 (upd f (0 + 2 + x40 * 1) (byt z42)), hk42, cput_u (by simp <;> omega) (by omega), eqBk_rfl, ?_⟩
     have hkE := set_same (B := ⟨false, .by [p, q] 522 (upd f (0 + 2 + x40 * 1) (byt z42))⟩) hk42
     have hmE := set_other (B := ⟨false, .by [p, q] 522 (upd f (0 + 2 + x40 * 1) (byt z42))⟩) hm42 (show H.length ≠ H.length + 1 by omega)
     have hFE := hF42.set (B := ⟨false, .by [p, q] 522 (upd f (0 + 2 + x40 * 1) (byt z42))⟩) (Nat.le_refl _)
     have hSE := hS42.set (B := ⟨false, .by [p, q] 522 (upd f (0 + 2 + x40 * 1) (byt z42))⟩) hk42 rfl (by omega)
     refine .inl ⟨_, _, _, _, hkE, ⟨rfl, by omega⟩, ?_⟩
     refine ⟨_, _, _, hmE, cputs_2, eqBk_rfl, ?_⟩
     exact ⟨rfl, false, _, 522, _, set_same hmE, ⟨rfl, by omega⟩, ⟨_, _, _, rfl, hFE.set (Nat.le_succ _), hSE.set hmE rfl (by omega)⟩⟩
    ·replace h37 := ne_of_beq_false h37
     have hkE := hk6
     have hmE := hm6
     have hFE := hF6
     have hSE := hS6
     refine .inl ⟨_, _, _, _, hkE, ⟨rfl, by omega⟩, ?_⟩
     refine ⟨_, _, _, hmE, cputs_2, eqBk_rfl, ?_⟩
     exact ⟨rfl, false, _, 522, _, set_same hmE, ⟨rfl, by omega⟩, ⟨_, _, _, rfl, hFE.set (Nat.le_succ _), hSE.set hmE rfl (by omega)⟩⟩

theorem s_l02Spoil_ok (B : Bs P ρ) (E : F_s_l02Spoil P ρ) {H : List Blk} {s : Nat} (hS : Src H s) :
  CallR P ρ 193 [.pt s 0] H (DrA H s) := by
 have hsl := hS.lt
 refine call_of_q B.fn B.mo E.1 rfl (fun hAr hHp => ?_) (by simp [At.lt, hS.lt])
 refine ⟨_, rfl, ?_⟩
 refine ⟨_, s_l02Draw_ok B E.2.1 (hS.ext Ext.app), ?_⟩
 rintro _ G5 ⟨p, q, f, rfl, hf5, hS5⟩
 refine ⟨_, s_l02Bad_ok B E.2.2 (p := p) (q := q) (f := f) hS5, ?_⟩
 rintro _ G6 ⟨p6, q6, f6, rfl, hf6, hS6⟩
 have hF6 : Fr [s] H G6 := (Ext.app.fr.trans hf5).trans hf6
 have hm6 := hf6.get (hf5.get get_new (by omega)) (by omega)
 refine ⟨_, _, _, hm6, cputs_2, eqBk_rfl, ?_⟩
 exact ⟨rfl, false, _, 522, _, set_same hm6, ⟨rfl, by omega⟩, ⟨_, _, _, rfl, hF6.set (Nat.le_refl _), hS6.set hm6 rfl (by omega)⟩⟩


end Hf
namespace Hf
open Go Classical
variable {P : Program} {ρ : Nat → FuncId}
theorem at_k {H l : List Blk} {i : Nat} : (H ++ l)[H.length + i]? = l[i]? := by
 rw [List.getElem?_append_right (by omega), Nat.add_sub_cancel_left]
theorem ap2 {H : List Blk} {A B : Blk} : H ++ [A] ++ [B] = H ++ [A, B] := by simp
theorem Ext.fr' {s : Nat} {H G G' : List Blk} (h : Ext H G) (f : Fr [s] G G') (hs : H.length ≤ s) : Ext H G' := fun k B e => f k B (by have := lt_of e; simp; omega) (h k B e)
theorem Fr.ext {s : Nat} {H G : List Blk} (h : Fr [s] H G) (hs : H.length ≤ s) : Ext H G := fun k B e => h k B (by have := lt_of e; simp; omega) e
end Hf
namespace Hf
open Go Classical
variable {P : Program} {ρ : Nat → FuncId}
theorem mz_hd {y x : Int} (h : y ≠ 0) : fz [y, x] = y := by simp [fz, h]
theorem mz_tl {x : Int} : fz [0, x] = x := by by_cases h : x = 0 <;> simp [fz, h]
end Hf
namespace Hf
open Go Classical
variable {P : Program} {ρ : Nat → FuncId}
/-- the law's code, however long -/
def CV (H : List Blk) (a : At) : Prop := a = .sn ∨ ∃ k off len cap r cs fz, a = .sl k off len cap ∧ H[k]? = some ⟨r, .fo cs fz⟩ ∧ len ≤ 9223372036854775807 ∧ ∀ y, y < len → ∃ u : UInt8, cs[off + y]? = some (.int .u8 (u.toNat : Int))
theorem CV.len {H : List Blk} {a : At} (h : CV H a) : ∃ n, lenA a = some n ∧ n ≤ 9223372036854775807 := by
 rcases h with rfl | ⟨k, off, len, cap, r, cs, fz, rfl, -, h, -⟩
 ·exact ⟨0, rfl, by omega⟩
 ·exact ⟨len, rfl, h⟩
theorem CV.lt {H : List Blk} {a : At} (h : CV H a) : a.lt H.length = true := by
 rcases h with rfl | ⟨k, off, len, cap, r, cs, fz, rfl, h1, -⟩
 ·rfl
 ·simp [At.lt, lt_of h1]
theorem CV.cb {H : List Blk} {a : At} {n : Nat} (h : CV H a) (hn : lenA a = some n) (h2 : n ≤ 4096) : CB H a := by
 rcases h with rfl | ⟨k, off, len, cap, r, cs, fz, rfl, h1, h3, h4⟩
 ·exact .inl rfl
 ·have : len = n := by simpa [lenA] using hn
  exact .inr ⟨k, off, len, cap, r, cs, fz, rfl, h1, by omega, h4⟩
theorem eqB_self {n : Nat} {f : By} : eqB n f f = true := eqB_iff.2 fun _ _ => rfl
theorem as1 {H l : List Blk} {B : Blk} : H ++ l ++ [B] = H ++ (l ++ [B]) := List.append_assoc _ _ _
end Hf
namespace Hf
open Go Classical
variable {P : Program} {ρ : Nat → FuncId}
theorem s_l02Any_ok (B : Bs P ρ) (E : F_s_l02Any P ρ) {H : List Blk} {s : Nat} {p q : Int} {f : By} (hS : Src H s) :
  CallR P ρ 422 [.pt s 0, .ag [p, q] 522 f] H (fun u G => ∃ v : By, u = .one (.ag [] 8 v) ∧ Fr [s] H G ∧ Src G s) := by
 have hsl := hS.lt
 refine call_of_q B.fn B.mo E.1 rfl (fun hAr hHp => ?_) (by simp [At.lt, hS.lt])
 refine ⟨_, rfl, ?_⟩
 refine ⟨H.length + 1, by simp, ?_⟩
 rw [ap2]
 refine ⟨_, _, at_k (i := 0), rfl, ?_⟩
 refine ⟨_, _, at_k (i := 0), rfl, ?_⟩
 refine ⟨_, s_l01DrawVector_ok B E.2.1 (hS.ext Ext.app), ?_⟩
 rintro _ G11 ⟨v11, rfl, hf11, hS11⟩
 have hF11 : Fr [s] H G11 := Ext.app.fr.trans hf11
 have hm11 := hf11.get (at_k (i := 1)) (by omega)
 refine ⟨_, rfl, ?_⟩
 refine ⟨_, _, _, get_new, cputs_by (by simp) (by omega), eqBk_rfl, ?_⟩
 rw [app_set0]
 generalize hw : spl (fun _ => 0) (0 - 0) 8 v11 = w
 refine ⟨_, s_l01Next_ok B E.2.2.1 (hS11.ext Ext.app), ?_⟩
 rintro _ G13 ⟨z13, rfl, hz13, hf13, hS13⟩
 have hF13 : Fr [s] H G13 := (hF11.trans Ext.app.fr).trans hf13
 have hm13 := hf13.get (app_old hm11) (by omega)
 have hk13 := hf13.get (get_new (H := G11)) (by have := hS11.lt; omega)
 have hlk := lt_of hm11
 refine ⟨fun h14 => ?_, fun h14 => ?_⟩
 ·replace h14 := eq_of_beq h14
  refine ⟨_, s_l01Next_ok B E.2.2.1 hS13, ?_⟩
  rintro _ G16 ⟨z16, rfl, hz16, hf16, hS16⟩
  obtain ⟨x16, rfl⟩ : ∃ x : Nat, z16 = (x : Int) := ⟨z16.toNat, by have := hz16.1; omega⟩
  have hb16 := hz16.2.2 (by omega)
  have hm16 := hf16.get hm13 (by omega)
  have hk16 := hf16.get hk13 (by have := hS11.lt; omega)
  refine ⟨_, rfl, ?_⟩
  refine ⟨_, s_l01Pick_ok B E.2.2.2 (L := [1, 31, 255]) (hS16.ext Ext.app) ⟨false, _, get_new, by simp, rfl⟩ (by simp [At.lt]) (by have := hS16.lt; simp [spB]; omega) (by simp), ?_⟩
  rintro _ G19 ⟨z19, hz19, rfl, hf19, hS19⟩
  have hm19 := hf19.get (app_old hm16) (by omega)
  have hk19 := hf19.get (app_old hk16) (by have := hS11.lt; omega)
  have hF19 : Fr [s] H G19 := ((hF13.trans hf16).trans Ext.app.fr).trans hf19
  refine ⟨x16, _, rfl, by omega, rfl, ?_⟩
  refine ⟨_, _, _, hk19, cput_u (by simp <;> omega) (by omega), eqBk_rfl, ?_⟩
  have hkE := set_same (B := ⟨false, .by [] 8 (upd w (0 + x16 * 1) (byt z19))⟩) hk19
  have hmE := set_other (B := ⟨false, .by [] 8 (upd w (0 + x16 * 1) (byt z19))⟩) hm19 (show G11.length ≠ H.length + 1 by omega)
  have hFE := hF19.set (B := ⟨false, .by [] 8 (upd w (0 + x16 * 1) (byt z19))⟩) (show H.length ≤ G11.length by omega)
  have hSE := hS19.set (B := ⟨false, .by [] 8 (upd w (0 + x16 * 1) (byt z19))⟩) hk19 rfl (by have := hS11.lt; omega)
  refine ⟨_, _, _, _, _, hkE, ⟨by simp, by omega⟩, fun x _ => congrArg _ (Nat.zero_add x).symm, ?_⟩
  refine ⟨_, _, _, hmE, cputs_by (by simp) (by omega), eqBk_rfl, ?_⟩
  exact ⟨rfl, false, [], 8, _, _, set_same hmE, ⟨by simp, by omega⟩, fun x hx => rfl, ⟨_, rfl, hFE.set (by omega), hSE.set hmE rfl (by omega)⟩⟩
 ·replace h14 := ne_of_beq_false h14
  have hkE := hk13
  have hmE := hm13
  have hFE := hF13
  have hSE := hS13
  refine ⟨_, _, _, _, _, hkE, ⟨by simp, by omega⟩, fun x _ => congrArg _ (Nat.zero_add x).symm, ?_⟩
  refine ⟨_, _, _, hmE, cputs_by (by simp) (by omega), eqBk_rfl, ?_⟩
  exact ⟨rfl, false, [], 8, _, _, set_same hmE, ⟨by simp, by omega⟩, fun x hx => rfl, ⟨_, rfl, hFE.set (by omega), hSE.set hmE rfl (by omega)⟩⟩

theorem s_l02One_ok (B : Bs P ρ) (E : F_s_l02One P ρ) {H : List Blk} {a : At} (hC : CB H a) :
  CallR P ρ 415 [a] H (fun u G => ∃ (p q : Int) (f v : By), u = .tup [.ag [p, q] 522 f, .ag [] 8 v] ∧ Ext H G) := by
 refine call_of_q B.fn B.mo E.1 rfl (fun hAr hHp => ?_) (by simp only [List.all_cons, List.all_nil, hC.lt]; rfl)
 refine ⟨_, rfl, ?_⟩
 refine ⟨H.length + 1, by simp, ?_⟩
 rw [ap2]
 refine ⟨_, s_l01From_ok B E.2.1 (hC.ext Ext.app), ?_⟩
 rintro _ G7 ⟨rfl, hE7, hS7⟩
 generalize hs : (H ++ [(⟨false, (Zk.by 2 522).bk⟩ : Blk), ⟨false, (Zk.by 0 8).bk⟩]).length = s at hS7
 have hs2 : s = H.length + 2 := by rw [← hs]; simp
 refine ⟨_, s_l02Spoil_ok B E.2.2.1 hS7, ?_⟩
 rintro _ G9 ⟨p, q, f, rfl, hf9, hS9⟩
 have hX9 : Ext H G9 := (Ext.app.trans hE7).fr' hf9 (by omega)
 have hm2 := hf9.get (hE7 _ _ (at_k (i := 0))) (by omega)
 have hm3 := hf9.get (hE7 _ _ (at_k (i := 1))) (by omega)
 have hl9 := hS9.lt
 refine ⟨_, rfl, ?_⟩
 refine ⟨_, _, _, get_new, cputs_2, eqBk_rfl, ?_⟩
 rw [app_set0]
 refine ⟨_, s_l01Next_ok B E.2.2.2.1 (hS9.ext Ext.app), ?_⟩
 rintro _ G11 ⟨z11, rfl, hz11, hf11, hS11⟩
 have hX11 : Ext H G11 := (hX9.trans Ext.app).fr' hf11 (by omega)
 have hm21 := hf11.get (app_old hm2) (by omega)
 have hm31 := hf11.get (app_old hm3) (by omega)
 have hk := hf11.get (get_new (H := G9) (B := ⟨false, .by [p, q] 522 f⟩)) (by omega)
 refine ⟨fun h13 => ?_, fun h13 => ?_⟩
 ·replace h13 := eq_of_beq h13
  refine brB_t ?_
  refine ⟨_, _, hk, rfl, ?_⟩
  refine brB_t ?_
  refine ⟨_, s_l01In_ok B E.2.2.2.2.1 (x := q) (a := 1) (b := 8), rfl, ?_⟩
  refine brB_t ?_
  refine ⟨fun h17 => ?_, fun h17 => ?_⟩
  ·skip
   refine .inl ⟨_, _, _, _, hk, ⟨rfl, by omega⟩, ?_⟩
   refine ⟨_, _, hk, rfl, ?_⟩
   refine ⟨_, s_l01Next_ok B E.2.2.2.1 hS11, ?_⟩
   rintro _ G22 ⟨z22, rfl, hz22, hf22, hS22⟩
   refine ⟨⟨kept1 hk (hf22.get hk (by omega)), trivial⟩, ?_⟩
   obtain ⟨x22, rfl⟩ : ∃ x : Nat, z22 = (x : Int) := ⟨z22.toNat, by have := hz22.1; omega⟩
   have hX22 : Ext H G22 := hX11.fr' hf22 (by omega)
   have hm22 := hf22.get hm21 (by omega)
   have hm32 := hf22.get hm31 (by omega)
   refine ⟨_, s_l01Basis_ok B E.2.2.2.2.2.1 (i := x22) (by have h := of_decide_eq_true h17; have := hz22.2.2 (by omega); omega), rfl, ?_⟩
   refine ⟨_, _, _, hm22, cputs_2, eqBk_rfl, ?_⟩
   refine ⟨_, _, _, set_other hm32 (by omega), cputs_by (by simp) (by omega), eqBk_rfl, ?_⟩
   exact ⟨rfl, false, _, 522, _, set_other (set_same hm22) (by omega), ⟨rfl, by omega⟩, false, [], 8, _, _, set_same (set_other hm32 (by omega)), ⟨by simp, by omega⟩, fun x hx => rfl, ⟨_, _, _, _, rfl, (hX22.set (by omega)).set (by omega)⟩⟩
  ·skip
   refine .inl ⟨_, _, _, _, hk, ⟨rfl, by omega⟩, ?_⟩
   refine .inl ⟨_, _, _, _, hk, ⟨rfl, by omega⟩, ?_⟩
   refine ⟨_, s_l02Any_ok B E.2.2.2.2.2.2 (p := p) (q := q) (f := f) hS11, ?_⟩
   rintro _ G22 ⟨v27, rfl, hf27, hS27⟩
   refine ⟨⟨kept1 hk (hf27.get hk (by omega)), trivial⟩, ?_⟩
   have hX22 : Ext H G22 := hX11.fr' hf27 (by omega)
   have hm22 := hf27.get hm21 (by omega)
   have hm32 := hf27.get hm31 (by omega)
   refine ⟨_, _, _, hm22, cputs_2, eqBk_rfl, ?_⟩
   refine ⟨_, _, _, set_other hm32 (by omega), cputs_by (by simp) (by omega), eqBk_rfl, ?_⟩
   exact ⟨rfl, false, _, 522, _, set_other (set_same hm22) (by omega), ⟨rfl, by omega⟩, false, [], 8, _, _, set_same (set_other hm32 (by omega)), ⟨by simp, by omega⟩, fun x hx => rfl, ⟨_, _, _, _, rfl, (hX22.set (by omega)).set (by omega)⟩⟩
 ·replace h13 := ne_of_beq_false h13
  iterate 4 refine brB_f ?_
  refine .inl ⟨_, _, _, _, hk, ⟨rfl, by omega⟩, ?_⟩
  refine .inl ⟨_, _, _, _, hk, ⟨rfl, by omega⟩, ?_⟩
  refine ⟨_, s_l02Any_ok B E.2.2.2.2.2.2 (p := p) (q := q) (f := f) hS11, ?_⟩
  rintro _ G22 ⟨v27, rfl, hf27, hS27⟩
  refine ⟨⟨kept1 hk (hf27.get hk (by omega)), trivial⟩, ?_⟩
  have hX22 : Ext H G22 := hX11.fr' hf27 (by omega)
  have hm22 := hf27.get hm21 (by omega)
  have hm32 := hf27.get hm31 (by omega)
  refine ⟨_, _, _, hm22, cputs_2, eqBk_rfl, ?_⟩
  refine ⟨_, _, _, set_other hm32 (by omega), cputs_by (by simp) (by omega), eqBk_rfl, ?_⟩
  exact ⟨rfl, false, _, 522, _, set_other (set_same hm22) (by omega), ⟨rfl, by omega⟩, false, [], 8, _, _, set_same (set_other hm32 (by omega)), ⟨by simp, by omega⟩, fun x hx => rfl, ⟨_, _, _, _, rfl, (hX22.set (by omega)).set (by omega)⟩⟩

end Hf
namespace Hf
open Go Classical
variable {P : Program} {ρ : Nat → FuncId}
theorem oc_eqv {q r : Prop} {c : Int} (h : q ↔ r) : oc q c = oc r c := by rw [propext h]
/-- a coalgebra and vectors of it -/
def cgQ (p n : Int) (f : By) (L : List By) : Prop := Cog p n f ∧ ∀ v ∈ L, Vec p n v 0
def cpR (p : Int) (f v : By) (m j : Nat) : By := vec 8 p fun y => sm m fun i => bz v i * bz f (10 + i * 64 + j * 8 + y)
/-- the coproduct -/
def cpF (p : Int) (m : Nat) (f v : By) : By := fun x => if x < 64 then cpR p f v m (x / 8) (x % 8) else 0
def CpI (p : Int) (f v : By) (i j : Nat) (w : By) : Prop := ∀ x, x < 64 → w x = cpR p f v (if x / 8 < j then i + 1 else i) (x / 8) (x % 8)
theorem CpI.z {p : Int} {f v w : By} (h : ∀ x, x < 64 → w x = 0) : CpI p f v 0 0 w := fun x hx => by
 rw [h x hx, if_neg (Nat.not_lt_zero _)]
 unfold cpR vec
 rw [if_pos (by omega)]
 show 0 = byt (0 % p)
 rw [Int.zero_emod]; rfl
theorem CpI.cur {p : Int} {f v w : By} {i j : Nat} (h : CpI p f v i j w) (hj : j < 8) {y : Nat} (hy : y < 8) : w (j * 8 + y) = cpR p f v i j y := by
 rw [h _ (by omega), if_neg (by omega), show (j * 8 + y) / 8 = j by omega, show (j * 8 + y) % 8 = y by omega]
theorem CpI.st {p : Int} {f v w w' : By} {i j : Nat} (h : CpI p f v i j w) (h1 : ∀ x, x < 64 → x / 8 ≠ j → w' x = w x) (h2 : ∀ y, y < 8 → w' (j * 8 + y) = cpR p f v (i + 1) j y) : CpI p f v i (j + 1) w' := fun x hx => by
 by_cases e : x / 8 = j
 ·rw [if_pos (by omega), e]
  have := h2 (x % 8) (by omega)
  rwa [show j * 8 + x % 8 = x by omega] at this
 ·rw [h1 x hx e, h x hx]
  by_cases q : x / 8 < j
  ·rw [if_pos q, if_pos (by omega)]
  ·rw [if_neg q, if_neg (by omega)]
theorem CpI.nx {p : Int} {f v w : By} {i n : Nat} (h : CpI p f v i n w) (hz : ∀ j y, n ≤ j → j < 8 → y < 8 → bz f (10 + i * 64 + j * 8 + y) = 0) : CpI p f v (i + 1) 0 w := fun x hx => by
 rw [h x hx, if_neg (Nat.not_lt_zero _)]
 by_cases q : x / 8 < n
 ·rw [if_pos q]
 ·rw [if_neg q]
  unfold cpR vec
  rw [if_pos (by omega), if_pos (by omega)]
  show byt (_ % p) = byt ((sm i _ + bz v i * bz f (10 + i * 64 + x / 8 * 8 + x % 8)) % p)
  rw [hz _ _ (by omega) (by omega) (by omega), Int.mul_zero, Int.add_zero]
theorem cpR_k {p : Int} {f v : By} {m j : Nat} (hp : 1 ≤ p) (hp2 : p ≤ 256) : vec 8 p (fun y => bz (cpR p f v m j) y + bz v m * bz (sh f (10 + m * 64 + j * 8)) y) = cpR p f v (m + 1) j :=
 vec_congr fun y hy => cg_add (cg_vec hp hp2 hy) cg.rfl'
theorem cpF_of {p : Int} {f v w : By} {m : Nat} (h : CpI p f v m 0 w) : ∀ x, x < 64 → cpF p m f v x = w x := fun x hx => by
 rw [h x hx, if_neg (Nat.not_lt_zero _)]; unfold cpF; rw [if_pos hx]
theorem cpF_8 {p : Int} {n : Nat} {f v : By} (hn : n ≤ 8) (hv : Vec p n v 0) : cpF p 8 f v = cpF p n f v := by
 funext x
 unfold cpF cpR
 split
 ·refine congrFun (congrArg _ (funext fun y => sm_8n hn fun i h1 h2 => ?_)) _
  have := (hv i h2).2 (by omega)
  rw [Nat.zero_add] at this
  rw [this, Int.zero_mul]
 ·rfl
theorem Cog.z {p : Int} {n : Nat} {f : By} (h : Cog p n f) {i j y : Nat} (hi : i < 8) (hj : n ≤ j) (hj8 : j < 8) (hy : y < 8) : bz f (10 + i * 64 + j * 8 + y) = 0 := ((h.1.2.2 i hi).1 j hj8).2 (by omega) y hy
theorem s_l02Code_ok (B : Bs P ρ) (E : F_s_l02Code P ρ) {H : List Blk} {p n : Int} {f : By} {a : At} {L : List By} (hL : VS H a L) (hlen : L.length ≤ 1000000) :
  CallR P ρ 416 [.ag [p, n] 522 f, a] H (fun u G => u = .one (.i .i64 (oc (cgQ p n f L) 1)) ∧ G = H) := by
 refine CallR.pure (call_of_q B.fn B.mo E.1 rfl (fun hA hH => ?_) (by simp only [List.all_cons, List.all_nil, hL.lt]; rfl)) rfl
 refine ⟨_, rfl, ?_⟩
 refine .inl ⟨_, _, _, _, get_new, ⟨rfl, by omega⟩, ?_⟩
 refine ⟨_, s_l02Is_ok B E.2.1 (p := p) (n := n) (f := f), rfl, ?_⟩
 refine ⟨fun h8 => ?_, fun h8 => ?_⟩
 ·skip
  have hq : ¬ Cog p n f := fun z => by rw [decide_eq_true z] at h8; cases h8
  exact ⟨rfl, by rw [oc_f fun q : cgQ p n f L => hq q.1]; rfl, Ext.app⟩
 ·skip
  have hq : Cog p n f := by simpa using h8
  refine ⟨Unit, (fun a1 a2 (i0 : Nat) (x0 : Unit) => [(1, a1), (2, a2), (5, .one (.i .i64 ((i0 : Nat) : Int)))]) _ _ , fun (i0 : Nat) (x0 : Unit) (G0 : List Blk) => (G0 = H ++ [⟨false, .by [p, n] 522 f⟩] ∧ ∀ i, i < i0 → Vec p n (L.getD i z0) 0), L.length, ⟨(), ⟨rfl, fun i h => absurd h (by omega)⟩, ⟨rfl, rfl, rfl, trivial⟩⟩, ?_⟩
  rintro i0 _ G0 hi0 ⟨rfl, hF0⟩
  refine ⟨_, (hL).len, ?_⟩
  refine ⟨fun h12 => ?_, fun h12 => ?_⟩
  ·replace h12 := of_decide_eq_true h12
   refine ⟨_, _, get_new, rfl, ?_⟩
   refine ⟨_, _, get_new, rfl, ?_⟩
   obtain ⟨k21, o21, n21, c21, q21, ea21, hl21, hq21, r21, N21, f21, hk21, hN21, hf21⟩ := (hL.ext Ext.app).at i0 (by omega)
   refine ⟨k21, o21, n21, c21, i0, q21, ea21, rfl, hl21, hq21, ?_⟩
   refine ⟨_, _, _, _, _, hk21, ⟨by simp, hN21⟩, hf21, ?_⟩
   refine ⟨_, s_l01Vector_ok B E.2.2 , rfl, ?_⟩
   refine ⟨fun h24 => ?_, fun h24 => ?_⟩
   ·skip
    have q24 : ¬ Vec p n (L.getD i0 z0) 0 := fun q => by rw [decide_eq_true q] at h24; cases h24
    exact ⟨rfl, by rw [oc_f fun q : cgQ p n f L => q24 (q.2 _ (getD_mem (by omega)))]; rfl, Ext.app⟩
   ·skip
    have q24 : Vec p n (L.getD i0 z0) 0 := by simpa using h24
    refine ⟨((i0 + 1 : Nat) : Int), w64_id _ (by omega) (by omega), ?_⟩
    refine ⟨by omega, (), ?_, ⟨rfl, rfl, rfl, trivial⟩⟩
    refine ⟨rfl, fun i hi => ?_⟩
    by_cases e : i = i0
    ·subst e; exact q24
    ·exact hF0 i (by omega)
  ·replace h12 := of_decide_eq_false h12
   have e0 : L.length = i0 := by omega
   subst e0
   exact ⟨rfl, by rw [oc_t (show cgQ p n f L from ⟨hq, all_getD.2 hF0⟩)]; rfl, Ext.app⟩

theorem i_Coalgebra_has_1_ok (B : Bs P ρ) (E : F_i_Coalgebra_has_1 P ρ) {H : List Blk} {k1 kh : Nat} {r1 rh : Bool} {p n : Int} {f v : By} (h1 : H[k1]? = some ⟨r1, .vr (.pt kh 0)⟩) (hh : H[kh]? = some ⟨rh, .by [p, n] 522 f⟩) :
  CallR P ρ 433 [.ag [] 8 v, .pt k1 0] H (fun u G => u = .one (.b (!decide (Shp p n ∧ Vec p n v 0))) ∧ G = H) := by
 refine CallR.pure (call_of_q B.fn B.mo E.1 rfl (fun hA hH => ?_) (by simp [At.lt, lt_of h1])) rfl
 refine ⟨_, rfl, ?_⟩
 refine ⟨_, _, app_old h1, rfl, ?_⟩
 refine ⟨_, _, app_old hh, rfl, ?_⟩
 refine ⟨_, _, app_old h1, rfl, ?_⟩
 refine ⟨_, _, app_old hh, rfl, ?_⟩
 refine ⟨_, _, _, _, v, get_new, ⟨by simp, by omega⟩, fun x _ => congrArg _ (Nat.zero_add x).symm, ?_⟩
 refine ⟨_, i_IsVector_ok B E.2 , rfl, ?_⟩
 exact ⟨rfl, rfl, Ext.app⟩

theorem i_Coalgebra_has_ok (B : Bs P ρ) (E : F_i_Coalgebra_has P ρ) {H : List Blk} {kh : Nat} {rh : Bool} {p n : Int} {f : By} {a : At} {L : List By} (hh : H[kh]? = some ⟨rh, .by [p, n] 522 f⟩) (hL : VS H a L) (hlen : L.length ≤ 1000000) :
  CallR P ρ 432 [.pt kh 0, a] H (fun u G => u = .one (.b (decide (∀ v ∈ L, Shp p n ∧ Vec p n v 0))) ∧ G = H) := by
 refine CallR.pure (call_of_q B.fn B.mo E.1 rfl (fun hA hH => ?_) (by simp only [List.all_cons, List.all_nil, hL.lt]; simp [At.lt, lt_of hh])) rfl
 refine ⟨_, rfl, ?_⟩
 refine ⟨_, x_ContainsFunc_V2_ok B E.2.2 (q := fun i => !decide (Shp p n ∧ Vec p n (L.getD i z0) 0)) (hL.ext Ext.app) (by simp [At.lt]) hlen (fun i hi => i_Coalgebra_has_1_ok B E.2.1 get_new (app_old hh)), ?_⟩
 rintro _ _ ⟨rfl, rfl⟩
 refine ⟨rfl, ?_, Ext.app⟩
 have e : (!decide (∃ i, i < L.length ∧ (!decide (Shp p n ∧ Vec p n (L.getD i z0) 0)) = true)) = decide (∀ v ∈ L, Shp p n ∧ Vec p n v 0) := by
  by_cases h : ∀ v ∈ L, Shp p n ∧ Vec p n v 0
  ·rw [decide_eq_true h, decide_eq_false]
   ·rfl
   ·rintro ⟨i, hi, hq⟩
    rw [decide_eq_true (h _ (getD_mem hi))] at hq; cases hq
  ·rw [decide_eq_false h, decide_eq_true]
   ·rfl
   ·apply Classical.byContradiction
    intro hn
    exact h (all_getD.2 fun i hi => Classical.byContradiction fun q => hn ⟨i, hi, by rw [decide_eq_false q]; rfl⟩)
 rw [← e]; rfl

theorem i_Coalgebra_code_ok (B : Bs P ρ) (E : F_i_Coalgebra_code P ρ) {H : List Blk} {k : Nat} {r : Bool} {p n : Int} {f : By} {a : At} {L : List By} (hk : H[k]? = some ⟨r, .by [p, n] 522 f⟩) (hL : VS H a L) (hlen : L.length ≤ 1000000) :
  CallR P ρ 418 [.pt k 0, a] H (fun u G => u = .one (.i .i64 (oc (cgQ p n f L) 1)) ∧ G = H) := by
 refine CallR.pure (call_of_q B.fn B.mo E.1 rfl (fun hA hH => ?_) (by simp only [List.all_cons, List.all_nil, hL.lt]; simp [At.lt, lt_of hk])) rfl
 refine .inl ⟨_, _, _, _, hk, ⟨rfl, by omega⟩, ?_⟩
 refine ⟨_, i_IsCoalgebra_ok B E.2.1 (p := p) (n := n) (f := f), rfl, ?_⟩
 refine ⟨fun h9 => ?_, fun h9 => ?_⟩
 ·skip
  iterate 2 refine brB_t ?_
  refine ⟨_, i_Coalgebra_has_ok B E.2.2.1 (p := p) (n := n) (f := f) hk hL hlen, ?_⟩
  rintro _ _ ⟨rfl, rfl⟩
  refine brB_t ?_
  refine ⟨_, i_unless_ok B E.2.2.2 (b := decide (∀ v ∈ L, Shp p n ∧ Vec p n v 0)) (c := 1), rfl, ?_⟩
  refine ⟨rfl, ?_, Ext.refl⟩
  have h9' : Cog p n f := of_decide_eq_true h9
  show Sv.one (.i .i64 (if decide (∀ v ∈ L, Shp p n ∧ Vec p n v 0) = true then 0 else 1)) = _
  rw [oc_dec, oc_eqv (r := cgQ p n f L) ⟨fun z => ⟨h9', fun v hv => (z v hv).2⟩, fun z v hv => ⟨h9'.1.1, z.2 v hv⟩⟩]
 ·skip
  iterate 3 refine brB_f ?_
  refine ⟨_, i_unless_ok B E.2.2.2 (b := false) (c := 1), rfl, ?_⟩
  refine ⟨rfl, ?_, Ext.refl⟩
  rw [oc_f fun z : cgQ p n f L => by rw [decide_eq_true z.1] at h9; cases h9]; rfl

set_option maxHeartbeats 2000000 in
theorem s_l02Coproduct_ok (B : Bs P ρ) (E : F_s_l02Coproduct P ρ) {p : Int} {n : Nat} {f v : By} (hp : 1 ≤ p) (hp2 : p ≤ 256) (hn : n ≤ 8) (hC : Cog p n f) :
  CallOK P ρ 430 [.ag [p, (n : Int)] 522 f, .ag [] 8 v] [] (.one (.ag [] 64 (cpF p n f v))) [] := by
 refine (CallR.pure (call_of_q B.fn B.mo E.1 rfl (fun _ _ => ?_) rfl) rfl).ok
 refine ⟨_, rfl, ?_⟩
 refine ⟨_, rfl, ?_⟩
 refine ⟨_, rfl, ?_⟩
 refine ⟨_, rfl, ?_⟩
 refine ⟨_, _, _, rfl, cputs_by (by simp) (by omega), eqBk_rfl, ?_⟩
 refine ⟨Unit, (fun a2 a3 a4 a5 (i0 : Nat) (x0 : Unit) => [(2, a2), (3, a3), (4, a4), (5, a5), (6, .one (.i .i64 ((i0 : Nat) : Int)))]) _ _ _ _ , fun (i0 : Nat) (x0 : Unit) (G0 : List Blk) => (∃ w, G0 = [⟨false, .by [p, (n : Int)] 522 f⟩, ⟨false, .by [] 8 v⟩, ⟨false, .by [] 64 fun _ => 0⟩, ⟨false, .by [] 64 w⟩] ∧ CpI p f v i0 0 w), n, ⟨(), ⟨_, rfl, CpI.z fun x hx => by simp [spl]⟩, ⟨rfl, rfl, rfl, rfl, rfl, trivial⟩⟩, ?_⟩
 rintro i0 _ G0 hi0 ⟨w0, rfl, hI0⟩
 refine ⟨_, _, rfl, rfl, ?_⟩
 refine ⟨fun h12 => ?_, fun h12 => ?_⟩
 ·replace h12 := of_decide_eq_true h12
  refine ⟨Unit, (fun a2 a3 a4 a5 a6 (i1 : Nat) (x1 : Unit) => [(2, a2), (3, a3), (4, a4), (5, a5), (6, a6), (7, .one (.i .i64 ((i1 : Nat) : Int)))]) _ _ _ _ _ , fun (i1 : Nat) (x1 : Unit) (G1 : List Blk) => (∃ w, G1 = [⟨false, .by [p, (n : Int)] 522 f⟩, ⟨false, .by [] 8 v⟩, ⟨false, .by [] 64 fun _ => 0⟩, ⟨false, .by [] 64 w⟩] ∧ CpI p f v i0 i1 w), n, ⟨(), ⟨_, rfl, hI0⟩, ⟨rfl, rfl, rfl, rfl, rfl, rfl, trivial⟩⟩, ?_⟩
  rintro i1 _ G1 hi1 ⟨w1, rfl, hI1⟩
  refine ⟨_, _, rfl, rfl, ?_⟩
  refine ⟨fun h18 => ?_, fun h18 => ?_⟩
  ·replace h18 := of_decide_eq_true h18
   refine ⟨_, _, rfl, rfl, ?_⟩
   refine ⟨i1, _, rfl, by omega, rfl, ?_⟩
   refine ⟨_, _, _, _, cpR p f v i0 i1, rfl, ⟨by simp, by omega⟩, fun x hx => by rw [← hI1.cur (by omega) hx]; congr 1; omega, ?_⟩
   refine ⟨i0, _, rfl, by omega, rfl, ?_⟩
   refine ⟨i1, _, rfl, by omega, rfl, ?_⟩
   refine ⟨_, _, _, _, sh f (10 + i0 * 64 + i1 * 8), rfl, ⟨by simp; omega, by omega⟩, fun x hx => by show f _ = f _; congr 1 <;> omega, ?_⟩
   refine ⟨i0, _, rfl, by omega, rfl, ?_⟩
   refine ⟨_, _, rfl, cat_bq i0 (by omega) (by simp) (by omega), ?_⟩
   have hbl := toNat_le (v i0)
   refine ⟨_, s_l01Add_ok B E.2 (p := p) (k := bz v i0) (v := cpR p f v i0 i1) (w := sh f (10 + i0 * 64 + i1 * 8)) hp (by omega) (by unfold bz; omega) (by unfold bz; omega), rfl, ?_⟩
   rw [cpR_k hp hp2]
   refine ⟨i1, _, rfl, by omega, rfl, ?_⟩
   refine ⟨_, _, _, rfl, cputs_by (by simp) (by omega), eqBk_rfl, ?_⟩
   refine ⟨((i1 + 1 : Nat) : Int), w64_id _ (by omega) (by omega), ?_⟩
   refine ⟨by omega, (), ?_, ⟨rfl, rfl, rfl, rfl, rfl, rfl, trivial⟩⟩
   refine ⟨_, rfl, hI1.st (fun x hx he => ?_) fun y hy => ?_⟩
   ·unfold spl; rw [if_neg (by omega)]
   ·unfold spl; rw [if_pos (by omega)]; congr 1; omega
  ·replace h18 := of_decide_eq_false h18
   have e1 : n = i1 := by omega
   subst e1
   refine ⟨((i0 + 1 : Nat) : Int), w64_id _ (by omega) (by omega), ?_⟩
   exact ⟨by omega, (), ⟨_, rfl, hI1.nx fun j y h1 h2 h3 => hC.z (by omega) h1 h2 h3⟩, ⟨rfl, rfl, rfl, rfl, rfl, trivial⟩⟩
 ·replace h12 := of_decide_eq_false h12
  have e0 : n = i0 := by omega
  subst e0
  refine ⟨_, _, _, _, cpF p n f v, rfl, ⟨by simp, by omega⟩, fun x hx => by rw [Nat.zero_add]; exact cpF_of hI0 x hx, ?_⟩
  refine ⟨_, _, _, rfl, cputs_by (by simp) (by omega), eqBk_rfl, ?_⟩
  exact ⟨rfl, false, [], 64, _, cpF p n f v, rfl, ⟨by simp, by omega⟩, fun x hx => by simp [spl, hx], rfl, Ext.nil⟩

set_option maxHeartbeats 2000000 in
theorem i_Coalgebra_coproduct_ok (B : Bs P ρ) (E : F_i_Coalgebra_coproduct P ρ) {H : List Blk} {k : Nat} {r : Bool} {p : Int} {n : Nat} {f v : By} (hk : H[k]? = some ⟨r, .by [p, (n : Int)] 522 f⟩) (hp : 1 ≤ p) (hp2 : p ≤ 256) (hn : n ≤ 8) (hC : Cog p n f) :
  CallR P ρ 426 [.pt k 0, .ag [] 8 v] H (fun u G => u = .one (.ag [] 64 (cpF p 8 f v)) ∧ G = H) := by
 refine CallR.pure (call_of_q B.fn B.mo E.1 rfl (fun hA hH => ?_) (by simp [At.lt, lt_of hk])) rfl
 refine ⟨_, rfl, ?_⟩
 refine ⟨H.length + 1, by simp, ?_⟩
 rw [ap2]
 refine ⟨_, CallOK.at1 (app_old hk) (i_Coalgebra_field_ok B E.2.1 (p := p) (n := (n : Int)) (f := f)) rfl rfl, ?_⟩
 rintro _ _ ⟨rfl, rfl⟩
 refine ⟨H.length + 2, by simp, ?_⟩
 refine ⟨H.length + 3, by simp, ?_⟩
 rw [show H ++ [(⟨false, .by [] 8 v⟩ : Blk), ⟨false, (Zk.by 0 64).bk⟩] ++ [⟨false, (Zk.by 2 2).bk⟩] ++ [⟨false, (Zk.by 0 64).bk⟩] = H ++ [(⟨false, .by [] 8 v⟩ : Blk), ⟨false, (Zk.by 0 64).bk⟩, ⟨false, (Zk.by 2 2).bk⟩, ⟨false, (Zk.by 0 64).bk⟩] by simp]
 refine ⟨_, _, _, at_k (i := 2), cputs_2, eqBk_rfl, ?_⟩
 rw [app_set]
 refine ⟨_, _, _, at_k (i := 3), cputs_by (by simp) (by omega), eqBk_rfl, ?_⟩
 rw [app_set]
 refine ⟨_, _, _, _, v, at_k (i := 0), ⟨by simp, by omega⟩, fun x _ => congrArg _ (Nat.zero_add x).symm, ?_⟩
 refine ⟨Unit, (fun a0 a4 a5 a6 a13 (i0 : Nat) (x0 : Unit) => [(0, a0), (4, a4), (5, a5), (6, a6), (13, a13), (14, .one (.i .i64 ((i0 : Nat) : Int)))]) _ _ _ _ _ , fun (i0 : Nat) (x0 : Unit) (G0 : List Blk) => (∃ w, G0 = H ++ [⟨false, .by [] 8 v⟩, ⟨false, .by [] 64 fun _ => 0⟩, ⟨false, .by [p, (n : Int)] 2 fun _ => 0⟩, ⟨false, .by [] 64 w⟩] ∧ CpI p f v i0 0 w), 8, ⟨(), ⟨_, rfl, CpI.z fun x hx => by simp [spl]⟩, ⟨rfl, rfl, rfl, rfl, rfl, rfl, trivial⟩⟩, ?_⟩
 rintro i0 _ G0 hi0 ⟨w0, rfl, hI0⟩
 refine ⟨fun h15 => ?_, fun h15 => ?_⟩
 ·replace h15 := of_decide_eq_true h15
  refine ⟨_, rfl, by omega, by omega, ?_⟩
  refine ⟨_, _, at_k (i := 2), rfl, ?_⟩
  refine ⟨Unit, (fun a0 a4 a5 a6 a7 a8 a13 a14 a19 (i1 : Nat) (x1 : Unit) => [(0, a0), (4, a4), (5, a5), (6, a6), (7, a7), (8, a8), (13, a13), (14, a14), (19, a19), (20, .one (.i .i64 ((i1 : Nat) : Int)))]) _ _ _ _ _ _ _ _ _ , fun (i1 : Nat) (x1 : Unit) (G1 : List Blk) => (∃ w, G1 = H ++ [⟨false, .by [] 8 v⟩, ⟨false, .by [] 64 fun _ => 0⟩, ⟨false, .by [p, (n : Int)] 2 fun _ => 0⟩, ⟨false, .by [] 64 w⟩] ∧ CpI p f v i0 i1 w), n, ⟨(), ⟨_, rfl, hI0⟩, ⟨rfl, rfl, rfl, rfl, rfl, rfl, rfl, rfl, rfl, rfl, trivial⟩⟩, ?_⟩
  rintro i1 _ G1 hi1 ⟨w1, rfl, hI1⟩
  refine ⟨fun h21 => ?_, fun h21 => ?_⟩
  ·replace h21 := of_decide_eq_true h21
   refine .inl ⟨_, _, _, _, at_k (i := 2), ⟨rfl, by omega⟩, ?_⟩
   refine ⟨i1, _, rfl, by omega, rfl, ?_⟩
   refine ⟨i0, _, rfl, by omega, rfl, ?_⟩
   refine ⟨i1, _, rfl, by omega, rfl, ?_⟩
   refine ⟨_, _, _, _, sh f (10 + i0 * 64 + i1 * 8), app_old hk, ⟨by simp; omega, by omega⟩, fun x hx => by show f _ = f _; congr 1 <;> omega, ?_⟩
   have hbl := toNat_le (v i0)
   refine ⟨_, plus_at B E.2.2 (k := H.length + 3) (off := 0 + i1 * 8) (N := 64) (hd := []) (f := w1) (p := p) (n := (n : Int)) (c := bz v i0) (g0 := fun _ => 0) (w := sh f (10 + i0 * 64 + i1 * 8)) (at_k (i := 3)) hp (by omega) (by simp) (by omega) (by unfold bz; omega) (by unfold bz; omega) (fun x h1 h2 => ?_), ?_⟩
   ·have hx := hI1.cur (y := x - i1 * 8) (by omega) (by omega)
    rw [show i1 * 8 + (x - i1 * 8) = x by omega] at hx
    show ((w1 x).toNat : Int) < p
    rw [hx]; exact bz_vec_lt hp hp2
   rintro _ _ ⟨rfl, rfl⟩
   rw [app_set]
   refine ⟨((i1 + 1 : Nat) : Int), w64_id _ (by omega) (by omega), ?_⟩
   refine ⟨by omega, (), ?_, ⟨rfl, rfl, rfl, rfl, rfl, rfl, rfl, rfl, rfl, rfl, trivial⟩⟩
   refine ⟨_, rfl, hI1.st (fun x hx he => ?_) fun y hy => ?_⟩
   ·unfold plsN; rw [if_neg (by omega)]
   ·unfold plsN
    rw [if_pos (by omega), ← cpR_k hp hp2, show i1 * 8 + y - (0 + i1 * 8) = y by omega]
    unfold vec
    rw [if_pos hy]
    have hx := hI1.cur (y := y) (by omega) hy
    show byt (((w1 (i1 * 8 + y)).toNat + _) % p) = _
    rw [hx]; rfl
  ·replace h21 := of_decide_eq_false h21
   have e1 : n = i1 := by omega
   subst e1
   refine ⟨((i0 + 1 : Nat) : Int), w64_id _ (by omega) (by omega), ?_⟩
   exact ⟨by omega, (), ⟨_, rfl, hI1.nx fun j y h1 h2 h3 => hC.z (by omega) h1 h2 h3⟩, ⟨rfl, rfl, rfl, rfl, rfl, rfl, trivial⟩⟩
 ·replace h15 := of_decide_eq_false h15
  have e0 : 8 = i0 := by omega
  subst e0
  refine ⟨_, _, _, _, cpF p 8 f v, at_k (i := 3), ⟨by simp, by omega⟩, fun x hx => by rw [Nat.zero_add]; exact cpF_of hI0 x hx, ?_⟩
  refine ⟨_, _, _, at_k (i := 1), cputs_by (by simp) (by omega), eqBk_rfl, ?_⟩
  rw [app_set]
  exact ⟨rfl, false, [], 64, _, cpF p 8 f v, at_k (i := 1), ⟨by simp, by omega⟩, fun x hx => by simp [spl, hx], rfl, Ext.app⟩


end Hf
namespace Hf
open Go Classical
variable {P : Program} {ρ : Nat → FuncId}
theorem VS.at8 {H : List Blk} {k N : Nat} {r : Bool} {g v : By} (h : H[k]? = some ⟨r, .by [] N g⟩) (hN : 8 ≤ N) (hg : ∀ x, x < 8 → g x = v x) : VS H (.sl k 0 1 1) [v] := by
 refine .inr ⟨k, 0, 1, r, N, g, rfl, h, ⟨by omega, by simp⟩, fun i x hi hx => ?_⟩
 obtain rfl : i = 0 := by simpa using hi
 rw [show 0 + 0 * 8 + x = x by omega, hg x hx]; rfl
def cuV (p : Int) (f v : By) : Int := sm 8 (fun k => bz v k * bz f (2 + k)) % p
noncomputable def coV (p n : Int) (f v : By) : By := if cgQ p n f [v] then cpF p n.toNat f v else z0
theorem i_CoproductIn_ok (B : Bs P ρ) (E : F_i_CoproductIn P ρ) {p n : Int} {f v : By} :
    CallOK P ρ 413 [.ag [p, n] 522 f, .ag [] 8 v] [] (.tup [.ag [] 64 (coV p n f v), .i .i64 (oc (cgQ p n f [v]) 1)]) [] := by
  refine (CallR.pure (call_of_q B.fn B.mo E.1 rfl (fun _ _ => ?_) rfl) rfl).ok
  refine ⟨_, rfl, ?_⟩
  refine ⟨_, rfl, ?_⟩
  refine ⟨_, rfl, ?_⟩
  refine ⟨_, _, _, _, v, rfl, ⟨by simp, by omega⟩, fun x _ => congrArg _ (Nat.zero_add x).symm, ?_⟩
  refine ⟨_, rfl, ?_⟩
  refine ⟨_, i_Coalgebra_code_ok B E.2.1 (p := p) (n := n) (f := f) (L := [v]) rfl (VS.at8 rfl (Nat.le_refl 8) fun x hx => by simp [spl, hx]) (by simp), ?_⟩
  rintro _ _ ⟨rfl, rfl⟩
  refine ⟨fun h11 => ?_, fun h11 => ?_⟩
  · replace h11 := bne_t h11
    have hq : ¬ cgQ p n f [v] := fun z => h11 (oc_t z)
    refine ⟨_, _, _, rfl, cputs_by (by simp) (by omega), eqBk_rfl, ?_⟩
    first
      | exact ⟨rfl, false, [], 64, _, z0, rfl, ⟨by simp, by omega⟩, fun x hx => by simp [spl, hx, z0], by unfold coV; rw [if_neg hq, oc_f hq]; rfl, Ext.nil⟩
      | exact ⟨rfl, false, [], 64, _, cpF p n f v, rfl, ⟨by simp, by omega⟩, fun x hx => by simp [spl, hx], by unfold coV; rw [if_pos hq, oc_t hq]; rfl, Ext.nil⟩
  · replace h11 := bne_f h11
    have hq : cgQ p n f [v] := oc_0 h11
    have hb := AShp.p1 hq.1.1
    obtain ⟨n, rfl⟩ : ∃ k : Nat, n = (k : Int) := ⟨n.toNat, by omega⟩
    have hn : n ≤ 8 := by omega
    refine ⟨_, _, _, _, v, rfl, ⟨by simp, by omega⟩, fun x _ => congrArg _ (Nat.zero_add x).symm, ?_⟩
    refine ⟨_, i_Coalgebra_coproduct_ok B E.2.2 (p := p) (n := n) (f := f) (v := v) rfl (by omega) (by omega) hn hq.1, ?_⟩
    rintro _ _ ⟨rfl, rfl⟩
    rw [cpF_8 hn (hq.2 v (by simp))]
    refine ⟨_, _, _, rfl, cputs_by (by simp) (by omega), eqBk_rfl, ?_⟩
    first
      | exact ⟨rfl, false, [], 64, _, z0, rfl, ⟨by simp, by omega⟩, fun x hx => by simp [spl, hx, z0], by unfold coV; rw [if_neg hq, oc_f hq]; rfl, Ext.nil⟩
      | exact ⟨rfl, false, [], 64, _, cpF p n f v, rfl, ⟨by simp, by omega⟩, fun x hx => by simp [spl, hx], by unfold coV; rw [if_pos hq, oc_t hq]; rfl, Ext.nil⟩

theorem s_l02Counit_ok (B : Bs P ρ) (E : F_s_l02Counit P ρ) {p n : Int} {f v : By} (hp : 1 ≤ p) :
  CallOK P ρ 429 [.ag [p, n] 522 f, .ag [] 8 v] [] (.one (.i .i64 (cuV p f v))) [] := by
 refine (CallR.pure (call_of_q B.fn B.mo E rfl (fun _ _ => ?_) rfl) rfl).ok
 refine ⟨_, rfl, ?_⟩
 refine ⟨_, rfl, ?_⟩
 refine ⟨Int, (fun a2 a3 (i0 : Nat) (x0 : Int) => [(2, a2), (3, a3), (5, .one (.i .i64 x0)), (6, .one (.i .i64 ((i0 : Nat) : Int)))]) _ _ , fun (i0 : Nat) (x0 : Int) (G0 : List Blk) => (x0 = sm i0 (fun k => bz v k * bz f (2 + k)) ∧ G0 = [⟨false, .by [p, n] 522 f⟩, ⟨false, .by [] 8 v⟩]), 8, ⟨_, ⟨rfl, rfl⟩, ⟨rfl, rfl, rfl, rfl, trivial⟩⟩, ?_⟩
 rintro i0 x0 G0 hi0 ⟨hx0, rfl⟩
 have q2 := bz2 v f i0 (2 + i0)
 have q3 := sm_bd (n := i0) (x := fun k => bz v k * bz f (2 + k)) (A := 65025) fun k _ => bz2 v f _ _
 refine ⟨fun h8 => ?_, fun h8 => ?_⟩
 ·replace h8 := of_decide_eq_true h8
  refine ⟨i0, _, rfl, by omega, rfl, ?_⟩
  refine ⟨_, _, rfl, cat_bq i0 (by omega) (by simp) (by omega), ?_⟩
  refine ⟨i0, _, rfl, by omega, rfl, ?_⟩
  refine ⟨_, _, rfl, cat_bq (2 + i0) (by omega) (by simp) (by omega), ?_⟩
  refine ⟨bz v i0 * bz f (2 + i0), w64_id (bz v i0 * bz f (2 + i0)) (by omega) (by omega), ?_⟩
  refine ⟨x0 + bz v i0 * bz f (2 + i0), w64_id (x0 + bz v i0 * bz f (2 + i0)) (by omega) (by omega), ?_⟩
  refine ⟨((i0 + 1 : Nat) : Int), w64_id _ (by omega) (by omega), ?_⟩
  refine ⟨by omega, _, ?_, ⟨rfl, rfl, rfl, rfl, trivial⟩⟩
  refine ⟨?_, rfl⟩
  rw [hx0]; rfl
 ·replace h8 := of_decide_eq_false h8
  have e0 : 8 = i0 := by omega
  subst e0
  refine ⟨_, _, rfl, rfl, ?_⟩
  refine ⟨by omega, cuV p f v, ?_, ?_⟩
  ·rw [hx0, Int.tmod_eq_emod_of_nonneg q3.1]; rfl
  exact ⟨rfl, rfl, Ext.nil⟩

end Hf
namespace Hf
open Go Classical
section
variable {p : Int} {n : Nat} {f g : By}
theorem Tab.out (h : Tab p n g 10) {i j k : Nat} (hi : i < 8) (hj : j < 8) (hk : k < 8) (q : n ≤ i ∨ n ≤ j ∨ n ≤ k) : bz g (10 + i * 64 + j * 8 + k) = 0 := by
 rcases q with q | q | q
 ·rw [Nat.add_assoc]; exact (h i hi).2 (by omega) (j * 8 + k) (by omega)
 ·exact ((h i hi).1 j hj).2 (by omega) k hk
 ·exact (((h i hi).1 j hj).1 k hk).2 (by omega)
theorem Tab.of (h1 : ∀ i j k : Nat, i < 8 → j < 8 → k < 8 → bz g (10 + i * 64 + j * 8 + k) < p) (h2 : ∀ i j k : Nat, i < 8 → j < 8 → k < 8 → (n ≤ i ∨ n ≤ j ∨ n ≤ k) → bz g (10 + i * 64 + j * 8 + k) = 0) : Tab p n g 10 := by
 intro i hi
 refine ⟨fun j hj => ⟨fun k hk => ⟨h1 i j k hi hj hk, fun q => h2 i j k hi hj hk (by omega)⟩, fun q k hk => h2 i j k hi hj hk (by omega)⟩, fun q k hk => ?_⟩
 have := h2 i (k / 8) (k % 8) hi (by omega) (by omega) (by omega)
 rwa [show 10 + i * 64 + k / 8 * 8 + k % 8 = 10 + i * 64 + k by omega] at this
/-- the dual of tables -/
def AL.dual (A : AL p n) : CO p n where
 d i j k := A.m j k i
 e := A.u
 ca i j k l := by
  have q := A.as j k l i
  refine Eq.trans (sf_congr fun a => z_mc _ _) (q.trans (sf_congr fun a => z_mc _ _))
 cl i x := by rw [A.ul x i]; exact ite_congr (propext eq_comm) (fun _ => rfl) fun _ => rfl
 cr i j := by rw [A.ur j i]; exact ite_congr (propext eq_comm) (fun _ => rfl) fun _ => rfl
def CO.dual (C : CO p n) : AL p n where
 m i j k := C.d k i j
 u := C.e
 as i j k y := by
  have q := C.ca y i j k
  refine Eq.trans (sf_congr fun a => z_mc _ _) (q.trans (sf_congr fun a => z_mc _ _))
 ul i y := by rw [C.cl y i]; exact ite_congr (propext eq_comm) (fun _ => rfl) fun _ => rfl
 ur i y := by rw [C.cr y i]; exact ite_congr (propext eq_comm) (fun _ => rfl) fun _ => rfl
theorem bz_c {f g : By} {a b : Nat} (h : f a = g b) : bz f a = bz g b := by unfold bz; rw [h]
end
end Hf
namespace Hf
open Go Classical
section
variable {p : Int} {n m : Nat} {f g : By}
theorem cg_sub0 {a b : Int} (ha : 0 ≤ a) (ha2 : a < p) (hb : 0 ≤ b) (hb2 : b < p) (h : cg p (a - b) 0) : a = b := by
 have q : cg p (a - b + b) (0 + b) := cg_add h cg.rfl'
 rw [Int.sub_add_cancel, Int.zero_add] at q
 unfold cg at q
 rwa [Int.emod_eq_of_lt ha ha2, Int.emod_eq_of_lt hb hb2] at q
end
end Hf
namespace Hf
open Go Classical
variable {P : Program} {ρ : Nat → FuncId}
theorem VI.lt {H : List Blk} {a : At} {L : List Int} (h : VI H a L) : a.lt H.length = true := by
  unfold VI at h
  cases a with
  | sn => rfl
  | sl k o m c => obtain ⟨r, l, h1, -⟩ := h; simp [At.lt, lt_of h1]
  | _ => exact h.elim
theorem coV_t {p : Int} {n : Nat} {f v : By} (h : cgQ p n f [v]) : coV p n f v = cpF p n f v := by
 unfold coV; rw [if_pos h, Int.toNat_natCast]
theorem cgQ_1 {p : Int} {n : Nat} {f v : By} (h : Cog p n f) (hv : Vec p n v 0) : cgQ p n f [v] := ⟨h, fun w hw => by rw [List.mem_singleton.1 hw]; exact hv⟩
theorem spl_cp {p : Int} {m : Nat} {f v : By} : spl (fun _ => 0) 0 64 (cpF p m f v) = cpF p m f v := z_spl _ _ fun k hk => by unfold cpF; rw [if_neg (by omega)]
end Hf
namespace Hf
open Go Classical
variable {P : Program} {ρ : Nat → FuncId}
theorem i_ReduceVectors_1_ok (B : Bs P ρ) (E : F_i_ReduceVectors_1 P ρ) {H : List Blk} {k3 k4 : Nat} {r3 r4 : Bool} {p n : Int} {v : By} (h3 : H[k3]? = some ⟨r3, .vr (.i .i64 p)⟩) (h4 : H[k4]? = some ⟨r4, .vr (.i .i64 n)⟩) :
  CallR P ρ 428 [.ag [] 8 v, .pt k3 0, .pt k4 0] H (fun u G => u = .one (.b (!decide (Shp p n ∧ Vec p n v 0))) ∧ G = H) := by
 refine CallR.pure (call_of_q B.fn B.mo E.1 rfl (fun hA hH => ?_) (by simp [At.lt, lt_of h3, lt_of h4])) rfl
 refine ⟨_, rfl, ?_⟩
 refine ⟨_, _, app_old h3, rfl, ?_⟩
 refine ⟨_, _, app_old h4, rfl, ?_⟩
 refine ⟨_, _, _, _, v, get_new, ⟨by simp, by omega⟩, fun x _ => congrArg _ (Nat.zero_add x).symm, ?_⟩
 refine ⟨_, i_IsVector_ok B E.2 , rfl, ?_⟩
 exact ⟨rfl, rfl, Ext.app⟩

def rvQ (p n : Int) (L : List By) : Prop := Shp p n ∧ ∀ v ∈ L, Vec p n v 0 ∧ ∀ x, 8 ≤ x → v x = 0
theorem rvQ.vp {p : Int} {n : Nat} {L : List By} (h : rvQ p n L) : ∀ v ∈ L, Vp n p v := fun v hv => by
 obtain ⟨h1, h2⟩ := h.2 v hv
 have hp := h.1.1.1
 refine ⟨fun x => ?_, fun x hx => ?_⟩
 ·by_cases e : x < 8
  ·have := (h1 x e).1; rwa [Nat.zero_add] at this
  ·rw [bz_eq0.2 (h2 x (by omega))]; omega
 ·by_cases e : x < 8
  ·have := (h1 x e).2 (by omega); rw [Nat.zero_add] at this; exact bz_eq0.1 this
  ·exact h2 x (by omega)
theorem i_ReduceVectors_ok (B : Bs P ρ) (E : F_i_ReduceVectors P ρ) {H : List Blk} {a : At} {L : List By} {p n : Int} (hL : VS H a L) (hq : rvQ p n L) (hlen : L.length ≤ 1000000) :
  CallR P ρ 412 [.i .i64 p, .i .i64 n, a] H (fun u G => ∃ b, u = .tup [b, .i .i64 0] ∧ Ext H G ∧ VW H.length G b (redL p L)) := by
 obtain ⟨n, rfl⟩ : ∃ k : Nat, n = (k : Int) := ⟨n.toNat, by have := hq.1.2.1; omega⟩
 have hp := hq.1.1
 have hn8 : n ≤ 8 := by have := hq.1.2.2; omega
 refine call_of_q B.fn B.mo E.1 rfl (fun hAr hHp => ?_) (by simp only [List.all_cons, List.all_nil, hL.lt]; rfl)
 refine ⟨_, rfl, ?_⟩
 refine ⟨_, rfl, ?_⟩
 refine ⟨_, x_ContainsFunc_V2_ok B E.2.2.1 (q := fun i => !decide (Shp p n ∧ Vec p n (L.getD i z0) 0)) (hL.ext (Ext.app.trans Ext.app)) (by simp [At.lt]) hlen (fun i hi => i_ReduceVectors_1_ok B E.2.1 (app_old get_new) get_new), ?_⟩
 rintro _ G11 ⟨rfl, rfl⟩
 rw [show decide (∃ i, i < L.length ∧ (!decide (Shp p n ∧ Vec p n (L.getD i z0) 0)) = true) = false from decide_eq_false fun ⟨i, hi, z⟩ => by rw [decide_eq_true (⟨hq.1, (hq.2 _ (getD_mem hi)).1⟩ : Shp p n ∧ Vec p n (L.getD i z0) 0)] at z; cases z]
 refine ⟨_, _, app_old get_new, rfl, ?_⟩
 refine ⟨_, _, get_new, rfl, ?_⟩
 refine ⟨_, i_IsVector_ok B E.2.2.2.1 , rfl, ?_⟩
 rw [decide_eq_true (show Shp p n ∧ Vec p n (fun _ => 0) 0 from ⟨hq.1, fun k hk => ⟨by have := hp.1; show (0 : Int) < p; omega, fun _ => rfl⟩⟩)]
 iterate 3 refine brB_f ?_
 refine ⟨_, _, app_old get_new, rfl, ?_⟩
 refine ⟨_, i_reduced_ok B E.2.2.2.2 hp (hL.ext (Ext.app.trans Ext.app)) (fun v hv => (hq.vp v hv).mono hn8) hlen, ?_⟩
 rintro _ G22 ⟨b22, rfl, hE22, hV22⟩
 exact ⟨rfl, b22, rfl, (Ext.app.trans Ext.app).trans hE22, hV22.mono (by simp)⟩

end Hf
