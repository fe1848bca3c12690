/- Contracts of the functions that the law reaches. -/
import Derived.Test.YtmelbommnopmaaaGreatC2
set_option linter.unusedVariables false
set_option linter.unusedSimpArgs false
namespace Hf
open Go Classical
section
variable {W : Nat} {p : Int}
theorem clq_ok (hp : Pr p) {v : By} {c : Nat} (hc : c < W) (hv : Vp W p v) (h : v c ≠ 0) :
    Vp W p (clq W p v c) ∧ clq W p v c c = 1 ∧ (∀ y, v y = 0 → clq W p v c y = 0) ∧ clq W p v c = addW W p z0 v (invI p (v c)) ∧ v = addW W p z0 (clq W p v c) (bz v c) := by
  have h2 := hp.1
  have h3 := hp.2.1
  have hp1 : 1 ≤ p := by omega
  have hp2 : p ≤ 256 := by omega
  obtain ⟨i1, i2⟩ := inv_ok hp h (hv.1 c)
  have hI : invI p (v c) = ((invN p (v c) : Nat) : Int) := if_pos i1
  have e : clq W p v c = addW W p z0 v (invI p (v c)) := vec_congr fun y hy => cg_of_eq (by rw [bz_z0, Int.zero_add])
  have hb : ∀ y, y < W → bz (clq W p v c) y = invI p (v c) * bz v y % p := by
    intro y hy
    rw [e, bz_add hp1 hp2 hy, bz_z0, Int.zero_add]
  have h1 : bz (clq W p v c) c = 1 := by
    rw [hb c hc, hI]; exact i2
  have hvp : Vp W p (clq W p v c) := by rw [e]; exact Vp.add hp1 hp2
  refine ⟨hvp, bz_inj h1, ?_, e, ?_⟩
  · intro y hy
    by_cases hw : y < W
    · apply bz_eq0.1
      rw [hb y hw, bz_eq0.2 hy, Int.mul_zero]; exact Int.zero_emod p
    · exact hvp.2 y (by omega)
  · refine hv.ext (Vp.add hp1 hp2) fun x hx => cg.symm ((cg_add' hp1 hp2 hx).trans ?_)
    rw [bz_z0, Int.zero_add, hb x hx]
    refine (cg_mul cg.rfl' cg_mod).trans ?_
    have h5 : cg p (invI p (v c) * bz v c) 1 := by
      unfold cg
      rw [show invI p (v c) * bz v c % p = 1 from by rw [hI]; exact i2, Int.emod_eq_of_lt (by omega) (by omega)]
    refine cg.trans (cg_of_eq ?_) ((cg_mul h5 cg.rfl').trans (cg_of_eq (Int.one_mul (bz v x))))
    grind
theorem clj_add (hp : 1 ≤ p) (hp2 : p ≤ 256) {q v : By} {c : Nat} (hv : Vp W p v) : clj W p q v c = addW W p v q (-(bz v c)) := by
  unfold clj
  split
  · rename_i h
    rw [bz_eq0.2 h, Int.neg_zero, add_0 hp hp2 hv]
  · rfl
theorem clj_at (hp : 1 ≤ p) (hp2 : p ≤ 256) {q v : By} {c y : Nat} (hv : Vp W p v) (hq : q y = 0) : clj W p q v c y = v y := by
  rw [clj_add hp hp2 hv]
  by_cases hy : y < W
  · apply bz_inj
    show bz _ y = bz v y
    rw [bz_add hp hp2 hy, bz_eq0.2 hq, Int.mul_zero, Int.add_zero]
    have := hv.1 y
    exact Int.emod_eq_of_lt (by unfold bz; omega) this
  · rw [(Vp.add hp hp2).2 y (by omega), hv.2 y (by omega)]
theorem clj_0 (hp : 2 ≤ p) (hp2 : p ≤ 256) {q v : By} {c : Nat} (hc : c < W) (hv : Vp W p v) (hq : q c = 1) : clj W p q v c c = 0 := by
  rw [clj_add (by omega) hp2 hv]
  apply bz_eq0.1
  rw [bz_add (by omega) hp2 hc, show bz q c = 1 from one_bz hq, Int.mul_one, Int.add_right_neg]
  exact Int.zero_emod p

/-- what holds ahead of column i -/
structure SolP (W : Nat) (p : Int) (R L : List By) (C : List Nat) (i : Nat) : Prop where
  len : L.length = R.length
  vp : ∀ r ∈ L, Vp W p r
  sp : SpE W p L R
  cl : C.length ≤ L.length
  ci : ∀ a, a < C.length → C.getD a 0 < i
  cs : ∀ a b, a < b → b < C.length → C.getD a 0 < C.getD b 0
  one : ∀ a, a < C.length → L.getD a z0 (C.getD a 0) = 1
  lo : ∀ a, a < C.length → ∀ y, y < C.getD a 0 → L.getD a z0 y = 0
  z : ∀ a, a < C.length → ∀ b, b < L.length → b ≠ a → L.getD b z0 (C.getD a 0) = 0
  r : ∀ b, C.length ≤ b → b < L.length → ∀ y, y < i → L.getD b z0 y = 0

theorem SolP.stay {R L : List By} {C : List Nat} {i : Nat} (h : SolP W p R L C i) (h0 : ∀ j, j < L.length - C.length → L.getD (C.length + j) z0 i = 0) : SolP W p R L C (i + 1) := by
  refine ⟨h.len, h.vp, h.sp, h.cl, fun a ha => by have := h.ci a ha; omega, h.cs, h.one, h.lo, h.z, fun b hb hb2 y hy => ?_⟩
  rcases Nat.eq_or_lt_of_le (Nat.lt_succ_iff.1 hy) with e | e
  · subst e
    have := h0 (b - C.length) (by omega)
    rwa [show C.length + (b - C.length) = b by omega] at this
  · exact h.r b hb hb2 y e

theorem swL_mem {α : Type} {z : α} {L : List α} {i j : Nat} (hi : i < L.length) (hj : j < L.length) {x : α} : x ∈ swL z L i j ↔ x ∈ L := (swL_perm hi hj).mem_iff

theorem getD_app1 {C : List Nat} {c a : Nat} (h : a < C.length) : (C ++ [c]).getD a 0 = C.getD a 0 := by
  simp only [List.getD_eq_getElem?_getD]; rw [List.getElem?_append_left h]
theorem getD_app2 {C : List Nat} {c : Nat} : (C ++ [c]).getD C.length 0 = c := by
  simp only [List.getD_eq_getElem?_getD]; rw [List.getElem?_append_right (Nat.le_refl _)]; simp

theorem SolP.step (hp : Pr p) {R L : List By} {C : List Nat} {i k : Nat} (hi : i < W) (h : SolP W p R L C i) (hk : k < L.length - C.length) (hn : L.getD (C.length + k) z0 i ≠ 0) :
    SolP W p R (clr W p (swL z0 L C.length (C.length + k)) C.length i) (C ++ [i]) (i + 1) := by
  have h2 := hp.1
  have h3 := hp.2.1
  have hp1 : 1 ≤ p := by omega
  have hp2 : p ≤ 256 := by omega
  have hd : C.length < L.length := by omega
  have hdk : C.length + k < L.length := by omega
  generalize hL1 : swL z0 L C.length (C.length + k) = L1
  have hlen1 : L1.length = L.length := by rw [← hL1, swL_len]
  have hat : ∀ x, L1.getD x z0 = if x = C.length + k then L.getD C.length z0 else if x = C.length then L.getD (C.length + k) z0 else L.getD x z0 := by
    intro x; rw [← hL1, swL_at hd hdk]
  have hvp1 : ∀ r ∈ L1, Vp W p r := fun r hr => h.vp r ((swL_mem hd hdk).1 (by rw [hL1]; exact hr))
  have hd1 : L1.getD C.length z0 = L.getD (C.length + k) z0 := by
    rw [hat]; split
    · rename_i e; rw [← e]
    · rw [if_pos rfl]
  -- rows of the new list that came from behind have zeros ahead of i
  have hr1 : ∀ b, C.length ≤ b → b < L.length → ∀ y, y < i → L1.getD b z0 y = 0 := by
    intro b hb hb2 y hy
    rw [hat]
    split
    · exact h.r _ (Nat.le_refl _) hd y hy
    · split
      · exact h.r _ (by omega) hdk y hy
      · exact h.r b hb hb2 y hy
  have hfr : ∀ b, b < C.length → L1.getD b z0 = L.getD b z0 := by
    intro b hb
    rw [hat, if_neg (by omega), if_neg (by omega)]
  have hz1 : ∀ a, a < C.length → ∀ b, b < L.length → b ≠ a → L1.getD b z0 (C.getD a 0) = 0 := by
    intro a ha b hb hn
    rcases Nat.lt_or_ge b C.length with h' | h'
    · rw [hfr b h']; exact h.z a ha b hb hn
    · exact hr1 b h' hb _ (h.ci a ha)
  have hvd : Vp W p (L1.getD C.length z0) := hvp1 _ (getD_mem (by omega))
  have hnz : L1.getD C.length z0 i ≠ 0 := by rw [hd1]; exact hn
  obtain ⟨q1, q2, q3, q4, q5⟩ := clq_ok hp hi hvd hnz
  generalize hq : clq W p (L1.getD C.length z0) i = q at q1 q2 q3 q4 q5
  have hq0 : ∀ y, y < i → q y = 0 := fun y hy => q3 y (hr1 _ (Nat.le_refl _) hd y hy)
  have hN : ∀ j, j < L.length → (clr W p L1 C.length i).getD j z0 = if j = C.length then q else clj W p q (L1.getD j z0) i := by
    intro j hj
    rw [clr_at (by omega)]
    unfold clR
    rw [hq]
  have hvj : ∀ j, j < L.length → Vp W p (L1.getD j z0) := fun j hj => hvp1 _ (getD_mem (by omega))
  have hvN : ∀ j, j < L.length → Vp W p ((clr W p L1 C.length i).getD j z0) := by
    intro j hj
    rw [hN j hj]
    split
    · exact q1
    · rw [clj_add hp1 hp2 (hvj j hj)]; exact Vp.add hp1 hp2
  have hmem : ∀ r ∈ clr W p L1 C.length i, ∃ j, j < L.length ∧ r = (clr W p L1 C.length i).getD j z0 := by
    intro r hr
    obtain ⟨j, hj, rfl⟩ := List.mem_iff_getElem.1 hr
    rw [clr_len, hlen1] at hj
    exact ⟨j, hj, by simp [List.getD_eq_getElem?_getD, clr_len, hlen1, hj]⟩
  have hmem1 : ∀ r ∈ L1, ∃ j, j < L.length ∧ r = L1.getD j z0 := by
    intro r hr
    obtain ⟨j, hj, rfl⟩ := List.mem_iff_getElem.1 hr
    exact ⟨j, by omega, by simp [List.getD_eq_getElem?_getD, hj]⟩
  have hin : ∀ j, j < L.length → (clr W p L1 C.length i).getD j z0 ∈ clr W p L1 C.length i := fun j hj => getD_mem (by rw [clr_len]; omega)
  have hsq : Sp' W p L1 q := by rw [q4]; exact .a .z (getD_mem (by omega))
  have hsq' : Sp' W p (clr W p L1 C.length i) q := by
    have := hin _ hd
    rw [hN _ hd, if_pos rfl] at this
    exact .mem hp1 hp2 this q1
  refine ⟨by rw [clr_len, hlen1]; exact h.len, ?_, ?_, ?_, ?_, ?_, ?_, ?_, ?_, ?_⟩
  · intro r hr
    obtain ⟨j, hj, rfl⟩ := hmem r hr
    exact hvN j hj
  · refine SpE.trans (SpE.of hp1 hp2 (M := L1) ?_ ?_) (SpE.trans (SpE.of hp1 hp2 ?_ ?_) h.sp)
    · intro r hr
      obtain ⟨j, hj, rfl⟩ := hmem r hr
      rw [hN j hj]
      split
      · exact hsq
      · rw [clj_add hp1 hp2 (hvj j hj)]
        exact (Sp'.mem hp1 hp2 (getD_mem (by omega)) (hvj j hj)).add hp1 hp2 hsq
    · intro r hr
      obtain ⟨j, hj, rfl⟩ := hmem1 r hr
      by_cases e : j = C.length
      · rw [e, q5]
        exact Sp'.z.add hp1 hp2 hsq'
      · have h1 := Sp'.mem hp1 hp2 (hin j hj) (hvN j hj)
        have h4 := h1.add hp1 hp2 (k := bz (L1.getD j z0) i) hsq'
        rw [hN j hj, if_neg e, clj_add hp1 hp2 (hvj j hj)] at h4
        have e2 : addW W p (addW W p (L1.getD j z0) q (-(bz (L1.getD j z0) i))) q (bz (L1.getD j z0) i) = L1.getD j z0 := by
          refine (Vp.add hp1 hp2).ext (hvj j hj) fun x hx => ?_
          refine (cg_add' hp1 hp2 hx).trans ((cg_add (cg_add' hp1 hp2 hx) cg.rfl').trans (cg_of_eq ?_))
          grind
        rwa [e2] at h4
    · intro r hr
      have := (swL_mem (z := z0) hd hdk).1 (by rw [hL1]; exact hr)
      exact .mem hp1 hp2 this (h.vp r this)
    · intro r hr
      have := (swL_mem (z := z0) hd hdk).2 hr
      rw [hL1] at this
      exact .mem hp1 hp2 this (hvp1 r this)
  · rw [clr_len, hlen1]; simp; omega
  · intro a ha
    rw [List.length_append, List.length_singleton] at ha
    rcases Nat.lt_or_ge a C.length with h' | h'
    · rw [getD_app1 h']; have := h.ci a h'; omega
    · obtain rfl : a = C.length := by omega
      rw [getD_app2]; omega
  · intro a b hab hb
    rw [List.length_append, List.length_singleton] at hb
    rcases Nat.lt_or_ge b C.length with h' | h'
    · rw [getD_app1 h', getD_app1 (by omega)]; exact h.cs a b hab h'
    · obtain rfl : b = C.length := by omega
      rw [getD_app2, getD_app1 hab]; exact h.ci a hab
  · intro a ha
    rw [List.length_append, List.length_singleton] at ha
    rw [hN a (by omega)]
    rcases Nat.lt_or_ge a C.length with h' | h'
    · rw [if_neg (by omega), getD_app1 h', clj_at hp1 hp2 (hvj a (by omega)) (hq0 _ (h.ci a h')), hfr a h']
      exact h.one a h'
    · obtain rfl : a = C.length := by omega
      rw [if_pos rfl, getD_app2]; exact q2
  · intro a ha y hy
    rw [List.length_append, List.length_singleton] at ha
    rw [hN a (by omega)]
    rcases Nat.lt_or_ge a C.length with h' | h'
    · rw [getD_app1 h'] at hy
      rw [if_neg (by omega), clj_at hp1 hp2 (hvj a (by omega)) (hq0 _ (by have := h.ci a h'; omega)), hfr a h']
      exact h.lo a h' y hy
    · obtain rfl : a = C.length := by omega
      rw [getD_app2] at hy
      rw [if_pos rfl]; exact hq0 y hy
  · intro a ha b hb hne
    rw [List.length_append, List.length_singleton] at ha
    rw [clr_len, hlen1] at hb
    rw [hN b hb]
    rcases Nat.lt_or_ge a C.length with h' | h'
    · rw [getD_app1 h']
      split
      · exact hq0 _ (h.ci a h')
      · rw [clj_at hp1 hp2 (hvj b hb) (hq0 _ (h.ci a h'))]
        exact hz1 a h' b hb hne
    · obtain rfl : a = C.length := by omega
      rw [getD_app2, if_neg hne]
      exact clj_0 h2 hp2 hi (hvj b hb) q2
  · intro b hb hb2 y hy
    rw [List.length_append, List.length_singleton] at hb
    rw [clr_len, hlen1] at hb2
    rw [hN b hb2, if_neg (by omega)]
    rcases Nat.eq_or_lt_of_le (Nat.lt_succ_iff.1 hy) with e | e
    · rw [e]; exact clj_0 h2 hp2 hi (hvj b hb2) q2
    · rw [clj_at hp1 hp2 (hvj b hb2) (hq0 y e)]
      exact hr1 b (by omega) hb2 y e

theorem solP (hp : Pr p) {R : List By} (hR : ∀ r ∈ R, Vp W p r) : ∀ {i : Nat}, i ≤ W → ∃ C : List Nat, (solT W p R i).2 = C.map (fun c : Nat => (c : Int)) ∧ SolP W p R (solT W p R i).1 C i
  | 0, _ => ⟨[], rfl, rfl, hR, SpE.rfl', by simp, by simp, by simp, by simp, by simp, by simp, fun b hb hb2 y hy => by omega⟩
  | i + 1, hi => by
    obtain ⟨C, hC, h⟩ := @solP hp R hR i (by omega)
    rw [solT_succ]
    have hl : (solT W p R i).2.length = C.length := by rw [hC]; simp
    unfold solS
    rw [hl]
    rcases @firstQ_or (fun j => (solT W p R i).1.getD (C.length + j) z0 i != 0) ((solT W p R i).1.length - C.length) with ⟨e, h0⟩ | ⟨k, hk, e, h0, -⟩
    · rw [e, if_pos (by omega)]
      exact ⟨C, hC, h.stay fun j hj => by simpa using h0 j hj⟩
    · rw [e, if_neg (by omega), Int.toNat_natCast]
      refine ⟨C ++ [i], by rw [hC]; simp, h.step hp hi hk (by simpa using h0)⟩

/-- the rows done are reduced -/
theorem SolP.rr {R L : List By} {C : List Nat} {i : Nat} (hiW : i ≤ W) (h : SolP W p R L C i) : RR W p (L.take C.length) ∧ ∀ a, a < C.length → fstW W (L.getD a z0) = C.getD a 0 := by
  have hf : ∀ a, a < C.length → fstW W (L.getD a z0) = C.getD a 0 := fun a ha =>
    fstW_eq (by have := h.ci a ha; omega) (by rw [h.one a ha]; decide) (h.lo a ha)
  have hmem : ∀ r ∈ L.take C.length, ∃ a, a < C.length ∧ r = L.getD a z0 := by
    intro r hr
    obtain ⟨a, ha, rfl⟩ := List.mem_iff_getElem.1 hr
    rw [List.length_take] at ha
    exact ⟨a, by omega, by simp [List.getD_eq_getElem?_getD, show a < L.length by omega]⟩
  refine ⟨⟨?_, ?_, ?_⟩, hf⟩
  · intro r hr; exact h.vp r (List.mem_of_mem_take hr)
  · intro r hr
    obtain ⟨a, ha, rfl⟩ := hmem r hr
    rw [hf a ha]
    exact ⟨by have := h.ci a ha; omega, h.one a ha⟩
  · rw [List.pairwise_iff_getElem]
    intro a b ha hb hab
    rw [List.length_take] at ha hb
    have ea : (L.take C.length)[a] = L.getD a z0 := by simp [List.getD_eq_getElem?_getD, show a < L.length by omega]
    have eb : (L.take C.length)[b] = L.getD b z0 := by simp [List.getD_eq_getElem?_getD, show b < L.length by omega]
    rw [ea, eb, hf a (by omega), hf b (by omega)]
    exact ⟨h.cs a b hab (by omega), h.z b (by omega) a (by omega) (by omega)⟩
end
end Hf
namespace Hf
open Go Classical
section
variable {W W' m : Nat} {p : Int}
theorem Vp.mono (hW : W ≤ W') {v : By} (h : Vp W p v) : Vp W' p v := ⟨h.1, fun x hx => h.2 x (by omega)⟩
theorem addW_w (hW : W ≤ W') {u w : By} {k : Int} (hu : Vp W p u) (hw : Vp W p w) : addW W' p u w k = addW W p u w k :=
  (vec_more hW fun y hy _ => by rw [bz_eq0.2 (hu.2 y hy), bz_eq0.2 (hw.2 y hy)]; simp).symm
theorem Sp'.w1 (hp : 1 ≤ p) (hp2 : p ≤ 256) (hW : W ≤ W') {L : List By} (hL : ∀ v ∈ L, Vp W p v) {v : By} (h : Sp' W' p L v) : Sp' W p L v := by
  induction h with
  | z => exact .z
  | a h1 h2 ih => rw [addW_w hW (ih.vp hp hp2) (hL _ h2)]; exact .a ih h2
theorem Sp'.w2 (hp : 1 ≤ p) (hp2 : p ≤ 256) (hW : W ≤ W') {L : List By} (hL : ∀ v ∈ L, Vp W p v) {v : By} (h : Sp' W p L v) : Sp' W' p L v := by
  induction h with
  | z => exact .z
  | a h1 h2 ih => rw [← addW_w hW (h1.vp hp hp2) (hL _ h2)]; exact .a ih h2
theorem fstW_w (hW : W ≤ W') {v : By} (hv : ∀ x, W ≤ x → v x = 0) (h : v ≠ z0) : fstW W' v = fstW W v := by
  have h1 := fst_nz hv h
  exact fstW_eq (by omega) (fstW_ne h1) fun y hy => fstW_lt hy
theorem RR.w (hp : 1 ≤ p) (hW : W ≤ W') {L : List By} (hL : ∀ v ∈ L, Vp W p v) (h : RR W' p L) : RR W p L := by
  have hf : ∀ v ∈ L, fstW W' v = fstW W v := fun v hv => fstW_w hW (hL v hv).2 (h.nz hv)
  refine ⟨hL, fun r hr => ?_, ?_⟩
  · have := h.ld r hr
    rw [hf r hr] at this
    exact ⟨fst_nz (hL r hr).2 (h.nz hr), this.2⟩
  · refine List.Pairwise.imp_of_mem ?_ h.st
    intro a b ha hb hab
    rw [hf a ha, hf b hb] at hab
    exact hab
/-- a system whose right sides are 0 -/
theorem sol_rr (hp : Pr p) {R : List By} (hR : ∀ v ∈ R, Vp m p v) : ∃ C : List Nat, (solT (m + 1) p R m).2 = C.map (fun c : Nat => (c : Int)) ∧ SolP (m + 1) p R (solT (m + 1) p R m).1 C m ∧ (∀ v ∈ (solT (m + 1) p R m).1, Vp m p v) ∧ (∀ b, C.length ≤ b → (solT (m + 1) p R m).1.getD b z0 = z0) ∧
    RR m p ((solT (m + 1) p R m).1.take C.length) ∧ SpE m p ((solT (m + 1) p R m).1.take C.length) R ∧ ∀ a, a < C.length → fstW m ((solT (m + 1) p R m).1.getD a z0) = C.getD a 0 := by
  have h2 := hp.1
  have h3 := hp.2.1
  have hp1 : 1 ≤ p := by omega
  have hp2 : p ≤ 256 := by omega
  obtain ⟨C, hC, h⟩ := solP (W := m + 1) hp (R := R) (fun r hr => (hR r hr).mono (by omega)) (i := m) (by omega)
  have hv : ∀ v ∈ (solT (m + 1) p R m).1, Vp m p v := by
    intro v hv
    have h1 := (h.sp v).1 (.mem hp1 hp2 hv (h.vp v hv))
    exact (h1.w1 hp1 hp2 (by omega) hR).vp hp1 hp2
  have hz : ∀ b, C.length ≤ b → (solT (m + 1) p R m).1.getD b z0 = z0 := by
    intro b hb
    rcases Nat.lt_or_ge b (solT (m + 1) p R m).1.length with hb2 | hb2
    · funext y
      rcases Nat.lt_or_ge y m with hy | hy
      · exact h.r b hb hb2 y hy
      · exact (hv _ (getD_mem hb2)).2 y hy
    · rw [List.getD_eq_getElem?_getD, List.getElem?_eq_none hb2]; rfl
  obtain ⟨r1, r2⟩ := h.rr (by omega)
  have hvt : ∀ v ∈ (solT (m + 1) p R m).1.take C.length, Vp m p v := fun v hv' => hv v (List.mem_of_mem_take hv')
  have rrm := r1.w hp1 (by omega : m ≤ m + 1) hvt
  refine ⟨C, hC, h, hv, hz, rrm, SpE.of hp1 hp2 ?_ ?_, ?_⟩
  · intro r hr
    have hr' := List.mem_of_mem_take hr
    exact ((h.sp r).1 (.mem hp1 hp2 hr' (h.vp r hr'))).w1 hp1 hp2 (by omega) hR
  · intro r hr
    have h4 := ((h.sp r).2 (.mem hp1 hp2 hr ((hR r hr).mono (by omega)))).w1 hp1 hp2 (by omega) hv
    refine h4.sub hp1 hp2 ?_
    intro q hq
    obtain ⟨j, hj, rfl⟩ := List.mem_iff_getElem.1 hq
    have ej : (solT (m + 1) p R m).1[j] = (solT (m + 1) p R m).1.getD j z0 := by simp [List.getD_eq_getElem?_getD, hj]
    rcases Nat.lt_or_ge j C.length with h' | h'
    · have hm : (solT (m + 1) p R m).1[j] ∈ (solT (m + 1) p R m).1.take C.length := by
        rw [List.mem_take_iff_getElem]
        exact ⟨j, by omega, rfl⟩
      exact .mem hp1 hp2 hm (hvt _ hm)
    · rw [ej, hz j h']; exact .z
  · intro a ha
    have := r2 a ha
    have hm : (solT (m + 1) p R m).1.getD a z0 ∈ (solT (m + 1) p R m).1.take C.length := by
      rw [List.mem_take_iff_getElem]
      have := h.cl
      exact ⟨a, by omega, by simp [List.getD_eq_getElem?_getD, show a < (solT (m + 1) p R m).1.length by omega]⟩
    rw [← fstW_w (by omega : m ≤ m + 1) (hvt _ hm).2 (rrm.nz hm)]
    exact this
theorem sol_red (hp : Pr p) {L : List By} (hL : ∀ v ∈ L, Vp 8 p v) : (solT 9 p L 8).1.take (solT 9 p L 8).2.length = redL p L := by
  have h2 := hp.1
  have h3 := hp.2.1
  obtain ⟨C, hC, -, -, -, h4, h5, -⟩ := sol_rr (m := 8) hp hL
  obtain ⟨r1, r2⟩ := redL_rr hp hL
  have hl : (solT 9 p L 8).2.length = C.length := by
    have := congrArg List.length hC
    simpa using this
  rw [hl]
  exact h4.unique (by omega) (by omega) r1 (h5.trans r2.symm)
end
/-! ### a new row -/
/-- a row that may be written on behind: its block is none of the first m -/
def RowC (m : Nat) (H : List Blk) (n : Nat) (a : At) (v : By) : Prop := ∃ k cap N f, a = .sl k 0 n cap ∧ H[k]? = some ⟨false, .by [] N f⟩ ∧ (cap ≤ N ∧ n ≤ cap ∧ m ≤ k) ∧ ∀ x, x < n → f x = v x
theorem RowC.row {m : Nat} {H : List Blk} {n : Nat} {a : At} {v : By} (h : RowC m H n a v) : RowB H n a v := by
  obtain ⟨k, cap, N, f, h1, h2, h3, h4⟩ := h
  exact ⟨k, cap, N, f, h1, h2, by omega, h4⟩
theorem RowC.ge {m : Nat} {H : List Blk} {n : Nat} {a : At} {v : By} (h : RowC m H n a v) : m ≤ blkOf a := by
  obtain ⟨k, cap, N, f, rfl, h2, h3, h4⟩ := h
  exact h3.2.2
theorem RowC.mono {m m' : Nat} {H : List Blk} {n : Nat} {a : At} {v : By} (h : RowC m H n a v) (hm : m' ≤ m) : RowC m' H n a v := by
  obtain ⟨k, cap, N, f, h1, h2, h3, h4⟩ := h
  exact ⟨k, cap, N, f, h1, h2, by omega, h4⟩
theorem RowC.ext {m : Nat} {H H' : List Blk} {n : Nat} {a : At} {v : By} (h : RowC m H n a v) (e : Ext H H') : RowC m H' n a v := by
  obtain ⟨k, cap, N, f, h1, h2, h3, h4⟩ := h
  exact ⟨k, cap, N, f, h1, e _ _ h2, h3, h4⟩
theorem rowc_app {m : Nat} {H : List Blk} {n M : Nat} {a b : At} {v g : By} (h : RowC m H n a v) (hb : rdB H 1 b M g) (hl : n + M ≤ 1000000) (hm : m ≤ H.length) :
    apB 1 1 H a b fun a' H' => RowC m H' (n + M) a' (fun x => if x < n then v x else g (x - n)) ∧ Upto m H H' ∧ H.length ≤ H'.length := by
  obtain ⟨k, cap, N, f, rfl, hk, ⟨h1, h2, h3⟩, h4⟩ := h
  refine ⟨M, g, N, f, hb, hk, ⟨by omega, h2, by omega, by omega⟩, fun hc => ⟨⟨k, cap, N, _, by simp, set_same hk, ⟨h1, hc, h3⟩, fun x hx => ?_⟩, fun j B hj e => set_other e (by omega), by simp⟩,
    fun hc cap' hcap => ⟨⟨H.length, cap', _, _, rfl, get_new, ⟨by omega, hcap, hm⟩, fun x hx => ?_⟩, fun j B hj e => app_old e, by simp⟩⟩
  · simp only [spl, Nat.zero_add, Nat.mul_one]
    by_cases hx' : x < n
    · rw [if_neg (by omega), if_pos hx']; exact h4 x hx'
    · rw [if_pos (by omega), if_neg hx']
  · simp only [apf, Nat.mul_one]
    by_cases hx' : x < n
    · rw [if_pos (by omega), if_pos hx', ← h4 x hx']; simp [sh]
    · rw [if_neg (by omega), if_pos (by omega), if_neg hx']
/-- a system with one more row -/
theorem sy_add {m0 : Nat} {G0 G6 G7 : List Blk} {s : Nat} {p n0 : Int} {m : Nat} {R : List By} {T : List Int} {ra pa ra' x : At} {As : List At} {v : By} (hs : G0[s]? = some (sysB p n0 m ra pa)) (hra : Spn G0 ra As) (hR : Rows G0 (m + 1) As R) (hpa : Spn G0 pa (T.map (At.i .i64)))
    (hnd : (OwnT s ra As pa).Nodup) (hge : ∀ k ∈ OwnT s ra As pa, m0 ≤ k) (hm : m0 ≤ G0.length) (e : Ext G0 G6) (hx : RowC G0.length G6 (m + 1) x v) (hsp : Spn G7 ra' (As ++ [x])) (hf : Fr (spB ra) G6 G7) (hb : ∀ k ∈ spB ra', k ∈ spB ra ∨ k = G6.length) :
    G7[s]? = some (sysB p n0 m ra pa) ∧ SY m0 (G7.set s (sysB p n0 m ra' pa)) s p n0 m (R ++ [v]) T ∧ Fr (s :: spB ra) G0 (G7.set s (sysB p n0 m ra' pa)) := by
  have hlt : ∀ k ∈ OwnT s ra As pa, k < G0.length := by
    intro k hk
    simp only [OwnT, List.mem_cons, List.mem_append] at hk
    rcases hk with rfl | hk | hk | hk
    · exact lt_of hs
    · exact hpa.lt.2 k hk
    · exact hra.lt.2 k hk
    · exact hR.blt k hk
  have hxg := hx.ge
  have hxl : blkOf x < G6.length := by
    obtain ⟨k, cap, N, f, rfl, h2, -⟩ := hx
    exact lt_of h2
  have hel := e.len
  have hnr : ∀ k, k = s ∨ k ∈ spB pa ∨ k ∈ As.map blkOf ∨ k = blkOf x → k ∉ spB ra := by
    intro k hk hq
    have hq' := hlt k (by simp [OwnT, hq])
    have nd := hnd
    simp only [OwnT, List.nodup_cons, List.nodup_append, List.mem_cons, List.mem_append, not_or] at nd
    grind
  have hs7 := hf _ _ (hnr s (.inl rfl)) (e _ _ hs)
  have f1 : Fr [s] G7 (G7.set s (sysB p n0 m ra' pa)) := fun k B hk e => set_other e (by intro q; exact hk (by simp [q]))
  have hn' := spB_nd ra'
  have nd' : (OwnT s ra' (As ++ [x]) pa).Nodup ∧ ∀ k ∈ OwnT s ra' (As ++ [x]) pa, m0 ≤ k := by
    have nd := hnd
    have ge := hge
    have hl := hlt
    unfold OwnT at nd ge hl ⊢
    rw [List.map_append]
    simp only [List.nodup_cons, List.nodup_append, List.mem_cons, List.mem_append, not_or, List.map_cons, List.map_nil, List.not_mem_nil, or_false] at nd ge hl ⊢
    constructor <;> grind
  have hns : ∀ k, k ∈ spB pa ∨ k ∈ spB ra' ∨ k ∈ (As ++ [x]).map blkOf → k ∉ [s] := by
    intro k hk hq
    have nd := nd'.1
    simp only [OwnT, List.nodup_cons, List.mem_append, not_or] at nd
    simp at hq
    subst hq
    rcases hk with hk | hk | hk
    · exact nd.1.1 hk
    · exact nd.1.2.1 hk
    · exact nd.1.2.2 hk
  refine ⟨hs7, ⟨ra', As ++ [x], pa, set_same hs7, hsp.fr f1 fun k hk => hns k (.inr (.inl hk)), ?_, ?_, nd'.1, nd'.2⟩, ?_⟩
  · have h1 := ((hR.fr (l := []) e.fr (by simp)).fr hf fun k hk => hnr k (by simp only [hk]; simp)).fr f1 fun k hk => hns k (.inr (.inr (by rw [List.map_append]; exact List.mem_append_left _ hk)))
    have h2 := ((hx.row.fr hf (hnr _ (by simp))).fr f1 (hns _ (.inr (.inr (by simp)))))
    have hA := hR.1
    refine ⟨by simp [hA], fun i hi => ?_⟩
    rw [List.length_append, List.length_singleton] at hi
    by_cases hi' : i < As.length
    · have e1 : (As ++ [x]).getD i .sn = As.getD i .sn := by simp only [List.getD_eq_getElem?_getD]; rw [List.getElem?_append_left hi']
      rw [e1, getD_app, if_pos (by omega)]
      exact h1.2 i hi'
    · obtain rfl : i = As.length := by omega
      have e1 : (As ++ [x]).getD As.length .sn = x := by simp only [List.getD_eq_getElem?_getD]; rw [List.getElem?_append_right (Nat.le_refl _)]; simp
      rw [e1, getD_app, if_neg (by omega), hA, Nat.sub_self]
      exact h2
  · exact ((hpa.fr (l := []) e.fr (by simp)).fr hf fun k hk => hnr k (by simp [hk])).fr f1 fun k hk => hns k (by simp [hk])
  · intro k B hk e'
    simp only [List.mem_cons, not_or] at hk
    exact f1 _ _ (by simpa using hk.1) (hf _ _ hk.2 (e _ _ e'))
theorem SY.len {m0 : Nat} {H : List Blk} {s m : Nat} {p n0 : Int} {R : List By} {T : List Int} (h : SY m0 H s p n0 m R T) : s < H.length := by
  obtain ⟨ra, As, pa, h, -⟩ := h; exact lt_of h
end Hf
namespace Hf
open Go Classical
variable {P : Program} {ρ : Nat → FuncId}
theorem i_system_solve_ok (B : Bs P ρ) (E : F_i_system_solve P ρ) {m0 : Nat} {H : List Blk} {s m : Nat} {p n0 : Int} {R : List By} {T0 : List Int} (hp : 1 ≤ p) (hp2 : p ≤ 256) (hm : m ≤ 100000) (hS : SY m0 H s p n0 m R T0) (hlen : R.length ≤ 1000000) (hm0 : m0 ≤ H.length) :
    CallR P ρ 287 [.pt s 0] H (fun u G => u = .one (.b (solOK (m + 1) p R m)) ∧ SY m0 G s p n0 m ((solT (m + 1) p R m).1.take (solT (m + 1) p R m).2.length) (solT (m + 1) p R m).2 ∧ Upto m0 H G) := by
  obtain ⟨ra0, As0, pa0, hs0, hra0, hR0, hpa0, hnd0, hge0⟩ := hS
  refine call_of_q B.fn B.mo E.1 rfl (fun hAr hHp => ?_) (by simp [At.lt, lt_of hs0])
  refine ⟨H.length, rfl, ?_⟩
  refine ⟨_, _, get_new, rfl, ?_⟩
  refine ⟨_, _, _, app_old hs0, cput_rw (by simp) rfl, eqBk_rfl, ?_⟩
  refine ⟨_, rfl, ?_⟩
  refine ⟨_, _, _, get_new, cput_vr rfl, eqBk_rfl, ?_⟩
  obtain ⟨hI0, hK0, hU0⟩ := solve_start (B := ⟨false, .vr (.i .i64 ((0 : Nat) : Int))⟩) hs0 hra0 hR0 hpa0 hnd0 hge0 hm0
  refine ⟨At × List At × At × Nat × Nat, (fun a1 (i0 : Nat) (x0 : At × List At × At × Nat × Nat) => match x0 with | ⟨ra, As, pa, cb, d⟩ => [(1, a1), (3, .one (.i .i64 ((d : Nat) : Int))), (4, .one (.pt cb 0))]) _ , fun (i0 : Nat) (x0 : At × List At × At × Nat × Nat) (G0 : List Blk) => match x0 with | ⟨ra, As, pa, cb, d⟩ => (SolI m0 H.length s p n0 m (solT (m + 1) p R i0).1 (solT (m + 1) p R i0).2 G0 ra As pa ∧ G0[cb]? = some ⟨false, .vr (.i .i64 ((i0 : Nat) : Int))⟩ ∧ cb ∉ H.length :: OwnT s ra As pa ∧ m0 ≤ cb ∧ d = (solT (m + 1) p R i0).2.length ∧ Upto m0 H G0), m, ⟨⟨ra0, As0, .sn, _, 0⟩, ?_, ⟨rfl, rfl, rfl, trivial⟩⟩, ?_⟩
  · rw [app_set0]
    refine ⟨hI0, get_new, fun h => ?_, by simp; omega, rfl, hU0⟩
    have := hK0 _ h
    simp at this
  rintro i0 ⟨ra, As, pa, cb, d⟩ G0 hi0 ⟨hI, hcb, hcn, hc0, hd, hU⟩
  have hl := @solT_len (m + 1) p R i0
  have hAl := hI.frows.1
  refine ⟨_, _, hcb, rfl, ?_⟩
  refine ⟨_, _, hI.fkb, rfl, ?_⟩
  refine ⟨_, _, hI.fs, rfl, ?_⟩
  refine ⟨fun h16 => ?_, fun h16 => ?_⟩
  · replace h16 := of_decide_eq_true h16
    refine brB_t ?_
    refine ⟨_, _, hI.fkb, rfl, ?_⟩
    refine brB_t ?_
    refine brB_t ?_
    refine brB_t ?_
    refine ⟨_, _, hI.fs, rfl, ?_⟩
    refine brB_t ?_
    refine ⟨_, (hI.fra).len, ?_⟩
    refine brB_t ?_
    refine brB_t ?_
    refine ⟨fun h24 => ?_, fun h24 => ?_⟩
    · replace h24 := of_decide_eq_true h24
      subst hd
      have hd0 : (solT (m + 1) p R i0).2.length < R.length := by omega
      refine ⟨_, _, hI.fkb, rfl, ?_⟩
      refine ⟨_, _, hI.fs, rfl, ?_⟩
      obtain ⟨kr, cr, lr, rfl, hkr, ⟨hr1, hr2⟩, hr3⟩ := hI.fra.sl (by omega)
      obtain ⟨z, hz⟩ : ∃ z, firstQ (fun i => (solT (m + 1) p R i0).1.getD ((solT (m + 1) p R i0).2.length + i) z0 i0 != 0) (R.length - (solT (m + 1) p R i0).2.length) 0 = z := ⟨_, rfl⟩
      have hdl : (As.drop (solT (m + 1) p R i0).2.length).length = R.length - (solT (m + 1) p R i0).2.length := by simp; omega
      refine ⟨_, _, rfl, rfl, ⟨by omega, by omega⟩, ?_⟩
      refine ⟨_, x_IndexFunc_R_ok B E.2.2.1 (q := fun i => (solT (m + 1) p R i0).1.getD ((solT (m + 1) p R i0).2.length + i) z0 i0 != 0) (z := z) (by rw [hdl]; exact hz) (rdR_drop hkr ⟨hr1, hr2⟩ hr3 (by omega) _) (by simp [At.lt, lt_of hkr]) (by simp [At.lt, lt_of hcb]) (by omega) (fun i hi => by rw [drop_getD]; exact i_system_solve_1_ok B E.2.1 (hI.frows.at _ (by omega)) hcb (by omega)), ?_⟩
      rintro _ _ ⟨rfl, rfl⟩
      refine ⟨fun h36 => ?_, fun h36 => ?_⟩
      · replace h36 := of_decide_eq_true h36
        have hS : solT (m + 1) p R (i0 + 1) = solT (m + 1) p R i0 := by
          rw [solT_succ]; unfold solS
          rw [hl.1, hz, if_pos h36]
        refine ⟨_, _, hcb, rfl, ?_⟩
        refine ⟨_, rfl, ?_⟩
        refine ⟨_, _, _, get_new, cput_vr rfl, eqBk_rfl, ?_⟩
        refine ⟨_, _, set_same get_new, rfl, ?_⟩
        refine ⟨((i0 + 1 : Nat) : Int), w64_id _ (by omega) (by omega), ?_⟩
        refine ⟨_, _, _, set_same get_new, cput_vr rfl, eqBk_rfl, ?_⟩
        refine ⟨by omega, (.sl kr 0 As.length cr, As, pa, _, _), ?_, ⟨rfl, rfl, rfl, trivial⟩⟩
        dsimp only
        rw [app_set0, app_set0, hS]
        exact ⟨hI.ext Ext.app, get_new, fun h => absurd (hI.lt _ h) (by omega), by have := (hI.lt _ (List.mem_cons_self ..)); omega, rfl, hU.trans (Ext.app).upto⟩
      · replace h36 := of_decide_eq_false h36
        obtain ⟨k, hk, rfl⟩ : ∃ k, k < R.length - (solT (m + 1) p R i0).2.length ∧ z = (k : Int) := by
          rcases @firstQ_or (fun i => (solT (m + 1) p R i0).1.getD ((solT (m + 1) p R i0).2.length + i) z0 i0 != 0) (R.length - (solT (m + 1) p R i0).2.length) with ⟨e, -⟩ | ⟨k, hk, e, -⟩
          · omega
          · exact ⟨k, hk, by omega⟩
        have hS : solT (m + 1) p R (i0 + 1) = (clr (m + 1) p (swL z0 (solT (m + 1) p R i0).1 (solT (m + 1) p R i0).2.length ((solT (m + 1) p R i0).2.length + k)) (solT (m + 1) p R i0).2.length i0, (solT (m + 1) p R i0).2 ++ [(i0 : Int)]) := by
          rw [solT_succ]; unfold solS
          rw [hl.1, hz, if_neg h36, Int.toNat_natCast]
        refine ⟨_, _, hI.fkb, rfl, ?_⟩
        refine ⟨_, _, hI.fs, rfl, ?_⟩
        refine ⟨_, _, hI.fkb, rfl, ?_⟩
        refine ⟨_, _, hI.fs, rfl, ?_⟩
        refine ⟨(((solT (m + 1) p R i0).2.length + k : Nat) : Int), w64_id _ (by omega) (by omega), ?_⟩
        refine ⟨_, _, hI.fkb, rfl, ?_⟩
        refine ⟨_, _, hI.fs, rfl, ?_⟩
        refine ⟨(((solT (m + 1) p R i0).2.length + k : Nat) : Int), w64_id _ (by omega) (by omega), ?_⟩
        obtain ⟨k56, o56, n56, c56, q56, ea56, hl56, hq56, r56, l56, hk56, hi56⟩ := rdR_at (hI.fra.rd) (((solT (m + 1) p R i0).2.length + k)) (by omega)
        refine ⟨k56, o56, n56, c56, ((solT (m + 1) p R i0).2.length + k), q56, ea56, rfl, hl56, hq56, ?_⟩
        refine ⟨_, _, hk56, hi56, ?_⟩
        refine ⟨_, _, hI.fkb, rfl, ?_⟩
        refine ⟨_, _, hI.fs, rfl, ?_⟩
        obtain ⟨k63, o63, n63, c63, q63, ea63, hl63, hq63, r63, l63, hk63, hi63⟩ := rdR_at (hI.fra.rd) (((solT (m + 1) p R i0).2.length)) (by omega)
        refine ⟨k63, o63, n63, c63, ((solT (m + 1) p R i0).2.length), q63, ea63, rfl, hl63, hq63, ?_⟩
        refine ⟨_, _, hk63, hi63, ?_⟩
        have hca := (hI.frows.at ((solT (m + 1) p R i0).2.length + k) (by omega)).cell
        have hcb2 := (hI.frows.at (solT (m + 1) p R i0).2.length (by omega)).cell
        obtain ⟨k65, o65, n65, c65, q65, C65, ea65, hl65, hq65, hk65, hs65⟩ := Spn.st (hI.fra) (((solT (m + 1) p R i0).2.length)) (by omega)
        refine ⟨k65, o65, n65, c65, ((solT (m + 1) p R i0).2.length), q65, ea65, rfl, hl65, hq65, ?_⟩
        refine ⟨_, _, _, hk65, (hs65 _ hca).1, eqBk_rfl, ?_⟩
        obtain ⟨-, hsp1, hf1⟩ := hs65 _ hca
        obtain ⟨k66, o66, n66, c66, q66, C66, ea66, hl66, hq66, hk66, hs66⟩ := Spn.st (hsp1) (((solT (m + 1) p R i0).2.length + k)) (by rw [List.length_set]; omega)
        refine ⟨k66, o66, n66, c66, ((solT (m + 1) p R i0).2.length + k), q66, ea66, rfl, hl66, hq66, ?_⟩
        refine ⟨_, _, _, hk66, (hs66 _ hcb2).1, eqBk_rfl, ?_⟩
        obtain ⟨-, hsp2, hf2⟩ := hs66 _ hcb2
        have hI2 := hI.sw (i := (solT (m + 1) p R i0).2.length) (j := (solT (m + 1) p R i0).2.length + k) (by omega) (by omega) (hf1.trans hf2) hsp2
        have hcb3 := (hf1.trans hf2) _ _ (fun h => hcn (by simp [OwnT, h])) hcb
        refine ⟨_, _, hI2.fkb, rfl, ?_⟩
        refine ⟨_, _, hcb3, rfl, ?_⟩
        refine ⟨_, i_system_clear_ok B E.2.2.2.1 (d := (solT (m + 1) p R i0).2.length) (c := i0) hp hp2 hm hI2.fs hI2.fra hI2.frows (by have := hI2.nd; unfold OwnT at this; simp only [List.nodup_cons, List.nodup_append] at this; exact this.2.2.2.1.2.1) (by have := hI2.nd; unfold OwnT at this; simp only [List.nodup_cons, List.nodup_append, List.mem_append, not_or] at this; exact this.2.1.2.2) (fun k hk hq => by have := hI2.nd; unfold OwnT at this; simp only [List.nodup_cons, List.nodup_append] at this; exact this.2.2.2.1.2.2 k hk k hq rfl) (by rw [swL_len]; omega) (by rw [swL_len]; omega) (by omega), ?_⟩
        rintro _ G3 ⟨hc1, hc2⟩
        have hI3 := hI2.cl hc2 hc1
        have hcn2 : cb ∉ (swL At.sn As (solT (m + 1) p R i0).2.length ((solT (m + 1) p R i0).2.length + k)).map blkOf := by
          intro h
          refine hcn ?_
          have := ((swL_perm (z := At.sn) (L := As) (i := (solT (m + 1) p R i0).2.length) (j := (solT (m + 1) p R i0).2.length + k) (by omega) (by omega)).map blkOf).mem_iff.1 h
          unfold OwnT
          simp only [List.mem_cons, List.mem_append]
          exact .inr (.inr (.inr (.inr this)))
        have hcb4 := hc2 _ _ hcn2 hcb3
        refine ⟨_, _, hI3.fkb, rfl, ?_⟩
        refine ⟨_, _, hI3.fkb, rfl, ?_⟩
        refine ⟨_, _, hI3.fs, rfl, ?_⟩
        refine ⟨_, _, hcb4, rfl, ?_⟩
        refine ⟨_, rfl, ⟨kept1 hI3.fs (app_old hI3.fs), kept1 hI3.fkb (app_old hI3.fkb), kept1 hI3.fkb (app_old hI3.fkb), trivial⟩, ?_⟩
        refine ⟨_, spn_app (x := .i .i64 (i0 : Int)) (hI3.ext Ext.app).fpa ⟨false, _, get_new, by simp, rfl⟩ (by simp; omega) (by omega), ?_⟩
        rintro a78 G78 ⟨hp78, hf78, hb78, hl78⟩
        have hx3 : ∀ k, k = H.length ∨ k = s → k ∉ spB pa := by
          intro k hk hq
          have nd := hI3.nd
          simp only [OwnT, List.nodup_cons, List.nodup_append, List.mem_cons, List.mem_append, not_or] at nd
          grind
        have hkb78 := hf78 _ _ (hx3 _ (.inl rfl)) (app_old hI3.fkb)
        have hs78 := hf78 _ _ (hx3 _ (.inr rfl)) (app_old hI3.fs)
        refine ⟨⟨kept1 (app_old hI3.fs) hs78, kept1 (app_old hI3.fkb) hkb78, kept1 (app_old hI3.fkb) hkb78, trivial⟩, ?_⟩
        have hI4 := hI3.pl (T' := (solT (m + 1) p R i0).2 ++ [(i0 : Int)]) Ext.app hf78 (by rw [List.map_append]; exact hp78) (app_hb hb78) (by have := hI3.lt _ (List.mem_cons_self ..); omega)
        have hcb5 : cb ∉ spB pa ∧ cb ≠ s := by constructor <;> (intro h; exact hcn (by simp [OwnT, h]))
        have hcb6 := hf78 _ _ hcb5.1 (app_old hcb4)
        refine ⟨_, _, _, hs78, cput_rw (by simp) hp78.cell, eqBk_rfl, ?_⟩
        refine ⟨((((solT (m + 1) p R i0).2.length + 1 : Nat)) : Int), w64_id _ (by omega) (by omega), ?_⟩
        refine ⟨_, _, set_other hcb6 (Ne.symm hcb5.2), rfl, ?_⟩
        refine ⟨_, rfl, ?_⟩
        refine ⟨_, _, _, get_new, cput_vr rfl, eqBk_rfl, ?_⟩
        refine ⟨_, _, set_same get_new, rfl, ?_⟩
        refine ⟨((i0 + 1 : Nat) : Int), w64_id _ (by omega) (by omega), ?_⟩
        refine ⟨_, _, _, set_same get_new, cput_vr rfl, eqBk_rfl, ?_⟩
        refine ⟨by omega, (.sl kr 0 As.length cr, swL At.sn As (solT (m + 1) p R i0).2.length ((solT (m + 1) p R i0).2.length + k), a78, _, _), ?_, ⟨rfl, rfl, rfl, trivial⟩⟩
        dsimp only
        rw [app_set0, app_set0, hS]
        refine ⟨hI4.ext Ext.app, get_new, fun h => Nat.lt_irrefl _ (hI4.lt _ h), Nat.le_trans (hI4.ge _ (List.mem_cons_self ..)) (Nat.le_of_lt (hI4.lt _ (List.mem_cons_self ..))), by simp, ?_⟩
        have ge := hI.ge
        have ge3 := hI3.ge
        refine hU.trans (((hf1.trans hf2).upto fun k hk => ge k (by simp only [OwnT, List.mem_cons, List.mem_append]; simp [hk])).trans ((hc2.upto fun k hk => ge3 k (by simp only [OwnT, List.mem_cons, List.mem_append]; simp [hk])).trans ((Ext.app (G := _)).upto.trans ((hf78.upto fun k hk => ge3 k (by simp only [OwnT, List.mem_cons, List.mem_append]; simp [hk])).trans (Upto.trans (H1 := _) (fun k B hk e => set_other e ?_) (Ext.app (G := _)).upto)))))
        have := ge s (by simp [OwnT]); omega
    · replace h24 := of_decide_eq_false h24
      have hfin : solT (m + 1) p R m = solT (m + 1) p R i0 := by
        have := @solT_full (m + 1) p R i0 (m - i0) (by omega)
        rwa [show i0 + (m - i0) = m by omega] at this
      refine ⟨_, _, hI.fkb, rfl, ?_⟩
      refine ⟨_, _, hI.fs, rfl, ?_⟩
      have hR0l : As.length = R.length := by omega
      subst hd
      rcases hI.fra with ⟨rfl, rfl⟩ | ⟨kr, cr, lr, rfl, hkr, ⟨hr1, hr2⟩, hr3⟩
      · have hd0 : (solT (m + 1) p R i0).2.length = 0 := by have : ([] : List At).length = R.length := hR0l; simp at this; omega
        refine ⟨⟨by rw [hd0]; rfl, rfl⟩, ?_⟩
        refine ⟨_, _, hI.fkb, rfl, ?_⟩
        refine ⟨_, _, hI.fkb, rfl, ?_⟩
        refine ⟨_, _, hI.fs, rfl, ?_⟩
        refine ⟨⟨rfl, by rw [hd0]; rfl⟩, ?_⟩
        obtain ⟨hD, hf9⟩ := hI.done (d := 0) (ra' := .sn) (by omega) rfl (.inl ⟨rfl, rfl⟩)
        refine ⟨_, _, _, hI.fs, cput_rw (by simp) rfl, eqBk_rfl, ?_⟩
        obtain ⟨z, hz⟩ : ∃ z, firstQ (fun i => (solT (m + 1) p R i0).1.getD ((solT (m + 1) p R i0).2.length + i) z0 m != 0) (R.length - (solT (m + 1) p R i0).2.length) 0 = z := ⟨_, rfl⟩
        have hkb9 := hf9 _ _ (by have nd := hI.nd; simp [OwnT] at nd ⊢; grind) hI.fkb
        have hs9 : ∀ ra', (List.set _ s (sysB p n0 m ra' pa))[s]? = some (sysB p n0 m ra' pa) := fun ra' => set_same hI.fs
        refine ⟨_, x_ContainsFunc_R_ok B E.2.2.2.2.2 (a := .sn) (As := []) (q := fun i => (solT (m + 1) p R i0).1.getD ((solT (m + 1) p R i0).2.length + i) z0 m != 0) (z := z) (by rw [← hz, ← hR0l, hd0]; rfl) rfl rfl (by have := lt_of hI.fkb; simp [At.lt]; omega) (by simp) (fun i hi => by simp at hi), ?_⟩
        rintro _ _ ⟨rfl, rfl⟩
        refine ⟨rfl, by unfold solOK; rw [hfin, hz]; rfl, ?_, ?_⟩
        · rw [hfin]; first | exact hD | (rw [hd0]; exact hD)
        · exact hU.trans (hf9.upto fun k hk => by have := hI.ge s (by simp [OwnT]); simp at hk; omega)
      · refine ⟨_, As.length, rfl, rfl, ⟨by omega, by omega⟩, ?_⟩
        refine ⟨_, _, hI.fkb, rfl, ?_⟩
        refine ⟨_, _, hI.fkb, rfl, ?_⟩
        refine ⟨_, _, hI.fs, rfl, ?_⟩
        refine ⟨0, _, rfl, rfl, ⟨by omega, by omega⟩, ?_⟩
        obtain ⟨hD, hf9⟩ := hI.done (d := (solT (m + 1) p R i0).2.length) (ra' := .sl kr (if cr = 0 then 0 else 0 + 0 * 1) ((solT (m + 1) p R i0).2.length - 0) (cr - 0)) (by omega) rfl (by refine spn_take ?_ ⟨hr1, hr2⟩ hr3 (by omega); exact set_other hkr (by intro q; have nd := hI.nd; subst q; simp [OwnT, spB] at nd))
        refine ⟨_, _, _, hI.fs, cput_rw (by simp) rfl, eqBk_rfl, ?_⟩
        obtain ⟨z, hz⟩ : ∃ z, firstQ (fun i => (solT (m + 1) p R i0).1.getD ((solT (m + 1) p R i0).2.length + i) z0 m != 0) (R.length - (solT (m + 1) p R i0).2.length) 0 = z := ⟨_, rfl⟩
        have hkb9 := hf9 _ _ (by have nd := hI.nd; simp [OwnT] at nd ⊢; grind) hI.fkb
        have hkr9 : kr ∉ [s] := by have nd := hI.nd; simp [OwnT, spB] at nd ⊢; grind
        have hrow9 : ∀ i, i < As.length → blkOf (As.getD i .sn) ∉ [s] := by
          intro i hi
          have nd := hI.nd
          have := map_getD hi
          simp only [OwnT, List.nodup_cons, List.nodup_append, List.mem_cons, List.mem_append, not_or, List.not_mem_nil, or_false] at nd ⊢
          intro q
          grind
        refine ⟨_, x_ContainsFunc_R_ok B E.2.2.2.2.2 (As := As.drop (solT (m + 1) p R i0).2.length) (q := fun i => (solT (m + 1) p R i0).1.getD ((solT (m + 1) p R i0).2.length + i) z0 m != 0) (z := z) (by rw [← hz, List.length_drop, hR0l]) (rdR_drop (hf9 _ _ hkr9 hkr) ⟨hr1, hr2⟩ hr3 (by omega) _) (by simp [At.lt]; have := lt_of hkr; omega) (by have := lt_of hI.fkb; simp [At.lt]; omega) (by rw [List.length_drop]; omega) (fun i hi => by rw [List.length_drop] at hi; rw [drop_getD]; exact i_system_solve_2_ok B E.2.2.2.2.1 ((hI.frows.at _ (by omega)).fr hf9 (hrow9 _ (by omega))) hkb9 (set_same hI.fs)), ?_⟩
        rintro _ _ ⟨rfl, rfl⟩
        refine ⟨rfl, by unfold solOK; rw [hfin, hz]; rfl, ?_, ?_⟩
        · rw [hfin]; first | exact hD | (rw [hd0]; exact hD)
        · exact hU.trans (hf9.upto fun k hk => by have := hI.ge s (by simp [OwnT]); simp at hk; omega)
  · replace h16 := of_decide_eq_false h16
    have e0 : i0 = m := by omega
    have hfin : solT (m + 1) p R m = solT (m + 1) p R i0 := by rw [e0]
    refine brB_f ?_
    refine brB_f ?_
    refine brB_f ?_
    refine brB_f ?_
    refine brB_f ?_
    refine brB_f ?_
    refine brB_f ?_
    refine brB_f ?_
    refine ⟨_, _, hI.fkb, rfl, ?_⟩
    refine ⟨_, _, hI.fs, rfl, ?_⟩
    have hR0l : As.length = R.length := by omega
    subst hd
    rcases hI.fra with ⟨rfl, rfl⟩ | ⟨kr, cr, lr, rfl, hkr, ⟨hr1, hr2⟩, hr3⟩
    · have hd0 : (solT (m + 1) p R i0).2.length = 0 := by have : ([] : List At).length = R.length := hR0l; simp at this; omega
      refine ⟨⟨by rw [hd0]; rfl, rfl⟩, ?_⟩
      refine ⟨_, _, hI.fkb, rfl, ?_⟩
      refine ⟨_, _, hI.fkb, rfl, ?_⟩
      refine ⟨_, _, hI.fs, rfl, ?_⟩
      refine ⟨⟨rfl, by rw [hd0]; rfl⟩, ?_⟩
      obtain ⟨hD, hf9⟩ := hI.done (d := 0) (ra' := .sn) (by omega) rfl (.inl ⟨rfl, rfl⟩)
      refine ⟨_, _, _, hI.fs, cput_rw (by simp) rfl, eqBk_rfl, ?_⟩
      obtain ⟨z, hz⟩ : ∃ z, firstQ (fun i => (solT (m + 1) p R i0).1.getD ((solT (m + 1) p R i0).2.length + i) z0 m != 0) (R.length - (solT (m + 1) p R i0).2.length) 0 = z := ⟨_, rfl⟩
      have hkb9 := hf9 _ _ (by have nd := hI.nd; simp [OwnT] at nd ⊢; grind) hI.fkb
      have hs9 : ∀ ra', (List.set _ s (sysB p n0 m ra' pa))[s]? = some (sysB p n0 m ra' pa) := fun ra' => set_same hI.fs
      refine ⟨_, x_ContainsFunc_R_ok B E.2.2.2.2.2 (a := .sn) (As := []) (q := fun i => (solT (m + 1) p R i0).1.getD ((solT (m + 1) p R i0).2.length + i) z0 m != 0) (z := z) (by rw [← hz, ← hR0l, hd0]; rfl) rfl rfl (by have := lt_of hI.fkb; simp [At.lt]; omega) (by simp) (fun i hi => by simp at hi), ?_⟩
      rintro _ _ ⟨rfl, rfl⟩
      refine ⟨rfl, by unfold solOK; rw [hfin, hz]; rfl, ?_, ?_⟩
      · rw [hfin]; first | exact hD | (rw [hd0]; exact hD)
      · exact hU.trans (hf9.upto fun k hk => by have := hI.ge s (by simp [OwnT]); simp at hk; omega)
    · refine ⟨_, As.length, rfl, rfl, ⟨by omega, by omega⟩, ?_⟩
      refine ⟨_, _, hI.fkb, rfl, ?_⟩
      refine ⟨_, _, hI.fkb, rfl, ?_⟩
      refine ⟨_, _, hI.fs, rfl, ?_⟩
      refine ⟨0, _, rfl, rfl, ⟨by omega, by omega⟩, ?_⟩
      obtain ⟨hD, hf9⟩ := hI.done (d := (solT (m + 1) p R i0).2.length) (ra' := .sl kr (if cr = 0 then 0 else 0 + 0 * 1) ((solT (m + 1) p R i0).2.length - 0) (cr - 0)) (by omega) rfl (by refine spn_take ?_ ⟨hr1, hr2⟩ hr3 (by omega); exact set_other hkr (by intro q; have nd := hI.nd; subst q; simp [OwnT, spB] at nd))
      refine ⟨_, _, _, hI.fs, cput_rw (by simp) rfl, eqBk_rfl, ?_⟩
      obtain ⟨z, hz⟩ : ∃ z, firstQ (fun i => (solT (m + 1) p R i0).1.getD ((solT (m + 1) p R i0).2.length + i) z0 m != 0) (R.length - (solT (m + 1) p R i0).2.length) 0 = z := ⟨_, rfl⟩
      have hkb9 := hf9 _ _ (by have nd := hI.nd; simp [OwnT] at nd ⊢; grind) hI.fkb
      have hkr9 : kr ∉ [s] := by have nd := hI.nd; simp [OwnT, spB] at nd ⊢; grind
      have hrow9 : ∀ i, i < As.length → blkOf (As.getD i .sn) ∉ [s] := by
        intro i hi
        have nd := hI.nd
        have := map_getD hi
        simp only [OwnT, List.nodup_cons, List.nodup_append, List.mem_cons, List.mem_append, not_or, List.not_mem_nil, or_false] at nd ⊢
        intro q
        grind
      refine ⟨_, x_ContainsFunc_R_ok B E.2.2.2.2.2 (As := As.drop (solT (m + 1) p R i0).2.length) (q := fun i => (solT (m + 1) p R i0).1.getD ((solT (m + 1) p R i0).2.length + i) z0 m != 0) (z := z) (by rw [← hz, List.length_drop, hR0l]) (rdR_drop (hf9 _ _ hkr9 hkr) ⟨hr1, hr2⟩ hr3 (by omega) _) (by simp [At.lt]; have := lt_of hkr; omega) (by have := lt_of hI.fkb; simp [At.lt]; omega) (by rw [List.length_drop]; omega) (fun i hi => by rw [List.length_drop] at hi; rw [drop_getD]; exact i_system_solve_2_ok B E.2.2.2.2.1 ((hI.frows.at _ (by omega)).fr hf9 (hrow9 _ (by omega))) hkb9 (set_same hI.fs)), ?_⟩
      rintro _ _ ⟨rfl, rfl⟩
      refine ⟨rfl, by unfold solOK; rw [hfin, hz]; rfl, ?_, ?_⟩
      · rw [hfin]; first | exact hD | (rw [hd0]; exact hD)
      · exact hU.trans (hf9.upto fun k hk => by have := hI.ge s (by simp [OwnT]); simp at hk; omega)

end Hf
namespace Hf
open Go Classical
variable {P : Program} {ρ : Nat → FuncId}
theorem CallOK.at0 {f : Nat} {as : List At} {H : List Blk} {v : Sv} (h : CallOK P ρ f as [] v []) (ha : as = as.map (mva (tau [] H.length))) (hv : mvs (tau [] H.length) v = v) : CallR P ρ f as H fun u G => u = v ∧ G = H :=
  (h.emb [] ha trivial rfl hv (by simp [back])).r
/-- a call that reads one block -/
theorem CallOK.at1 {f k : Nat} {as args : List At} {H : List Blk} {v : Sv} {r : Bool} {hd : List Int} {N : Nat} {g : By} (hk : H[k]? = some ⟨r, .by hd N g⟩) (h : CallOK P ρ f as [⟨true, .by hd N g⟩] v [⟨true, .by hd N g⟩]) (ha : args = as.map (mva (tau [k] H.length))) (hv : mvs (tau [k] H.length) v = v) :
    CallR P ρ f args H fun u G => u = v ∧ G = H :=
  (h.emb [k] ha ⟨⟨r, hk, fun h => by cases h⟩, trivial⟩ rfl hv (by simp [back])).r
/-- and one that reads two -/
theorem CallOK.at2 {f k k' : Nat} {as args : List At} {H : List Blk} {v : Sv} {r r' : Bool} {hd hd' : List Int} {N N' : Nat} {g g' : By} (hk : H[k]? = some ⟨r, .by hd N g⟩) (hk' : H[k']? = some ⟨r', .by hd' N' g'⟩)
    (h : CallOK P ρ f as [⟨true, .by hd N g⟩, ⟨true, .by hd' N' g'⟩] v [⟨true, .by hd N g⟩, ⟨true, .by hd' N' g'⟩]) (ha : args = as.map (mva (tau [k, k'] H.length))) (hv : mvs (tau [k, k'] H.length) v = v) :
    CallR P ρ f args H fun u G => u = v ∧ G = H :=
  (h.emb [k, k'] ha ⟨⟨r, hk, fun h => by cases h⟩, ⟨r', hk', fun h => by cases h⟩, trivial⟩ (by simp [apart]) hv (by simp [back])).r

/-! ### the rows of a matrix -/
def rw8 (g : By) (i : Nat) : By := fun x => if x < 8 then g (i * 8 + x) else 0
def rows8 (g : By) : List By := (List.range 8).map (rw8 g)
theorem rows8_at {g : By} {i : Nat} (h : i < 8) : (rows8 g).getD i z0 = rw8 g i := by simp [rows8, List.getD_eq_getElem?_getD, h]
theorem VS.ag {H : List Blk} {k : Nat} {r : Bool} {g : By} (h : H[k]? = some ⟨r, .by [] 64 g⟩) : VS H (.sl k 0 8 8) (rows8 g) := by
  refine .inr ⟨k, 0, 8, r, 64, g, by simp [rows8], h, by simp [rows8], fun i x hi hx => ?_⟩
  have hi : i < 8 := by simpa [rows8] using hi
  rw [rows8_at hi, rw8, if_pos hx, Nat.zero_add]
theorem VW.one {H : List Blk} {m : Nat} {v : By} (hm : m ≤ H.length) : VW m (H ++ [⟨false, .by [] (1 * 8) (spl (fun _ => 0) (0 * 8) 8 v)⟩]) (.sl H.length 0 1 1) [v] := by
  refine ⟨H.length, 0, 1, _, _, rfl, get_new, ⟨by omega, by simp, hm⟩, fun i x h hx => ?_⟩
  obtain rfl : i = 0 := by simpa using h
  simp [spl, hx]
/-- a slice that may be nil -/
def VM (m : Nat) (H : List Blk) (a : At) (L : List By) : Prop := (a = .sn ∧ L = []) ∨ VW m H a L
theorem VM.vs {m : Nat} {H : List Blk} {a : At} {L : List By} (h : VM m H a L) : VS H a L := by
  rcases h with h | h
  · exact .inl h
  · exact h.vs
theorem VM.vw {m : Nat} {H : List Blk} {a : At} {L : List By} (h : VM m H a L) (hl : 0 < L.length) : VW m H a L := by
  rcases h with ⟨-, rfl⟩ | h
  · simp at hl
  · exact h
theorem VM.nil {m : Nat} {H : List Blk} : VM m H .sn [] := .inl ⟨rfl, rfl⟩
theorem VM.mono {m m' : Nat} {H : List Blk} {a : At} {L : List By} (h : VM m H a L) (hm : m' ≤ m) : VM m' H a L := h.imp id fun h => h.mono hm
theorem VM.ext {m : Nat} {H H' : List Blk} {a : At} {L : List By} (h : VM m H a L) (e : Ext H H') : VM m H' a L := h.imp id fun h => h.ext e
theorem VS.upto {m : Nat} {H H' : List Blk} {a : At} {L : List By} (h : VS H a L) (hm : H.length ≤ m) (e : Upto m H H') : VS H' a L := h.ext fun k B hk => e k B (by have := lt_of hk; omega) hk

theorem brB_f' {b : Bool} {K : Bool → Prop} (hb : b = false) (h : K false) : brB b K := by subst hb; exact brB_f h
theorem VW.congr {m : Nat} {H : List Blk} {a : At} {L L' : List By} (h : VW m H a L) (hl : L'.length = L.length) (e : ∀ i x, i < L.length → x < 8 → (L.getD i z0) x = (L'.getD i z0) x) : VW m H a L' := by
  obtain ⟨k, off, cap, N, f, rfl, h2, h3, h4⟩ := h
  exact ⟨k, off, cap, N, f, by rw [hl], h2, by rw [hl]; exact h3, fun i x hi hx => by rw [hl] at hi; rw [h4 i x hi hx]; exact e i x hi hx⟩
/-- an entry is written -/
theorem VW.st {m : Nat} {H : List Blk} {a : At} {L : List By} (h : VW m H a L) (i : Nat) (hi : i < L.length) :
    ∃ k off len cap q c, a = .sl k off len cap ∧ i < len ∧ off + i * 8 = q ∧ H[k]? = some ⟨false, c⟩ ∧ ∀ x b, x < 8 → cput c (q + x) (.u b) = some (bput c (q + x) b) ∧
      (∀ L', L'.length = L.length → (∀ j y, j < L.length → y < 8 → (L'.getD j z0) y = if j = i ∧ y = x then b else (L.getD j z0) y) → VW m (H.set k ⟨false, bput c (q + x) b⟩) a L') ∧ Upto m H (H.set k ⟨false, bput c (q + x) b⟩) := by
  obtain ⟨k, off, cap, N, f, rfl, h2, h3, h4⟩ := h
  refine ⟨k, off, L.length, cap, off + i * 8, _, rfl, hi, rfl, h2, fun x b hx => ⟨cput_u (by simp) (by omega), fun L' hl he => ⟨k, off, cap, N, upd f (off + i * 8 + x) b, by rw [hl], set_same h2, by rw [hl]; exact h3, fun j y hj hy => ?_⟩, fun j B hj e => set_other e (by omega)⟩⟩
  rw [hl] at hj
  rw [he j y hj hy]
  unfold upd
  by_cases e : j = i ∧ y = x
  · rw [if_pos e, if_pos (by omega)]
  · rw [if_neg e, if_neg (by omega)]
    exact h4 j y hj hy
end Hf
namespace Hf
open Go Classical
variable {P : Program} {ρ : Nat → FuncId}
theorem x_IndexFunc_V2_ok (B : Bs P ρ) (E : F_x_IndexFunc_V2 P ρ) {g : Nat} {caps : List (Nat × Nat)} {H : List Blk} {a : At} {L : List By} {q : Nat → Bool} {z : Int} (hz : firstQ q L.length 0 = z) (hA : VS H a L) (hcaps : (At.fn g [] caps).lt H.length = true) (hlen : L.length ≤ 1000000) (hq : ∀ i, i < L.length → CallR P ρ g ([.ag [] 8 (L.getD i z0)] ++ caps.map (fun p => .pt p.1 p.2)) H fun u G => u = .one (.b (q i)) ∧ G = H) :
    CallR P ρ 91 [a, .fn g [] caps] H (fun u G => u = .one (.i .i64 z) ∧ G = H) := by
  refine call_of_q B.fn B.mo E rfl (fun hAr hHp => ?_) (by simp only [List.all_cons, List.all_nil, hA.lt, hcaps]; rfl)
  refine ⟨_, (hA).len, ?_⟩
  refine ⟨Unit, (fun a0 a1 a7 (i0 : Nat) (x0 : Unit) => [(0, a0), (1, a1), (7, a7), (8, .one (.i .i64 ((i0 : Nat) : Int)))]) _ _ _ , fun (i0 : Nat) (x0 : Unit) (G0 : List Blk) => (G0 = H ∧ ∀ j, j < i0 → q j = false), L.length, ⟨(), ⟨rfl, fun j h => by omega⟩, ⟨rfl, rfl, rfl, rfl, trivial⟩⟩, ?_⟩
  rintro i0 _ G0 hi0 ⟨rfl, hF0⟩
  refine ⟨fun h9 => ?_, fun h9 => ?_⟩
  · replace h9 := of_decide_eq_true h9
    obtain ⟨k14, o14, n14, c14, q14, ea14, hl14, hq14, r14, N14, f14, hk14, hN14, hf14⟩ := (hA).at i0 (by omega)
    refine ⟨k14, o14, n14, c14, i0, q14, ea14, rfl, hl14, hq14, ?_⟩
    refine ⟨_, _, _, _, _, hk14, ⟨by simp, hN14⟩, hf14, ?_⟩
    refine ⟨_, hq i0 (by omega), ?_⟩
    rintro _ _ ⟨rfl, rfl⟩
    refine ⟨fun h16 => ?_, fun h16 => ?_⟩
    · skip
      have e : z = (i0 : Int) := hz.symm.trans <| firstQ_some (by omega) (by omega) h16 fun j _ h => hF0 j h
      exact ⟨rfl, by rw [e]; rfl, rfl⟩
    · skip
      refine ⟨((i0 + 1 : Nat) : Int), w64_id _ (by omega) (by omega), ?_⟩
      refine ⟨by omega, (), ?_, ⟨rfl, rfl, rfl, rfl, trivial⟩⟩
      refine ⟨rfl, fun j hj => ?_⟩
      by_cases e : j = i0
      · subst e; exact h16
      · exact hF0 j (by omega)
  · replace h9 := of_decide_eq_false h9
    have e0 : L.length = i0 := by omega
    subst e0
    have e : z = -1 := hz.symm.trans <| firstQ_none fun j _ h => hF0 j (by omega)
    exact ⟨rfl, by rw [e]; rfl, rfl⟩

theorem x_ContainsFunc_V2_ok (B : Bs P ρ) (E : F_x_ContainsFunc_V2 P ρ) {g : Nat} {caps : List (Nat × Nat)} {H : List Blk} {a : At} {L : List By} {q : Nat → Bool} (hA : VS H a L) (hcaps : (At.fn g [] caps).lt H.length = true) (hlen : L.length ≤ 1000000) (hq : ∀ i, i < L.length → CallR P ρ g ([.ag [] 8 (L.getD i z0)] ++ caps.map (fun p => .pt p.1 p.2)) H fun u G => u = .one (.b (q i)) ∧ G = H) :
    CallR P ρ 70 [a, .fn g [] caps] H (fun u G => u = .one (.b (decide (∃ i, i < L.length ∧ q i = true))) ∧ G = H) := by
  refine call_of_q B.fn B.mo E.1 rfl (fun hAr hHp => ?_) (by simp only [List.all_cons, List.all_nil, hA.lt, hcaps]; rfl)
  refine ⟨_, x_IndexFunc_V2_ok B E.2 rfl hA hcaps hlen hq, ?_⟩
  rintro _ _ ⟨rfl, rfl⟩
  refine ⟨rfl, ?_, rfl⟩
  have e : decide (∃ i, i < L.length ∧ q i = true) = decide (firstQ q L.length 0 ≥ 0) := by
    refine decide_eq_decide.2 ?_
    show _ ↔ 0 ≤ _
    rw [firstQ_nn]
    exact ⟨fun ⟨i, h1, h2⟩ => ⟨i, by omega, by omega, h2⟩, fun ⟨i, _, h1, h2⟩ => ⟨i, by omega, h2⟩⟩
  rw [e]; rfl

theorem x_IndexFunc_B_ok (B : Bs P ρ) (E : F_x_IndexFunc_B P ρ) {g k off n cap N : Nat} {caps : List (Nat × Nat)} {H : List Blk} {r : Bool} {f : By} {q : Nat → Bool} {z : Int} (hz : firstQ q n 0 = z) (hk : H[k]? = some ⟨r, .by [] N f⟩) (hN : off + n ≤ N) (hcaps : (At.fn g [] caps).lt H.length = true) (hlen : n ≤ 1000000) (hq : ∀ i, i < n → CallR P ρ g ([.u (f (off + i * 1))] ++ caps.map (fun p => .pt p.1 p.2)) H fun u G => u = .one (.b (q i)) ∧ G = H) :
    CallR P ρ 319 [.sl k off n cap, .fn g [] caps] H (fun u G => u = .one (.i .i64 z) ∧ G = H) := by
  refine call_of_q B.fn B.mo E rfl (fun hAr hHp => ?_) (by simp only [List.all_cons, List.all_nil, hcaps]; simp [At.lt, lt_of hk])
  refine ⟨_, rfl, ?_⟩
  refine ⟨Unit, (fun a0 a1 a7 (i0 : Nat) (x0 : Unit) => [(0, a0), (1, a1), (7, a7), (8, .one (.i .i64 ((i0 : Nat) : Int)))]) _ _ _ , fun (i0 : Nat) (x0 : Unit) (G0 : List Blk) => (G0 = H ∧ ∀ j, j < i0 → q j = false), n, ⟨(), ⟨rfl, fun j h => by omega⟩, ⟨rfl, rfl, rfl, rfl, trivial⟩⟩, ?_⟩
  rintro i0 _ G0 hi0 ⟨rfl, hF0⟩
  refine ⟨fun h9 => ?_, fun h9 => ?_⟩
  · replace h9 := of_decide_eq_true h9
    refine ⟨_, _, _, _, _, _, rfl, rfl, by omega, rfl, ?_⟩
    refine ⟨_, _, hk, cat_u (by omega), ?_⟩
    refine ⟨_, hq i0 (by omega), ?_⟩
    rintro _ _ ⟨rfl, rfl⟩
    refine ⟨fun h16 => ?_, fun h16 => ?_⟩
    · skip
      have e : z = (i0 : Int) := hz.symm.trans <| firstQ_some (by omega) (by omega) h16 fun j _ h => hF0 j h
      exact ⟨rfl, by rw [e]; rfl, rfl⟩
    · skip
      refine ⟨((i0 + 1 : Nat) : Int), w64_id _ (by omega) (by omega), ?_⟩
      refine ⟨by omega, (), ?_, ⟨rfl, rfl, rfl, rfl, trivial⟩⟩
      refine ⟨rfl, fun j hj => ?_⟩
      by_cases e : j = i0
      · subst e; exact h16
      · exact hF0 j (by omega)
  · replace h9 := of_decide_eq_false h9
    have e0 : n = i0 := by omega
    subst e0
    have e : z = -1 := hz.symm.trans <| firstQ_none fun j _ h => hF0 j (by omega)
    exact ⟨rfl, by rw [e]; rfl, rfl⟩

theorem i_lead_1_ok (B : Bs P ρ) (E : F_i_lead_1 P ρ) {x : UInt8} :
    CallOK P ρ 320 [.u x] [] (.one (.b (x != 0))) [] := by
  refine (CallR.pure (call_of_q B.fn B.mo E rfl (fun _ _ => ?_) rfl) rfl).ok
  exact ⟨rfl, rfl, Ext.nil⟩

/-- the place of the first entry other than 0, or -1 -/
def ldI (v : By) : Int := if fst8 v < 8 then ((fst8 v : Nat) : Int) else -1
theorem ldI_eq {v : By} : firstQ (fun i => v (0 + 0 * 1 + i * 1) != 0) (8 - 0) 0 = ldI v := by
  have e0 : (fun i => v (0 + 0 * 1 + i * 1) != 0) = fun i => v i != 0 := funext fun i => by rw [show 0 + 0 * 1 + i * 1 = i by omega]
  rw [e0]
  have hle := @fst8_le v
  unfold ldI
  by_cases h : fst8 v < 8
  · rw [if_pos h]
    have h1 : (v (fst8 v) != 0) = true := @fstN_some (fun i => v i != 0) 8 0 (by unfold fst8 at h; omega)
    exact firstQ_some (by omega) (by omega) h1 fun j _ hj => @fstN_none (fun i => v i != 0) 8 0 j (by omega) hj
  · rw [if_neg h]
    exact firstQ_none fun j _ hj => @fstN_none (fun i => v i != 0) 8 0 j (by omega) (by unfold fst8 at h; omega)
theorem ldI_lt {v : By} (h : fst8 v < 8) : ldI v = ((fst8 v : Nat) : Int) := if_pos h
theorem i_lead_ok (B : Bs P ρ) (E : F_i_lead P ρ) {v : By} :
    CallOK P ρ 316 [.ag [] 8 v] [] (.one (.i .i64 (ldI v))) [] := by
  refine (CallR.pure (call_of_q B.fn B.mo E.1 rfl (fun _ _ => ?_) rfl) rfl).ok
  refine ⟨_, rfl, ?_⟩
  refine ⟨0, 8, rfl, rfl, ⟨by omega, by omega, by omega⟩, ?_⟩
  refine ⟨_, x_IndexFunc_B_ok B E.2.1 (f := v) (q := fun i => v (0 + 0 * 1 + i * 1) != 0) ldI_eq get_new (by omega) rfl (by omega) (fun i hi => (i_lead_1_ok B E.2.2).at0 rfl rfl), ?_⟩
  rintro _ _ ⟨rfl, rfl⟩
  exact ⟨rfl, rfl, Ext.nil⟩

theorem plus_at (B : Bs P ρ) (E : E_i_field_plus P ρ) {H : List Blk} {k off N : Nat} {p n c : Int} {g0 w f : By} {hd : List Int} (hk : H[k]? = some ⟨false, .by hd N f⟩) (hp : 1 ≤ p) (hp2 : p ≤ 1000) (ho : hd.length ≤ off) (hN : off + 8 ≤ N) (hc : -1000000000000 ≤ c) (hc2 : c ≤ 1000000000000) (hf : ∀ x, off ≤ x → x < off + 8 → bz f x < p) :
    CallR P ρ 71 [.ag [p, n] 2 g0, .pt k off, .i .i64 c, .ag [] 8 w] H fun u G => u = .tup [] ∧ G = H.set k ⟨false, .by hd N (plsN p f off c w 8)⟩ :=
  ((i_field_plus_ok B E (p := p) (n := n) (k := c) (g0 := g0) (w := w) (f := f) (hd := hd) (N := N) (off := off) hp hp2 ho hN hc hc2 hf).emb (H := H) (H' := H.set k ⟨false, .by hd N (plsN p f off c w 8)⟩) (args := [.ag [p, n] 2 g0, .pt k off, .i .i64 c, .ag [] 8 w]) [k] rfl ⟨⟨_, hk, fun _ => rfl⟩, trivial⟩ rfl rfl (by simp [back]; rfl)).r
theorem byL1_pls {p : Int} {v w r : By} (hp : 1 ≤ p) (hv : ∀ y, y < 8 → bz w y < p) (h : ∀ y, y < 8 → w y = v y) (hr : fst8 r < 8) : ∀ y, y < 8 → plsN p w 0 (-(bz w (fst8 r))) r 8 y = byL1 p v r y := by
  intro y hy
  unfold byL1
  by_cases e : v (fst8 r) = 0
  · rw [if_pos e, bz_eq0.2 ((h _ hr).trans e), Int.neg_zero, plsN_k0 fun x _ hx => hv x (by omega)]
    exact h y hy
  · rw [if_neg e]
    simp only [plsN, addV, vec]
    rw [if_pos (by omega), if_pos hy]
    simp only [bz, Nat.sub_zero]
    rw [h y hy, h _ hr]
theorem i_field_rest_ok (B : Bs P ρ) (E : F_i_field_rest P ρ) {p n : Int} {g v : By} {H : List Blk} {a : At} {L : List By} (hp : 1 ≤ p) (hp2 : p ≤ 256) (hv : ∀ x, x < 8 → bz v x < p) (hL : VS H a L) (hl : ∀ r ∈ L, fst8 r < 8) (hlen : L.length ≤ 1000000) :
    CallR P ρ 379 [.ag [p, n] 2 g, a, .ag [] 8 v] H (fun u G => u = .one (.ag [] 8 (byL p v L)) ∧ G = H) := by
  refine CallR.pure (call_of_q B.fn B.mo E.1 rfl (fun hA hH => ?_) (by simp only [List.all_cons, List.all_nil, hL.lt]; rfl)) rfl
  refine ⟨_, rfl, ?_⟩
  refine ⟨H.length + 1, by simp, ?_⟩
  refine ⟨H.length + 2, by simp, ?_⟩
  refine ⟨_, (hL).len, ?_⟩
  refine ⟨Unit, (fun a3 a5 a6 a9 a10 (i0 : Nat) (x0 : Unit) => [(3, a3), (5, a5), (6, a6), (9, a9), (10, a10), (11, .one (.i .i64 ((i0 : Nat) : Int)))]) _ _ _ _ _ , fun (i0 : Nat) (x0 : Unit) (G0 : List Blk) => (∃ w, (G0[H.length]? = some ⟨false, .by [p, n] 2 g⟩ ∧ G0[H.length + 1]? = some ⟨false, .by [] 8 w⟩ ∧ G0[H.length + 2]? = some ⟨false, .by [] 8 fun _ => 0⟩) ∧ Ext H G0 ∧ (∀ y, y < 8 → bz w y < p) ∧ ∀ y, y < 8 → w y = byL p v (L.take i0) y), L.length, ⟨(), ?_, ⟨rfl, rfl, rfl, rfl, rfl, rfl, trivial⟩⟩, ?_⟩
  · refine ⟨v, ⟨by simp, by simp, by simp; rfl⟩, Ext.app.trans (Ext.app.trans Ext.app), hv, fun _ _ => rfl⟩
  rintro i0 _ G0 hi0 ⟨w, ⟨hb3, hb5, hb6⟩, hE0, hwp, hw⟩
  refine ⟨fun h12 => ?_, fun h12 => ?_⟩
  · replace h12 := of_decide_eq_true h12
    obtain ⟨k13, o13, n13, c13, q13, ea13, hl13, hq13, r13, N13, f13, hk13, hN13, hf13⟩ := (hL.ext hE0).at i0 (by omega)
    refine ⟨k13, o13, n13, c13, i0, q13, ea13, rfl, hl13, hq13, ?_⟩
    refine ⟨_, _, _, _, _, hk13, ⟨by simp, hN13⟩, hf13, ?_⟩
    refine ⟨_, rfl, ?_⟩
    refine ⟨_, _, _, get_new, cputs_by (by simp) (by omega), eqBk_rfl, ?_⟩
    rw [app_set0]
    have hfl := hl _ (getD_mem (L := L) (i := i0) (by omega))
    have hl5 := lt_of hb5
    have hrv : ∀ x, x < 8 → spl (fun _ => 0) 0 8 (L.getD i0 z0) x = L.getD i0 z0 x := fun x hx => by simp [spl, hx]
    refine .inl ⟨_, _, _, _, app_old hb3, ⟨rfl, by omega⟩, ?_⟩
    refine ⟨_, _, _, _, L.getD i0 z0, get_new, ⟨by simp, by omega⟩, fun x hx => by rw [Nat.zero_add]; exact (hrv x hx).symm, ?_⟩
    refine ⟨_, i_lead_ok B E.2.1 , rfl, ?_⟩
    rw [ldI_lt hfl]
    refine ⟨fst8 (L.getD i0 z0), fst8 (L.getD i0 z0), rfl, hfl, by omega, ?_⟩
    refine ⟨_, _, app_old hb5, cat_u hfl, ?_⟩
    have hx := toNat_le (w (fst8 (L.getD i0 z0)))
    refine ⟨_, w64_id _ (by omega) (by omega), ?_⟩
    refine ⟨_, _, _, _, L.getD i0 z0, get_new, ⟨by simp, by omega⟩, fun x hx => by rw [Nat.zero_add]; exact (hrv x hx).symm, ?_⟩
    refine ⟨_, plus_at B E.2.2 (app_old hb5) hp (by omega) (by simp) (by omega) (by omega) (by omega) (fun x _ hx => hwp x (by omega)), ?_⟩
    rintro _ _ ⟨rfl, rfl⟩
    refine ⟨((i0 + 1 : Nat) : Int), w64_id _ (by omega) (by omega), ?_⟩
    refine ⟨by omega, (), ?_, ⟨rfl, rfl, rfl, rfl, rfl, rfl, trivial⟩⟩
    have hn1 : H.length + 1 ≠ H.length := by omega
    have hn2 : H.length + 1 ≠ H.length + 2 := by omega
    refine ⟨_, ⟨set_other (app_old hb3) hn1, set_same (app_old hb5), set_other (app_old hb6) hn2⟩, (hE0.trans Ext.app).set (by omega), ?_, ?_⟩
    · intro y hy
      simp only [bz, plsN]
      rw [if_pos (by omega), bz_byt _ (Int.emod_nonneg _ (by omega)) (by have := Int.emod_lt_of_pos (bz w y + -(bz w (fst8 (L.getD i0 z0))) * bz (L.getD i0 z0) (y - 0)) (show 0 < p by omega); simp only [bz] at this; omega)]
      exact Int.emod_lt_of_pos _ (by omega)
    · intro y hy
      rw [byL_take (by omega)]
      exact byL1_pls hp hwp hw hfl y hy
  · replace h12 := of_decide_eq_false h12
    have e0 : L.length = i0 := by omega
    subst e0
    refine ⟨_, _, _, _, byL p v L, hb5, ⟨by simp, by omega⟩, fun x hx => by rw [Nat.zero_add, hw x hx, List.take_length], ?_⟩
    refine ⟨_, _, _, hb6, cputs_by (by simp) (by omega), eqBk_rfl, ?_⟩
    refine ⟨rfl, false, [], 8, _, byL p v L, set_same hb6, ⟨by simp, by omega⟩, fun x hx => by simp [spl, hx], rfl, ?_⟩
    exact hE0.set (by omega)

theorem i_within_1_ok (B : Bs P ρ) (E : F_i_within_1 P ρ) {p n : Int} {g v : By} {H : List Blk} {a : At} {L : List By} {kf ks : Nat} {r1 r2 : Bool} (hp : 1 ≤ p) (hp2 : p ≤ 256) (hv : ∀ x, x < 8 → bz v x < p) (hf : H[kf]? = some ⟨r1, .by [p, n] 2 g⟩) (hs : H[ks]? = some ⟨r2, .vr a⟩) (hL : VS H a L) (hl : ∀ r ∈ L, fst8 r < 8) (hlen : L.length ≤ 1000000) :
    CallR P ρ 380 [.ag [] 8 v, .pt kf 0, .pt ks 0] H (fun u G => u = .one (.b (!eqB 8 (byL p v L) z0)) ∧ G = H) := by
  refine CallR.pure (call_of_q B.fn B.mo E.1 rfl (fun hA hH => ?_) (by simp [At.lt, lt_of hf, lt_of hs])) rfl
  refine ⟨_, rfl, ?_⟩
  refine .inl ⟨_, _, _, _, app_old hf, ⟨rfl, by omega⟩, ?_⟩
  refine ⟨_, _, app_old hs, rfl, ?_⟩
  refine ⟨_, _, _, _, v, get_new, ⟨by simp, by omega⟩, fun x _ => congrArg _ (Nat.zero_add x).symm, ?_⟩
  refine ⟨_, i_field_rest_ok B E.2 hp hp2 hv (hL.ext Ext.app) hl hlen, ?_⟩
  rintro _ _ ⟨rfl, rfl⟩
  exact ⟨rfl, rfl, Ext.app⟩

theorem VS.shape {H : List Blk} {a : At} {L : List By} (h : VS H a L) : a = .sn ∨ ∃ k o n c, a = .sl k o n c := by
  rcases h with ⟨h, -⟩ | ⟨k, off, cap, r, N, f, h, -⟩
  · exact .inl h
  · exact .inr ⟨_, _, _, _, h⟩
/-- all of M reduce to 0 -/
def inL (p : Int) (L M : List By) : Bool := M.all fun v => eqB 8 (byL p v L) z0
theorem i_within_ok (B : Bs P ρ) (E : F_i_within P ρ) {p : Int} {H : List Blk} {a b : At} {L M : List By} (hp : 1 ≤ p) (hp2 : p ≤ 256) (hL : VS H a L) (hl : ∀ r ∈ L, fst8 r < 8) (hlen : L.length ≤ 1000000) (hM : VS H b M) (hMv : ∀ v ∈ M, ∀ x, x < 8 → bz v x < p) (hMl : M.length ≤ 1000000) :
    CallR P ρ 378 [.i .i64 p, a, b] H (fun u G => u = .one (.b (inL p L M)) ∧ G = H) := by
  refine CallR.pure (call_of_q B.fn B.mo E.1 rfl (fun hA hH => ?_) (by simp only [List.all_cons, List.all_nil, hL.lt, hM.lt]; rfl)) rfl
  rcases hL.shape with rfl | ⟨k0, o0, n0, c0, rfl⟩
  · refine ⟨_, rfl, ?_⟩
    refine ⟨_, rfl, ?_⟩
    refine ⟨_, _, _, get_new, rfl, eqBk_rfl, ?_⟩
    rw [app_set0]
    refine ⟨_, x_ContainsFunc_V2_ok B E.2.2 (q := fun i => !eqB 8 (byL p (M.getD i z0) L) z0) (hM.ext (Ext.app.trans Ext.app)) (by simp [At.lt]) hMl (fun i hi => i_within_1_ok B E.2.1 hp hp2 (hMv _ (getD_mem hi)) get_new (app_old get_new) (hL.ext (Ext.app.trans Ext.app)) hl hlen), ?_⟩
    rintro _ _ ⟨rfl, rfl⟩
    refine ⟨rfl, ?_, Ext.app.trans Ext.app⟩
    have e : (!decide (∃ i, i < M.length ∧ (!eqB 8 (byL p (M.getD i z0) L) z0) = true)) = inL p L M := by
      unfold inL
      rw [Bool.eq_iff_iff, Bool.not_eq_true', decide_eq_false_iff_not, List.all_eq_true]
      constructor
      · intro h v hv
        obtain ⟨i, hi, rfl⟩ := List.mem_iff_getElem.1 hv
        apply Classical.byContradiction
        intro hn
        refine h ⟨i, hi, ?_⟩
        rw [List.getD_eq_getElem?_getD, List.getElem?_eq_getElem hi]
        simpa using hn
      · rintro h ⟨i, hi, hq⟩
        rw [h _ (getD_mem hi)] at hq
        cases hq
    rw [e]; rfl
  · refine ⟨_, rfl, ?_⟩
    refine ⟨_, rfl, ?_⟩
    refine ⟨_, _, _, get_new, rfl, eqBk_rfl, ?_⟩
    rw [app_set0]
    refine ⟨_, x_ContainsFunc_V2_ok B E.2.2 (q := fun i => !eqB 8 (byL p (M.getD i z0) L) z0) (hM.ext (Ext.app.trans Ext.app)) (by simp [At.lt]) hMl (fun i hi => i_within_1_ok B E.2.1 hp hp2 (hMv _ (getD_mem hi)) get_new (app_old get_new) (hL.ext (Ext.app.trans Ext.app)) hl hlen), ?_⟩
    rintro _ _ ⟨rfl, rfl⟩
    refine ⟨rfl, ?_, Ext.app.trans Ext.app⟩
    have e : (!decide (∃ i, i < M.length ∧ (!eqB 8 (byL p (M.getD i z0) L) z0) = true)) = inL p L M := by
      unfold inL
      rw [Bool.eq_iff_iff, Bool.not_eq_true', decide_eq_false_iff_not, List.all_eq_true]
      constructor
      · intro h v hv
        obtain ⟨i, hi, rfl⟩ := List.mem_iff_getElem.1 hv
        apply Classical.byContradiction
        intro hn
        refine h ⟨i, hi, ?_⟩
        rw [List.getD_eq_getElem?_getD, List.getElem?_eq_getElem hi]
        simpa using hn
      · rintro h ⟨i, hi, hq⟩
        rw [h _ (getD_mem hi)] at hq
        cases hq
    rw [e]; rfl

end Hf
namespace Hf
open Go Classical
variable {P : Program} {ρ : Nat → FuncId}
theorem l_eqVectorS_ok (B : Bs P ρ) (E : F_l_eqVectorS P ρ) {H : List Blk} {a b : At} {L : List By} (hA : VS H a L) (hB : VS H b L) (hlen : L.length ≤ 100000000) :
    CallR P ρ 247 [a, b] H (fun u G => u = .one (.b true) ∧ G = H) := by
  refine call_of_q B.fn B.mo E.1 rfl (fun hAr hHp => ?_) (by simp only [List.all_cons, List.all_nil, hA.lt, hB.lt]; rfl)
  refine ⟨_, (hA).len, ?_⟩
  refine ⟨_, (hB).len, ?_⟩
  refine brB_f' (by simp) ?_
  refine ⟨Unit, (fun a0 a1 (i0 : Nat) (x0 : Unit) => [(0, a0), (1, a1), (5, .one (.i .i64 ((i0 : Nat) : Int)))]) _ _ , fun (i0 : Nat) (x0 : Unit) (G0 : List Blk) => (G0 = H), L.length, ⟨(), rfl, ⟨rfl, rfl, rfl, trivial⟩⟩, ?_⟩
  rintro i0 _ G0 hi0 rfl
  refine ⟨_, (hA).len, ?_⟩
  refine ⟨fun h14 => ?_, fun h14 => ?_⟩
  · replace h14 := of_decide_eq_true h14
    obtain ⟨k19, o19, n19, c19, q19, ea19, hl19, hq19, r19, N19, f19, hk19, hN19, hf19⟩ := (hA).at i0 (by omega)
    refine ⟨k19, o19, n19, c19, i0, q19, ea19, rfl, hl19, hq19, ?_⟩
    refine ⟨_, _, _, _, _, hk19, ⟨by simp, hN19⟩, hf19, ?_⟩
    obtain ⟨k23, o23, n23, c23, q23, ea23, hl23, hq23, r23, N23, f23, hk23, hN23, hf23⟩ := (hB).at i0 (by omega)
    refine ⟨k23, o23, n23, c23, i0, q23, ea23, rfl, hl23, hq23, ?_⟩
    refine ⟨_, _, _, _, _, hk23, ⟨by simp, hN23⟩, hf23, ?_⟩
    refine ⟨_, l_eqVector_ok B E.2 , rfl, ?_⟩
    refine brB_f ?_
    refine ⟨((i0 + 1 : Nat) : Int), w64_id _ (by omega) (by omega), ?_⟩
    exact ⟨by omega, (), rfl, ⟨rfl, rfl, rfl, trivial⟩⟩
  · replace h14 := of_decide_eq_false h14
    have e0 : L.length = i0 := by omega
    subst e0
    exact ⟨rfl, rfl, rfl⟩

end Hf
namespace Hf
open Go Classical
variable {P : Program} {ρ : Nat → FuncId}
theorem x_Clone_B_ok (B : Bs P ρ) (E : F_x_Clone_B P ρ) {H : List Blk} {k off n cap : Nat} {r : Bool} {N : Nat} {f : By} (hk : H[k]? = some ⟨r, .by [] N f⟩) (hN : off + n ≤ N) (hn : n ≤ 1000) :
    CallR P ρ 289 [.sl k off n cap] H (fun u G => ∃ b, u = .one b ∧ RowC H.length G n b (fun x => f (off + x)) ∧ Ext H G) := by
  refine call_of_q B.fn B.mo E rfl (fun hAr hHp => ?_) (by simp [At.lt, lt_of hk])
  refine brB_f ?_
  refine ⟨[], _, rfl, rfl, ?_⟩
  refine ⟨_, rowc_app (n := 0) (v := z0) (M := n) (g := fun x => f (off + x)) ⟨_, _, _, _, rfl, get_new, ⟨Nat.le_refl _, Nat.le_refl _, Nat.le_refl _⟩, fun x hx => by omega⟩ ⟨rfl, r, N, f, app_old hk, by omega, fun x hx => rfl⟩ (by omega) (by simp), ?_⟩
  rintro a7 G7 ⟨hv7, hu7, hl7⟩
  refine ⟨rfl, a7, rfl, ?_, ?_⟩
  · obtain ⟨k', cap', N', f', h1, h2, h3, h4⟩ := hv7
    refine ⟨k', cap', N', f', by rw [h1, Nat.zero_add], h2, by omega, fun x hx => ?_⟩
    have := h4 x (by omega)
    rw [this]; simp
  · exact Upto.ext Ext.app hu7 (Nat.le_refl _)

theorem i_reduced_ok (B : Bs P ρ) (E : F_i_reduced P ρ) {H : List Blk} {p : Int} {a : At} {L : List By} (hp : Pr p) (hL : VS H a L) (hv : ∀ v ∈ L, Vp 8 p v) (hlen : L.length ≤ 1000000) :
    CallR P ρ 267 [.i .i64 p, a] H (fun u G => ∃ b, u = .one b ∧ Ext H G ∧ VW H.length G b (redL p L)) := by
  have hp2 := hp.1
  have hp3 := hp.2.1
  refine call_of_q B.fn B.mo E.1 rfl (fun hAr hHp => ?_) (by simp only [List.all_cons, List.all_nil, hL.lt]; rfl)
  refine ⟨_, i_newSystem_ok B E.2.1 , ?_⟩
  rintro _ _ ⟨rfl, rfl⟩
  refine ⟨_, (hL).len, ?_⟩
  refine ⟨Unit, (fun a5 a13 a14 (i0 : Nat) (x0 : Unit) => [(5, a5), (13, a13), (14, a14), (15, .one (.i .i64 ((i0 : Nat) : Int)))]) _ _ _ , fun (i0 : Nat) (x0 : Unit) (G0 : List Blk) => (SY H.length G0 H.length p 0 8 (L.take i0) [] ∧ Ext H G0), L.length, ⟨(), ?_, ⟨rfl, rfl, rfl, rfl, trivial⟩⟩, ?_⟩
  · refine ⟨⟨.sn, [], .sn, get_new, .inl ⟨rfl, rfl⟩, ⟨rfl, fun i h => by simp at h⟩, .inl ⟨rfl, rfl⟩, by simp [OwnT, spB], by simp [OwnT, spB]⟩, Ext.app⟩
  rintro i0 _ G0 hi0 ⟨hS0, hE0⟩
  refine ⟨fun h16 => ?_, fun h16 => ?_⟩
  · replace h16 := of_decide_eq_true h16
    obtain ⟨k17, o17, n17, c17, q17, ea17, hl17, hq17, r17, N17, f17, hk17, hN17, hf17⟩ := (hL.ext hE0).at i0 (by omega)
    refine ⟨k17, o17, n17, c17, i0, q17, ea17, rfl, hl17, hq17, ?_⟩
    refine ⟨_, _, _, _, _, hk17, ⟨by simp, hN17⟩, hf17, ?_⟩
    refine ⟨_, rfl, ?_⟩
    refine ⟨_, _, _, get_new, cputs_by (by simp) (by omega), eqBk_rfl, ?_⟩
    obtain ⟨ra, As, pa, hs, hra, hR, hpa, hnd, hge⟩ := hS0
    have hlt0 := lt_of hs
    rw [app_set0]
    refine ⟨_, _, app_old hs, rfl, ?_⟩
    refine ⟨0, 8, rfl, rfl, ⟨by omega, by omega, by omega⟩, ?_⟩
    refine ⟨?_, ?_⟩
    · skip
      refine ⟨_, x_Clone_B_ok B E.2.2.1 (k := G0.length) (off := 0 + 0 * 1) (n := 8 - 0) get_new (by omega) (by omega), ?_⟩
      rintro _ G25 ⟨b25, rfl, hc25, hE25⟩
      refine ⟨⟨kept1 (app_old hs) (hE25 _ _ (app_old hs)), trivial⟩, ?_⟩
      refine ⟨[0], _, rfl, rfl, ?_⟩
      refine ⟨⟨kept1 (hE25 _ _ (app_old hs)) (app_old (hE25 _ _ (app_old hs))), trivial⟩, ?_⟩
      refine ⟨_, rowc_app (m := G0.length) (g := fun _ => 0) (M := 1) ((hc25.mono (by simp)).ext Ext.app) ⟨rfl, _, _, _, get_new, by simp, fun x hx => by have e : x = 0 := (by omega); subst e; rfl⟩ (by omega) (by have := hE25.len; simp at this ⊢; omega), ?_⟩
      rintro a27 G27 ⟨hv27, hu27, hl27⟩
      have hE27 : Ext G0 G27 := Upto.ext (Ext.app.trans (hE25.trans Ext.app)) hu27 (Nat.le_refl _)
      refine ⟨⟨kept1 (B := sysB p 0 8 ra pa) (by first | exact hE25 _ _ (app_old (app_old hs)) | exact app_old (hE25 _ _ (app_old hs))) (hE27 _ _ hs), trivial⟩, ?_⟩
      obtain ⟨k27, cap27, N27, f27, rfl, hk27, hc27, hf27⟩ := hv27
      have hx27 : RowC G0.length G27 9 (.sl k27 0 (8 - 0 + 1) cap27) (L.getD i0 z0) := ⟨k27, cap27, N27, f27, rfl, hk27, hc27, fun x hx => by
        rw [hf27 x (by omega)]
        dsimp only
        by_cases h8 : x < 8
        · rw [if_pos (by omega)]; simp [spl, h8]
        · rw [if_neg (by omega)]; exact ((hv _ (getD_mem (L := L) (i := i0) (by omega))).2 x (by omega)).symm⟩
      refine ⟨_, rfl, ?_⟩
      refine ⟨⟨kept1 (hE27 _ _ hs) (app_old (hE27 _ _ hs)), trivial⟩, ?_⟩
      refine ⟨_, spn_app (x := .sl k27 0 (8 - 0 + 1) cap27) (hra.fr (l := []) (hE27.trans Ext.app).fr (by simp)) ⟨false, _, get_new, by simp, rfl⟩ (by have := hR.1; simp at this; omega) (by omega), ?_⟩
      rintro a29 G29 ⟨hp29, hf29, hb29, hl29⟩
      obtain ⟨hs29, hS29, hF29⟩ := sy_add hs hra hR hpa hnd hge hE0.len (hE27.trans Ext.app) (hx27.ext Ext.app) hp29 hf29 (app_hb hb29)
      refine ⟨_, _, _, hs29, cput_rw (by simp) hp29.cell, eqBk_rfl, ?_⟩
      refine ⟨((i0 + 1 : Nat) : Int), w64_id _ (by omega) (by omega), ?_⟩
      refine ⟨by omega, (), ?_, ⟨rfl, rfl, rfl, rfl, trivial⟩⟩
      refine ⟨?_, ?_⟩
      · have e : L.take (i0 + 1) = L.take i0 ++ [L.getD i0 z0] := by rw [List.take_add_one]; simp [show i0 < L.length by omega]
        rw [e]; exact hS29
      · exact Upto.ext hE0 (hF29.upto fun k hk => hge k (by simp only [List.mem_cons] at hk; rcases hk with h | h <;> simp [OwnT, h])) (Nat.le_refl _)
    · skip
      refine ⟨[0], _, rfl, rfl, ?_⟩
      refine ⟨⟨kept1 (app_old hs) (app_old (app_old hs)), trivial⟩, ?_⟩
      refine ⟨_, x_Clone_B_ok B E.2.2.1 (k := G0.length) (off := 0 + 0 * 1) (n := 8 - 0) (app_old get_new) (by omega) (by omega), ?_⟩
      rintro _ G25 ⟨b25, rfl, hc25, hE25⟩
      refine ⟨⟨kept1 (app_old (app_old hs)) (hE25 _ _ (app_old (app_old hs))), trivial⟩, ?_⟩
      refine ⟨_, rowc_app (m := G0.length) (g := fun _ => 0) (M := 1) (hc25.mono (by simp)) ⟨rfl, _, _, _, hE25 _ _ get_new, by simp, fun x hx => by have e : x = 0 := (by omega); subst e; rfl⟩ (by omega) (by have := hE25.len; simp at this ⊢; omega), ?_⟩
      rintro a27 G27 ⟨hv27, hu27, hl27⟩
      have hE27 : Ext G0 G27 := Upto.ext (Ext.app.trans (Ext.app.trans hE25)) hu27 (Nat.le_refl _)
      refine ⟨⟨kept1 (B := sysB p 0 8 ra pa) (by first | exact hE25 _ _ (app_old (app_old hs)) | exact app_old (hE25 _ _ (app_old hs))) (hE27 _ _ hs), trivial⟩, ?_⟩
      obtain ⟨k27, cap27, N27, f27, rfl, hk27, hc27, hf27⟩ := hv27
      have hx27 : RowC G0.length G27 9 (.sl k27 0 (8 - 0 + 1) cap27) (L.getD i0 z0) := ⟨k27, cap27, N27, f27, rfl, hk27, hc27, fun x hx => by
        rw [hf27 x (by omega)]
        dsimp only
        by_cases h8 : x < 8
        · rw [if_pos (by omega)]; simp [spl, h8]
        · rw [if_neg (by omega)]; exact ((hv _ (getD_mem (L := L) (i := i0) (by omega))).2 x (by omega)).symm⟩
      refine ⟨_, rfl, ?_⟩
      refine ⟨⟨kept1 (hE27 _ _ hs) (app_old (hE27 _ _ hs)), trivial⟩, ?_⟩
      refine ⟨_, spn_app (x := .sl k27 0 (8 - 0 + 1) cap27) (hra.fr (l := []) (hE27.trans Ext.app).fr (by simp)) ⟨false, _, get_new, by simp, rfl⟩ (by have := hR.1; simp at this; omega) (by omega), ?_⟩
      rintro a29 G29 ⟨hp29, hf29, hb29, hl29⟩
      obtain ⟨hs29, hS29, hF29⟩ := sy_add hs hra hR hpa hnd hge hE0.len (hE27.trans Ext.app) (hx27.ext Ext.app) hp29 hf29 (app_hb hb29)
      refine ⟨_, _, _, hs29, cput_rw (by simp) hp29.cell, eqBk_rfl, ?_⟩
      refine ⟨((i0 + 1 : Nat) : Int), w64_id _ (by omega) (by omega), ?_⟩
      refine ⟨by omega, (), ?_, ⟨rfl, rfl, rfl, rfl, trivial⟩⟩
      refine ⟨?_, ?_⟩
      · have e : L.take (i0 + 1) = L.take i0 ++ [L.getD i0 z0] := by rw [List.take_add_one]; simp [show i0 < L.length by omega]
        rw [e]; exact hS29
      · exact Upto.ext hE0 (hF29.upto fun k hk => hge k (by simp only [List.mem_cons] at hk; rcases hk with h | h <;> simp [OwnT, h])) (Nat.le_refl _)
  · replace h16 := of_decide_eq_false h16
    have e0 : L.length = i0 := by omega
    subst e0
    refine ⟨_, i_system_solve_ok B E.2.2.2 (p := p) (n0 := 0) (m0 := H.length) (m := 8) (R := L) (T0 := []) (by omega) (by omega) (by omega) (by rw [List.take_length] at hS0; exact hS0) (by omega) hE0.len, ?_⟩
    rintro _ G34 ⟨rfl, hS34, hU34⟩
    have hred := sol_red hp hv
    rw [hred] at hS34
    obtain ⟨ra, As, pa, hs, hra, hR, hpa, hnd, hge⟩ := hS34
    have hAl := hR.1
    have hE34 := Upto.ext hE0 hU34 (Nat.le_refl _)
    have hrl := (redL_rr hp hv).1.len
    refine ⟨_, rfl, ?_⟩
    refine ⟨_, _, app_old hs, rfl, ?_⟩
    refine ⟨_, (hra).len, ?_⟩
    refine ⟨At, (fun a39 a40 (i1 : Nat) (x1 : At) => [(8, .one x1), (39, a39), (40, a40), (41, .one (.i .i64 ((i1 : Nat) : Int)))]) _ _ , fun (i1 : Nat) (x1 : At) (G1 : List Blk) => (VW G34.length G1 x1 ((redL p L).take i1) ∧ Upto G34.length G34 G1), As.length, ⟨_, ⟨VW.nil (Nat.le_refl _), Ext.app.upto⟩, ⟨rfl, rfl, rfl, rfl, trivial⟩⟩, ?_⟩
    rintro i1 x1 G1 hi1 ⟨hW1, hU1⟩
    have hE1 : Ext G34 G1 := fun k B e => hU1 k B (lt_of e) e
    refine ⟨fun h42 => ?_, fun h42 => ?_⟩
    · replace h42 := of_decide_eq_true h42
      obtain ⟨k43, o43, n43, c43, q43, ea43, hl43, hq43, r43, l43, hk43, hi43⟩ := rdR_at ((hra.fr (l := []) hE1.fr (by simp)).rd) i1 (by omega)
      refine ⟨k43, o43, n43, c43, i1, q43, ea43, rfl, hl43, hq43, ?_⟩
      obtain ⟨kr, cr, Nr, fr, ea, hkr, hNr, hfr⟩ := (hR.fr (l := []) hE1.fr (by simp)).at i1 (by omega)
      rw [ea] at hi43
      refine ⟨_, _, hk43, hi43, ?_⟩
      refine ⟨0, 8, rfl, rfl, ⟨by omega, by omega⟩, ?_⟩
      refine ⟨by omega, ?_⟩
      have ho : (if cr = 0 then 0 else 0 + 0 * 1) = 0 := by split <;> rfl
      have hg49 : ∀ x, x < 8 → (redL p L).getD i1 z0 x = fr ((if cr = 0 then 0 else 0 + 0 * 1) + x) := by
        intro x hx
        rw [ho, Nat.zero_add]; exact (hfr x (by omega)).symm
      have hb49 : (if cr = 0 then 0 else 0 + 0 * 1) + 8 ≤ Nr := by rw [ho]; omega
      refine ⟨_, _, _, _, (redL p L).getD i1 z0, hkr, ⟨Nat.zero_le _, hb49⟩, hg49, ?_⟩
      refine ⟨_, rfl, ?_⟩
      refine ⟨_, vw_app (hW1.ext Ext.app) (VS.one (v := (redL p L).getD i1 z0)) (by simp; omega) (by have := hE1.len; simp; omega), ?_⟩
      rintro a51 G51 ⟨hv51, hu51⟩
      refine ⟨((i1 + 1 : Nat) : Int), w64_id _ (by omega) (by omega), ?_⟩
      refine ⟨by omega, _, ?_, ⟨rfl, rfl, rfl, rfl, trivial⟩⟩
      have e : (redL p L).take (i1 + 1) = (redL p L).take i1 ++ [(redL p L).getD i1 z0] := by rw [List.take_add_one]; simp [show i1 < (redL p L).length by omega]
      dsimp only; rw [e]
      exact ⟨hv51, hU1.trans ((Ext.app (G := _)).upto.trans hu51)⟩
    · replace h42 := of_decide_eq_false h42
      have e1 : As.length = i1 := by omega
      subst e1
      refine ⟨rfl, x1, rfl, ?_, ?_⟩
      · exact hE34.trans hE1
      · have := hW1.mono hE34.len
        rw [hAl, List.take_length] at this
        exact this

end Hf
namespace Hf
open Go Classical
section
variable {W W' n : Nat} {p : Int}
theorem RR.up (hW : W ≤ W') {L : List By} (h : RR W p L) : RR W' p L := by
  have hf : ∀ v ∈ L, fstW W' v = fstW W v := fun v hv => fstW_w hW (h.vp v hv).2 (h.nz hv)
  refine ⟨fun v hv => (h.vp v hv).mono hW, fun r hr => ?_, ?_⟩
  · have := h.ld r hr
    rw [hf r hr]
    exact ⟨by omega, this.2⟩
  · refine List.Pairwise.imp_of_mem ?_ h.st
    intro a b ha hb hab
    rw [hf a ha, hf b hb]
    exact hab
theorem SpE.up (hp : 1 ≤ p) (hp2 : p ≤ 256) (hW : W ≤ W') {A B : List By} (hA : ∀ v ∈ A, Vp W p v) (hB : ∀ v ∈ B, Vp W p v) (h : SpE W p A B) : SpE W' p A B :=
  fun v => ⟨fun q => ((h v).1 (q.w1 hp hp2 hW hA)).w2 hp hp2 hW hB, fun q => ((h v).2 (q.w1 hp hp2 hW hB)).w2 hp hp2 hW hA⟩
end
theorem SY.ext {m0 : Nat} {H G : List Blk} {s m : Nat} {p n0 : Int} {R : List By} {T : List Int} (h : SY m0 H s p n0 m R T) (e : Ext H G) : SY m0 G s p n0 m R T := by
  obtain ⟨ra, As, pa, hs, hra, hR, hpa, hnd, hge⟩ := h
  exact ⟨ra, As, pa, e _ _ hs, hra.fr (l := []) e.fr (by simp), hR.fr (l := []) e.fr (by simp), hpa.fr (l := []) e.fr (by simp), hnd, hge⟩
end Hf
namespace Hf
open Go Classical
variable {P : Program} {ρ : Nat → FuncId}
/-- a slice whose block is none of the first m, or that is full -/
def VF (m : Nat) (H : List Blk) (a : At) (L : List By) : Prop :=
  ∃ k off cap N f, a = .sl k off L.length cap ∧ H[k]? = some ⟨false, .by [] N f⟩ ∧ (off + cap * 8 ≤ N ∧ L.length ≤ cap ∧ (m ≤ k ∨ L.length = cap)) ∧ ∀ i x, i < L.length → x < 8 → f (off + i * 8 + x) = (L.getD i z0) x
theorem VF.vs {m : Nat} {H : List Blk} {a : At} {L : List By} (h : VF m H a L) : VS H a L := by
  obtain ⟨k, off, cap, N, f, h1, h2, h3, h4⟩ := h
  exact .inr ⟨k, off, cap, false, N, f, h1, h2, ⟨h3.1, h3.2.1⟩, h4⟩
theorem VF.ext {m : Nat} {H H' : List Blk} {a : At} {L : List By} (h : VF m H a L) (e : Ext H H') : VF m H' a L := by
  obtain ⟨k, off, cap, N, f, h1, h2, h3, h4⟩ := h
  exact ⟨k, off, cap, N, f, h1, e k _ h2, h3, h4⟩
theorem VF.nil {m : Nat} {H : List Blk} {f : By} : VF m (H ++ [⟨false, .by [] (0 * 8) f⟩]) (.sl H.length 0 0 0) [] :=
  ⟨H.length, 0, 0, _, f, rfl, get_new, ⟨by omega, by simp, .inr rfl⟩, fun i x h => by simp at h⟩
theorem take_getD {L : List By} {i : Nat} (h : i < L.length) : L.take (i + 1) = L.take i ++ [L.getD i z0] := by rw [List.take_add_one]; simp [h]
theorem redL_snoc {p : Int} {L : List By} {v : By} : redL p (L ++ [v]) = putL p (redL p L) v := by simp [redL, List.foldl_append]
theorem s_l01Reduce_ok (B : Bs P ρ) (E : F_s_l01Reduce P ρ) {H : List Blk} {p : Int} {a : At} {L : List By} (hp : Pr p) (hL : VS H a L) (hv : ∀ v ∈ L, Vp 8 p v) (hlen : L.length ≤ 1000000) :
    CallR P ρ 270 [.i .i64 p, a] H (fun u G => ∃ b, u = .one b ∧ Ext H G ∧ VS G b (redL p L)) := by
  have hp2 := hp.1
  have hp3 := hp.2.1
  refine call_of_q B.fn B.mo E.1 rfl (fun hAr hHp => ?_) (by simp only [List.all_cons, List.all_nil, hL.lt]; rfl)
  refine ⟨_, rfl, ?_⟩
  refine ⟨At, (fun a0 a1 (i0 : Nat) (x0 : At) => [(0, a0), (1, a1), (5, .one x0), (6, .one (.i .i64 ((i0 : Nat) : Int)))]) _ _ , fun (i0 : Nat) (x0 : At) (G0 : List Blk) => (VS G0 x0 (redL p (L.take i0)) ∧ Ext H G0), L.length, ⟨_, ⟨(VW.nil (m := 0) (Nat.zero_le _)).vs, Ext.app⟩, ⟨rfl, rfl, rfl, rfl, trivial⟩⟩, ?_⟩
  rintro i0 x0 G0 hi0 ⟨hV0, hE0⟩
  refine ⟨_, (hL).len, ?_⟩
  refine ⟨fun h11 => ?_, fun h11 => ?_⟩
  · replace h11 := of_decide_eq_true h11
    obtain ⟨k18, o18, n18, c18, q18, ea18, hl18, hq18, r18, N18, f18, hk18, hN18, hf18⟩ := (hL.ext hE0).at i0 (by omega)
    refine ⟨k18, o18, n18, c18, i0, q18, ea18, rfl, hl18, hq18, ?_⟩
    refine ⟨_, _, _, _, _, hk18, ⟨by simp, hN18⟩, hf18, ?_⟩
    have hr := (redL_rr hp fun v h => hv v (List.mem_of_mem_take (i := i0) h)).1
    have hrl := hr.len
    refine ⟨_, s_l01Put_ok B E.2 (by omega) (by omega) hV0 hr.fs (by omega), ?_⟩
    rintro _ G20 ⟨b20, rfl, hE20, hV20⟩
    refine ⟨((i0 + 1 : Nat) : Int), w64_id _ (by omega) (by omega), ?_⟩
    refine ⟨by omega, _, ?_, ⟨rfl, rfl, rfl, rfl, trivial⟩⟩
    dsimp only
    rw [take_getD (by omega), redL_snoc]
    exact ⟨hV20, hE0.trans hE20⟩
  · replace h11 := of_decide_eq_false h11
    have e0 : L.length = i0 := by omega
    subst e0
    exact ⟨rfl, x0, rfl, hE0, by rw [List.take_length] at hV0; exact hV0⟩

end Hf
namespace Hf
open Go Classical
variable {P : Program} {ρ : Nat → FuncId}
theorem oc_0 {q : Prop} (h : oc q 1 = 0) : q := by
  apply Classical.byContradiction
  intro hq
  rw [oc_f hq] at h
  cases h
end Hf
namespace Hf
open Go Classical
variable {P : Program} {ρ : Nat → FuncId}
theorem i_modulesCode1_at (B : Bs P ρ) (E : E_i_modulesCode P ρ) {H : List Blk} {k1 k2 k3 : Nat} {r1 r2 r3 : Bool} {p n d : Int} {f g : By} (h1 : H[k1]? = some ⟨r1, .by [p, n] 1106 f⟩) (h2 : H[k2]? = some ⟨r2, .rw [.pt k3 0]⟩) (h3 : H[k3]? = some ⟨r3, .by [d] 513 g⟩) :
    CallR P ρ 164 [.pt k1 0, .sl k2 0 1 1] H fun u G => u = .one (.i .i64 (oc (Hop p n f ∧ Mod p n.toNat d g f) 1)) ∧ G = H :=
  ((i_modulesCode1_ok B E (p := p) (n := n) (d := d) (f := f) (g := g)).emb (H := H) (H' := H) (args := [.pt k1 0, .sl k2 0 1 1]) [k1, k2, k3] rfl ⟨⟨_, h1, fun h => by cases h⟩, ⟨_, h2, fun h => by cases h⟩, ⟨_, h3, fun h => by cases h⟩, trivial⟩ (by simp [apart]) rfl (by simp [back])).r
theorem s_l06Code1_at (B : Bs P ρ) (E : E_s_l06Code P ρ) {H : List Blk} {k1 : Nat} {r1 : Bool} {p n d : Int} {f g : By} (h1 : H[k1]? = some ⟨r1, .gs 513 [([d], g)]⟩) :
    CallR P ρ 162 [.ag [p, n] 1106 f, .sl k1 0 1 1] H fun u G => u = .one (.i .i64 (oc (Hop p n f ∧ Mod p n.toNat d g f) 1)) ∧ G = H :=
  ((s_l06Code1_ok B E (p := p) (n := n) (d := d) (f := f) (g := g)).emb (H := H) (H' := H) (args := [.ag [p, n] 1106 f, .sl k1 0 1 1]) [k1] rfl ⟨⟨_, h1, fun h => by cases h⟩, trivial⟩ (by simp [apart]) rfl (by simp [back])).r
def IQ (p n d : Int) (g f : By) : Prop := Hop p n f ∧ Mod p n.toNat d g f
end Hf
namespace Hf
open Go Classical
variable {P : Program} {ρ : Nat → FuncId}
theorem all_getD {L : List By} {q : By → Prop} : (∀ v ∈ L, q v) ↔ ∀ i, i < L.length → q (L.getD i z0) :=
  ⟨fun h i hi => h _ (getD_mem hi), fun h v hv => by
    obtain ⟨i, hi, rfl⟩ := List.mem_iff_getElem.1 hv
    have := h i hi
    rwa [List.getD_eq_getElem?_getD, List.getElem?_eq_getElem hi] at this⟩
theorem i_Module_vectorsCode_1_ok (B : Bs P ρ) (E : F_i_Module_vectorsCode_1 P ρ) {H : List Blk} {k1 k2 km kh : Nat} {r1 r2 rm rh : Bool} {p n d : Int} {f g v : By} (h1 : H[k1]? = some ⟨r1, .vr (.pt kh 0)⟩) (h2 : H[k2]? = some ⟨r2, .vr (.pt km 0)⟩) (hm : H[km]? = some ⟨rm, .by [d] 513 g⟩) (hh : H[kh]? = some ⟨rh, .by [p, n] 1106 f⟩) :
    CallR P ρ 174 [.ag [] 8 v, .pt k1 0, .pt k2 0] H (fun u G => u = .one (.b (!decide (Shp p d ∧ Vec p d v 0))) ∧ G = H) := by
  refine CallR.pure (call_of_q B.fn B.mo E.1 rfl (fun hA hH => ?_) (by simp [At.lt, lt_of h1, lt_of h2])) rfl
  refine ⟨_, rfl, ?_⟩
  refine ⟨_, _, app_old h1, rfl, ?_⟩
  refine ⟨_, _, app_old hh, rfl, ?_⟩
  refine ⟨_, _, app_old h2, rfl, ?_⟩
  refine ⟨_, _, app_old hm, rfl, ?_⟩
  refine ⟨_, _, _, _, v, get_new, ⟨by simp, by omega⟩, fun x _ => congrArg _ (Nat.zero_add x).symm, ?_⟩
  refine ⟨_, i_IsVector_ok B E.2 , rfl, ?_⟩
  exact ⟨rfl, rfl, Ext.app⟩

theorem i_Module_vectorsCode_ok (B : Bs P ρ) (E : F_i_Module_vectorsCode P ρ) {H : List Blk} {km kh : Nat} {rm rh : Bool} {p n d : Int} {f g : By} {a : At} {L : List By} (hm : H[km]? = some ⟨rm, .by [d] 513 g⟩) (hh : H[kh]? = some ⟨rh, .by [p, n] 1106 f⟩) (hL : VS H a L) (hlen : L.length ≤ 1000000) :
    CallR P ρ 175 [.pt km 0, .pt kh 0, a] H (fun u G => u = .one (.i .i64 (oc (∀ v ∈ L, Shp p d ∧ Vec p d v 0) 1)) ∧ G = H) := by
  refine CallR.pure (call_of_q B.fn B.mo E.1 rfl (fun hA hH => ?_) (by simp only [List.all_cons, List.all_nil, hL.lt]; simp [At.lt, lt_of hm, lt_of hh])) rfl
  refine ⟨_, rfl, ?_⟩
  refine ⟨_, rfl, ?_⟩
  refine ⟨_, x_ContainsFunc_V2_ok B E.2.2.1 (q := fun i => !decide (Shp p d ∧ Vec p d (L.getD i z0) 0)) (hL.ext (Ext.app.trans Ext.app)) (by simp [At.lt]) hlen (fun i hi => i_Module_vectorsCode_1_ok B E.2.1 get_new (app_old get_new) (app_old (app_old hm)) (app_old (app_old hh))), ?_⟩
  rintro _ _ ⟨rfl, rfl⟩
  refine ⟨_, i_unless_ok B E.2.2.2 , rfl, ?_⟩
  refine ⟨rfl, ?_, Ext.app.trans Ext.app⟩
  have e : (if (!decide (∃ i, i < L.length ∧ (!decide (Shp p d ∧ Vec p d (L.getD i z0) 0)) = true)) = true then (0 : Int) else 1) = oc (∀ v ∈ L, Shp p d ∧ Vec p d v 0) 1 := by
    by_cases h : ∀ v ∈ L, Shp p d ∧ Vec p d v 0
    · rw [oc_t h, if_pos]
      simp only [Bool.not_eq_true', decide_eq_false_iff_not]
      rintro ⟨i, hi, hq⟩
      exact hq (h _ (getD_mem hi))
    · rw [oc_f h, if_neg]
      simp only [Bool.not_eq_true', decide_eq_false_iff_not, Classical.not_not]
      apply Classical.byContradiction
      intro hn
      exact h (all_getD.2 fun i hi => Classical.byContradiction fun q => hn ⟨i, hi, q⟩)
  rw [← e]; rfl

/-- a module and vectors of it -/
def SQ (p n d : Int) (g f : By) (L : List By) : Prop := IQ p n d g f ∧ ∀ v ∈ L, Vec p d v 0
theorem s_l06Vectors_ok (B : Bs P ρ) (E : F_s_l06Vectors P ρ) {H : List Blk} {p n d : Int} {f g : By} {a : At} {L : List By} (hL : VS H a L) (hlen : L.length ≤ 1000000) :
    CallR P ρ 390 [.ag [p, n] 1106 f, .ag [d] 513 g, a] H (fun u G => u = .one (.i .i64 (oc (SQ p n d g f L) 1)) ∧ G = H) := by
  refine CallR.pure (call_of_q B.fn B.mo E.1 rfl (fun hA hH => ?_) (by simp only [List.all_cons, List.all_nil, hL.lt]; rfl)) rfl
  refine ⟨_, rfl, ?_⟩
  refine ⟨_, rfl, ?_⟩
  refine .inl ⟨_, _, _, _, app_old get_new, ⟨rfl, by omega⟩, ?_⟩
  refine .inl ⟨_, _, _, _, get_new, ⟨rfl, by omega⟩, ?_⟩
  refine ⟨_, rfl, ?_⟩
  refine ⟨_, s_l06Code1_at B E.2.1 (p := p) (n := n) (d := d) (f := f) (g := g) get_new, ?_⟩
  rintro _ _ ⟨rfl, rfl⟩
  refine ⟨fun h14 => ?_, fun h14 => ?_⟩
  · replace h14 := bne_t h14
    have hq : ¬ IQ p n d g f := fun q => h14 (oc_t q)
    exact ⟨rfl, by rw [oc_f fun q : SQ p n d g f L => hq q.1, show oc (Hop p n f ∧ Mod p n.toNat d g f) 1 = 1 from oc_f hq]; rfl, Ext.app.trans (Ext.app.trans Ext.app)⟩
  · replace h14 := bne_f h14
    have hq : IQ p n d g f := oc_0 h14
    refine ⟨Unit, (fun a2 a3 a4 (i0 : Nat) (x0 : Unit) => [(2, a2), (3, a3), (4, a4), (8, .one (.i .i64 ((i0 : Nat) : Int)))]) _ _ _ , fun (i0 : Nat) (x0 : Unit) (G0 : List Blk) => (G0 = H ++ [⟨false, .by [p, n] 1106 f⟩] ++ [⟨false, .by [d] 513 g⟩] ++ [⟨false, .gs 513 [([d], g)]⟩] ∧ ∀ i, i < i0 → Vec p d (L.getD i z0) 0), L.length, ⟨(), ⟨rfl, fun i h => absurd h (by omega)⟩, ⟨rfl, rfl, rfl, rfl, trivial⟩⟩, ?_⟩
    rintro i0 _ G0 hi0 ⟨rfl, hF0⟩
    refine ⟨_, (hL).len, ?_⟩
    refine ⟨fun h19 => ?_, fun h19 => ?_⟩
    · replace h19 := of_decide_eq_true h19
      refine ⟨_, _, app_old (app_old get_new), rfl, ?_⟩
      refine ⟨_, _, app_old get_new, rfl, ?_⟩
      obtain ⟨k28, o28, n28, c28, q28, ea28, hl28, hq28, r28, N28, f28, hk28, hN28, hf28⟩ := (hL.ext (Ext.app.trans (Ext.app.trans Ext.app))).at i0 (by omega)
      refine ⟨k28, o28, n28, c28, i0, q28, ea28, rfl, hl28, hq28, ?_⟩
      refine ⟨_, _, _, _, _, hk28, ⟨by simp, hN28⟩, hf28, ?_⟩
      refine ⟨_, s_l01Vector_ok B E.2.2 , rfl, ?_⟩
      refine ⟨fun h31 => ?_, fun h31 => ?_⟩
      · skip
        have q31 : ¬ Vec p d (L.getD i0 z0) 0 := fun q => by rw [decide_eq_true q] at h31; cases h31
        exact ⟨rfl, by rw [oc_f fun q : SQ p n d g f L => q31 (q.2 _ (getD_mem (by omega)))]; rfl, Ext.app.trans (Ext.app.trans Ext.app)⟩
      · skip
        have q31 : Vec p d (L.getD i0 z0) 0 := by simpa using h31
        refine ⟨((i0 + 1 : Nat) : Int), w64_id _ (by omega) (by omega), ?_⟩
        refine ⟨by omega, (), ?_, ⟨rfl, rfl, rfl, rfl, trivial⟩⟩
        refine ⟨rfl, fun i hi => ?_⟩
        by_cases e : i = i0
        · subst e; exact q31
        · exact hF0 i (by omega)
    · replace h19 := of_decide_eq_false h19
      have e0 : L.length = i0 := by omega
      subst e0
      exact ⟨rfl, by rw [oc_t (show SQ p n d g f L from ⟨hq, all_getD.2 hF0⟩)]; rfl, Ext.app.trans (Ext.app.trans Ext.app)⟩

/-- what e(i) makes of a vector -/
def maV (p : Int) (d : Nat) (g : By) (i : Nat) (v : By) : By := vec 8 p fun y => sm d fun j => bz v j * bz g (1 + i * 64 + j * 8 + y)
def ledL (p : Int) (n d : Nat) (g : By) (L : List By) : List By := (List.range n).flatMap fun i => L.map (maV p d g i)
theorem ledL_succ {p : Int} {n d : Nat} {g : By} {L : List By} : ledL p (n + 1) d g L = ledL p n d g L ++ L.map (maV p d g n) := by
  unfold ledL; rw [List.range_succ, List.flatMap_append]; simp
theorem ledL_len {p : Int} {d : Nat} {g : By} {L : List By} : ∀ {n : Nat}, (ledL p n d g L).length = n * L.length
  | 0 => by simp [ledL]
  | n + 1 => by rw [ledL_succ, List.length_append, ledL_len, List.length_map, Nat.add_mul, Nat.one_mul]
theorem ledL_vp {p : Int} {n d : Nat} {g : By} {L : List By} (hp : 1 ≤ p) (hp2 : p ≤ 256) : ∀ v ∈ ledL p n d g L, Vp 8 p v := by
  intro v hv
  obtain ⟨i, -, hv⟩ := List.mem_flatMap.1 hv
  obtain ⟨w, -, rfl⟩ := List.mem_map.1 hv
  exact ⟨fun x => bz_vec_lt hp hp2, fun x hx => vec_out hx⟩
theorem i_Module_led_ok (B : Bs P ρ) (E : F_i_Module_led P ρ) {H : List Blk} {km kh n d : Nat} {rm rh : Bool} {p : Int} {f g : By} {a : At} {L : List By} (hp : 1 ≤ p) (hp2 : p ≤ 256) (hn : n ≤ 8) (hd : d ≤ 8) (hm : H[km]? = some ⟨rm, .by [(d : Int)] 513 g⟩) (hh : H[kh]? = some ⟨rh, .by [p, (n : Int)] 1106 f⟩) (hL : VS H a L) (hv : ∀ v ∈ L, ∀ j, d ≤ j → j < 8 → bz v j = 0) (hlen : L.length ≤ 1000000) :
    CallR P ρ 391 [.pt km 0, .pt kh 0, a] H (fun u G => ∃ b, u = .one b ∧ Ext H G ∧ VW H.length G b (ledL p n d g L)) := by
  refine call_of_q B.fn B.mo E.1 rfl (fun hAr hHp => ?_) (by simp only [List.all_cons, List.all_nil, hL.lt]; simp [At.lt, lt_of hm, lt_of hh])
  refine ⟨_, rfl, ?_⟩
  refine ⟨_, _, app_old hh, rfl, ?_⟩
  refine ⟨At, (fun a0 a1 a2 a15 (i0 : Nat) (x0 : At) => [(0, a0), (1, a1), (2, a2), (7, .one x0), (15, a15), (16, .one (.i .i64 ((i0 : Nat) : Int)))]) _ _ _ _ , fun (i0 : Nat) (x0 : At) (G0 : List Blk) => (VW H.length G0 x0 (ledL p i0 d g L) ∧ Upto H.length H G0), n, ⟨_, ⟨VW.nil (Nat.le_refl _), Ext.app.upto⟩, ⟨rfl, rfl, rfl, rfl, rfl, rfl, trivial⟩⟩, ?_⟩
  rintro i0 x0 G0 hi0 ⟨hV0, hU0⟩
  refine ⟨fun h17 => ?_, fun h17 => ?_⟩
  · replace h17 := of_decide_eq_true h17
    refine ⟨_, (hL).len, ?_⟩
    refine ⟨At, (fun a0 a1 a2 a8 a15 a16 a19 a20 (i1 : Nat) (x1 : At) => [(0, a0), (1, a1), (2, a2), (7, .one x1), (8, a8), (15, a15), (16, a16), (19, a19), (20, a20), (21, .one (.i .i64 ((i1 : Nat) : Int)))]) _ _ _ _ _ _ _ _ , fun (i1 : Nat) (x1 : At) (G1 : List Blk) => (VW H.length G1 x1 (ledL p i0 d g L ++ (L.take i1).map (maV p d g i0)) ∧ Upto H.length H G1), L.length, ⟨_, ⟨by simpa using hV0, hU0⟩, ⟨rfl, rfl, rfl, rfl, rfl, rfl, rfl, rfl, rfl, rfl, trivial⟩⟩, ?_⟩
    rintro i1 x1 G1 hi1 ⟨hV1, hU1⟩
    have hE1 : Ext H G1 := Upto.ext Ext.refl hU1 (Nat.le_refl _)
    have hl1 := hE1.len
    refine ⟨fun h22 => ?_, fun h22 => ?_⟩
    · replace h22 := of_decide_eq_true h22
      obtain ⟨k23, o23, n23, c23, q23, ea23, hl23, hq23, r23, N23, f23, hk23, hN23, hf23⟩ := (hL.ext hE1).at i1 (by omega)
      refine ⟨k23, o23, n23, c23, i1, q23, ea23, rfl, hl23, hq23, ?_⟩
      refine ⟨_, _, _, _, _, hk23, ⟨by simp, hN23⟩, hf23, ?_⟩
      refine ⟨_, rfl, ?_⟩
      refine ⟨_, _, _, get_new, cputs_by (by simp) (by omega), eqBk_rfl, ?_⟩
      rw [app_set0]
      refine ⟨i0, _, rfl, by omega, rfl, ?_⟩
      refine ⟨_, _, _, _, L.getD i1 z0, get_new, ⟨by simp, by omega⟩, fun x hx => by simp [spl, hx], ?_⟩
      refine ⟨_, CallOK.at2 (app_old (hE1 _ _ hm)) (app_old (hE1 _ _ hh)) (i_Module_field_ok B E.2.1 (p := p) (n := (n : Int)) (d := (d : Int)) (f := f) (g := g)) rfl rfl, ?_⟩
      rintro _ _ ⟨rfl, rfl⟩
      refine ⟨⟨kept1 get_new get_new, trivial⟩, ?_⟩
      refine ⟨_, CallOK.at1 (app_old (hE1 _ _ hm)) (i_field_apply_ok B E.2.2 (m := d) (p := p) (n := (d : Int)) (v := L.getD i1 z0) (f := g) (hd := [(d : Int)]) (N := 513) (off := 1 + i0 * 64) hp hp2 (by simp) (by omega) hd (hv _ (getD_mem (by omega)))) rfl rfl, ?_⟩
      rintro _ _ ⟨rfl, rfl⟩
      refine ⟨_, rfl, ?_⟩
      have hll : (ledL p i0 d g L).length ≤ 8 * 1000000 := by rw [ledL_len]; exact Nat.mul_le_mul (by omega) hlen
      refine ⟨_, vw_app ((hV1.ext Ext.app).ext Ext.app) (VS.one (v := maV p d g i0 (L.getD i1 z0))) (by simp; omega) (by simp; omega), ?_⟩
      rintro a37 G37 ⟨hv37, hu37⟩
      refine ⟨((i1 + 1 : Nat) : Int), w64_id _ (by omega) (by omega), ?_⟩
      refine ⟨by omega, _, ?_, ⟨rfl, rfl, rfl, rfl, rfl, rfl, rfl, rfl, rfl, rfl, trivial⟩⟩
      dsimp only
      rw [take_getD (by omega), List.map_append, ← List.append_assoc]
      exact ⟨hv37, hU1.trans (Ext.app.upto.trans (Ext.app.upto.trans hu37))⟩
    · replace h22 := of_decide_eq_false h22
      have e1 : L.length = i1 := by omega
      subst e1
      refine ⟨((i0 + 1 : Nat) : Int), w64_id _ (by omega) (by omega), ?_⟩
      refine ⟨by omega, _, ?_, ⟨rfl, rfl, rfl, rfl, rfl, rfl, trivial⟩⟩
      dsimp only
      rw [ledL_succ]
      rw [List.take_length] at hV1
      exact ⟨hV1, hU1⟩
  · replace h17 := of_decide_eq_false h17
    have e0 : n = i0 := by omega
    subst e0
    exact ⟨rfl, x0, rfl, Upto.ext Ext.refl hU0 (Nat.le_refl _), hV0⟩

theorem redL_vp {p : Int} {d : Nat} {L : List By} (hp : Pr p) (hd : d ≤ 8) (h : ∀ v ∈ L, Vp d p v) : ∀ v ∈ redL p L, Vp d p v := by
  intro v hv
  have h2 := hp.1
  have h3 := hp.2.1
  obtain ⟨r1, r2⟩ := redL_rr hp fun v hv => (h v hv).mono hd
  have q : Sp' 8 p L v := (r2 v).1 (.mem (by omega) (by omega) hv (r1.vp v hv))
  exact (q.w1 (by omega) (by omega) hd h).vp (by omega) (by omega)
theorem ma_eq {p : Int} {d i : Nat} {g v : By} : (vec 8 p fun y => sm d fun j => bz v j * bz (fun y => g (1 + i * 64 + y)) (j * 8 + y)) = maV p d g i v := by
  unfold maV
  simp only [bz, Nat.add_assoc]
theorem i_Module_isSubmodule_ok (B : Bs P ρ) (E : F_i_Module_isSubmodule P ρ) {H : List Blk} {km kh n d : Nat} {rm rh : Bool} {p : Int} {f g : By} {a : At} {L : List By} (hp : 1 ≤ p) (hp2 : p ≤ 256) (hn : n ≤ 8) (hd : d ≤ 8) (hm : H[km]? = some ⟨rm, .by [(d : Int)] 513 g⟩) (hh : H[kh]? = some ⟨rh, .by [p, (n : Int)] 1106 f⟩) (hL : VS H a L) (hl : ∀ r ∈ L, fst8 r < 8) (hv : ∀ v ∈ L, ∀ j, d ≤ j → j < 8 → bz v j = 0) (hlen : L.length ≤ 8) :
    CallR P ρ 393 [.pt km 0, .pt kh 0, a] H (fun u G => u = .one (.b (inL p L (ledL p n d g L))) ∧ G = H) := by
  refine CallR.pure (call_of_q B.fn B.mo E.1 rfl (fun hA hH => ?_) (by simp only [List.all_cons, List.all_nil, hL.lt]; simp [At.lt, lt_of hm, lt_of hh])) rfl
  refine ⟨_, _, hh, rfl, ?_⟩
  refine ⟨_, i_Module_led_ok B E.2.1 hp hp2 hn hd hm hh hL hv (by omega), ?_⟩
  rintro _ G15 ⟨b15, rfl, hE15, hV15⟩
  refine ⟨⟨kept1 hh (hE15 _ _ hh), trivial⟩, ?_⟩
  refine ⟨_, i_within_ok B E.2.2 hp hp2 (hL.ext hE15) hl (by omega) hV15.vs (fun v hv x _ => (ledL_vp hp hp2 v hv).1 x) (by rw [ledL_len]; have := Nat.mul_le_mul hn hlen; omega), ?_⟩
  rintro _ _ ⟨rfl, rfl⟩
  exact ⟨rfl, rfl, hE15⟩

theorem s_l06Closed_ok (B : Bs P ρ) (E : F_s_l06Closed P ρ) {H : List Blk} {n d : Nat} {p : Int} {f g : By} {a : At} {L : List By} (hp : 1 ≤ p) (hp2 : p ≤ 256) (hn : n ≤ 8) (hd : d ≤ 8) (hL : VS H a L) (hl : ∀ r ∈ L, fst8 r < 8) (hlen : L.length ≤ 8) :
    CallR P ρ 392 [.ag [p, (n : Int)] 1106 f, .ag [(d : Int)] 513 g, a] H (fun u G => u = .one (.b (inL p L (ledL p n d g L))) ∧ G = H) := by
  refine CallR.pure (call_of_q B.fn B.mo E.1 rfl (fun hA hH => ?_) (by simp only [List.all_cons, List.all_nil, hL.lt]; rfl)) rfl
  refine ⟨_, rfl, ?_⟩
  refine ⟨_, rfl, ?_⟩
  refine ⟨Unit, (fun a2 a3 a4 (i0 : Nat) (x0 : Unit) => [(2, a2), (3, a3), (4, a4), (7, .one (.i .i64 ((i0 : Nat) : Int)))]) _ _ _ , fun (i0 : Nat) (x0 : Unit) (G0 : List Blk) => (G0 = H ++ [⟨false, .by [p, (n : Int)] 1106 f⟩] ++ [⟨false, .by [(d : Int)] 513 g⟩] ∧ ∀ i, i < i0 → ∀ k, k < L.length → eqB 8 (byL p (maV p d g i (L.getD k z0)) L) z0 = true), n, ⟨(), ⟨rfl, fun i h => absurd h (by omega)⟩, ⟨rfl, rfl, rfl, rfl, trivial⟩⟩, ?_⟩
  rintro i0 _ G0 hi0 ⟨rfl, hF0⟩
  refine ⟨_, _, app_old get_new, rfl, ?_⟩
  refine ⟨fun h12 => ?_, fun h12 => ?_⟩
  · replace h12 := of_decide_eq_true h12
    refine ⟨Unit, (fun a2 a3 a4 a7 (i1 : Nat) (x1 : Unit) => [(2, a2), (3, a3), (4, a4), (7, a7), (8, .one (.i .i64 ((i1 : Nat) : Int)))]) _ _ _ _ , fun (i1 : Nat) (x1 : Unit) (G1 : List Blk) => (G1 = H ++ [⟨false, .by [p, (n : Int)] 1106 f⟩] ++ [⟨false, .by [(d : Int)] 513 g⟩] ∧ ∀ k, k < i1 → eqB 8 (byL p (maV p d g i0 (L.getD k z0)) L) z0 = true), L.length, ⟨(), ⟨rfl, fun i h => absurd h (by omega)⟩, ⟨rfl, rfl, rfl, rfl, rfl, trivial⟩⟩, ?_⟩
    rintro i1 _ G1 hi1 ⟨rfl, hF1⟩
    refine ⟨_, (hL).len, ?_⟩
    refine ⟨fun h18 => ?_, fun h18 => ?_⟩
    · replace h18 := of_decide_eq_true h18
      refine ⟨_, _, app_old get_new, rfl, ?_⟩
      refine ⟨_, _, app_old get_new, rfl, ?_⟩
      refine ⟨_, _, get_new, rfl, ?_⟩
      refine ⟨i0, _, rfl, by omega, rfl, ?_⟩
      refine ⟨_, _, _, _, (fun y => g (1 + i0 * 64 + y)), get_new, ⟨by simp, by omega⟩, fun x hx => rfl, ?_⟩
      obtain ⟨k33, o33, n33, c33, q33, ea33, hl33, hq33, r33, N33, f33, hk33, hN33, hf33⟩ := (hL.ext (Ext.app.trans Ext.app)).at i1 (by omega)
      refine ⟨k33, o33, n33, c33, i1, q33, ea33, rfl, hl33, hq33, ?_⟩
      refine ⟨_, _, _, _, _, hk33, ⟨by simp, hN33⟩, hf33, ?_⟩
      refine ⟨_, s_l01Apply_ok B E.2.1 hp hp2 hd, rfl, ?_⟩
      rw [ma_eq]
      refine ⟨_, s_l01By_ok B E.2.2.1 hp hp2 (hL.ext (Ext.app.trans Ext.app)) hl (by omega), ?_⟩
      rintro _ _ ⟨rfl, rfl⟩
      refine ⟨_, s_l01Zero_ok B E.2.2.2 , rfl, ?_⟩
      refine ⟨fun h39 => ?_, fun h39 => ?_⟩
      · skip
        have q39 : eqB 8 (byL p (maV p d g i0 (L.getD i1 z0)) L) z0 = false := not_t h39
        refine ⟨rfl, ?_, Ext.app.trans Ext.app⟩
        have e : inL p L (ledL p n d g L) = false := by
          unfold inL
          rw [List.all_eq_false]
          exact ⟨_, List.mem_flatMap.2 ⟨i0, List.mem_range.2 (by omega), List.mem_map.2 ⟨_, getD_mem (i := i1) (by omega), rfl⟩⟩, by rw [q39]; simp⟩
        rw [e]; rfl
      · skip
        have q39 : eqB 8 (byL p (maV p d g i0 (L.getD i1 z0)) L) z0 = true := not_f h39
        refine ⟨((i1 + 1 : Nat) : Int), w64_id _ (by omega) (by omega), ?_⟩
        refine ⟨by omega, (), ?_, ⟨rfl, rfl, rfl, rfl, rfl, trivial⟩⟩
        refine ⟨rfl, fun k hk => ?_⟩
        by_cases e : k = i1
        · subst e; exact q39
        · exact hF1 k (by omega)
    · replace h18 := of_decide_eq_false h18
      have e1 : L.length = i1 := by omega
      subst e1
      refine ⟨((i0 + 1 : Nat) : Int), w64_id _ (by omega) (by omega), ?_⟩
      refine ⟨by omega, (), ?_, ⟨rfl, rfl, rfl, rfl, trivial⟩⟩
      refine ⟨rfl, fun i hi k hk => ?_⟩
      by_cases e : i = i0
      · subst e; exact hF1 k hk
      · exact hF0 i (by omega) k hk
  · replace h12 := of_decide_eq_false h12
    have e0 : n = i0 := by omega
    subst e0
    refine ⟨rfl, ?_, Ext.app.trans Ext.app⟩
    have e : inL p L (ledL p n d g L) = true := by
      unfold inL
      rw [List.all_eq_true]
      intro v hv
      obtain ⟨i, hi, hv⟩ := List.mem_flatMap.1 hv
      obtain ⟨w, hw, rfl⟩ := List.mem_map.1 hv
      obtain ⟨k, hk, rfl⟩ := List.mem_iff_getElem.1 hw
      have := hF0 i (List.mem_range.1 hi) k hk
      rwa [List.getD_eq_getElem?_getD, List.getElem?_eq_getElem hk] at this
    rw [e]; rfl

theorem first2_at (B : Bs P ρ) (E : E_i_first P ρ) {H : List Blk} {k : Nat} {r : Bool} {a b : Int} (hk : H[k]? = some ⟨r, .rw [.i .i64 a, .i .i64 b]⟩) :
    CallR P ρ 139 [.sl k 0 2 2] H fun u G => u = .one (.i .i64 (fz [a, b])) ∧ G = H :=
  ((i_first2_ok B E (a := a) (b := b)).emb (H := H) (H' := H) (args := [.sl k 0 2 2]) [k] rfl ⟨⟨_, hk, fun h => by cases h⟩, trivial⟩ rfl rfl (by simp [back])).r
/-- is the space a submodule, if all is well -/
noncomputable def subV (p n d : Int) (g f : By) (L : List By) : Bool := if SQ p n d g f L then inL p (redL p L) (ledL p n.toNat d.toNat g (redL p L)) else false
theorem SQ.vp {p n : Int} {d : Nat} {g f : By} {L : List By} (h : SQ p n d g f L) (hz : ∀ v ∈ L, ∀ x, 8 ≤ x → v x = 0) : ∀ v ∈ L, Vp d p v := by
  intro v hv
  have hp2 := h.1.1.1.1.1.1
  have hd : d ≤ 8 := by have := h.1.2.1.1.2.2; omega
  refine ⟨fun x => ?_, fun x hx => ?_⟩
  · rcases Nat.lt_or_ge x 8 with h8 | h8
    · have := (h.2 v hv x h8).1; rwa [Nat.zero_add] at this
    · rw [bz_eq0.2 (hz v hv x h8)]; omega
  · rcases Nat.lt_or_ge x 8 with h8 | h8
    · have := (h.2 v hv x h8).2 (by omega)
      rw [Nat.zero_add] at this
      exact bz_eq0.1 this
    · exact hz v hv x h8
theorem sq_fz {p n d : Int} {g f : By} {L : List By} : fz [oc (Hop p n f ∧ Mod p n.toNat d g f) 1, oc (∀ v ∈ L, Shp p d ∧ Vec p d v 0) 1] = oc (SQ p n d g f L) 1 := by
  by_cases h1 : Hop p n f ∧ Mod p n.toNat d g f
  · rw [oc_t h1]
    simp only [fz]
    by_cases h2 : ∀ v ∈ L, Vec p d v 0
    · rw [oc_t (show SQ p n d g f L from ⟨h1, h2⟩), oc_t fun v hv => ⟨⟨h1.1.1.1.1, h1.2.1.1.2⟩, h2 v hv⟩]; rfl
    · rw [oc_f (fun q : SQ p n d g f L => h2 q.2), oc_f fun q => h2 fun v hv => (q v hv).2]; rfl
  · rw [oc_f h1, oc_f fun q : SQ p n d g f L => h1 q.1]; rfl
theorem i_IsSubmodule_ok (B : Bs P ρ) (E : F_i_IsSubmodule P ρ) {H : List Blk} {p n d : Int} {f g : By} {a : At} {L : List By} (hL : VS H a L) (hlen : L.length ≤ 1000000) (hz : ∀ v ∈ L, ∀ x, 8 ≤ x → v x = 0) :
    CallR P ρ 385 [.ag [p, n] 1106 f, .ag [d] 513 g, a] H (fun u G => u = .tup [.b (subV p n d g f L), .i .i64 (oc (SQ p n d g f L) 1)] ∧ G = H) := by
  refine CallR.pure (call_of_q B.fn B.mo E.1 rfl (fun hA hH => ?_) (by simp only [List.all_cons, List.all_nil, hL.lt]; rfl)) rfl
  refine ⟨_, rfl, ?_⟩
  refine ⟨_, rfl, ?_⟩
  refine ⟨_, rfl, ?_⟩
  refine ⟨_, i_modulesCode1_at B E.2.1 (p := p) (n := n) (d := d) (f := f) (g := g) (app_old (app_old get_new)) get_new (app_old get_new), ?_⟩
  rintro _ _ ⟨rfl, rfl⟩
  refine ⟨_, i_Module_vectorsCode_ok B E.2.2.1 (d := d) (g := g) (p := p) (n := n) (f := f) (app_old get_new) (app_old (app_old get_new)) (hL.ext (Ext.app.trans (Ext.app.trans Ext.app))) hlen, ?_⟩
  rintro _ _ ⟨rfl, rfl⟩
  refine ⟨_, rfl, ?_⟩
  refine ⟨_, first2_at B E.2.2.2.1 get_new, ?_⟩
  rintro _ _ ⟨rfl, rfl⟩
  rw [sq_fz]
  refine ⟨fun h17 => ?_, fun h17 => ?_⟩
  · replace h17 := bne_t h17
    refine ⟨rfl, ?_, Ext.app.trans (Ext.app.trans (Ext.app.trans Ext.app))⟩
    have hq : ¬ SQ p n d g f L := fun q => h17 (oc_t q)
    unfold subV; rw [if_neg hq]; rfl
  · replace h17 := bne_f h17
    have hq : SQ p n d g f L := oc_0 h17
    obtain ⟨n, rfl⟩ : ∃ m : Nat, n = (m : Int) := ⟨n.toNat, by have := hq.1.1.1.1.2.1; omega⟩
    obtain ⟨d, rfl⟩ : ∃ m : Nat, d = (m : Int) := ⟨d.toNat, by have := hq.1.2.1.1.2.1; omega⟩
    have hpr := hq.1.1.1.1.1
    have hp2 := hpr.1
    have hp3 := hpr.2.1
    have hn8 : n ≤ 8 := by have := hq.1.1.1.1.2.2; omega
    have hd8 : d ≤ 8 := by have := hq.1.2.1.1.2.2; omega
    have hvp := hq.vp hz
    have hrr := (redL_rr hpr fun v h => (hvp v h).mono hd8).1
    refine ⟨_, _, app_old (app_old (app_old get_new)), rfl, ?_⟩
    refine ⟨_, i_reduced_ok B E.2.2.2.2.1 hpr (hL.ext (Ext.app.trans (Ext.app.trans (Ext.app.trans Ext.app)))) (fun v h => (hvp v h).mono hd8) hlen, ?_⟩
    rintro _ G22 ⟨b22, rfl, hE22, hV22⟩
    refine ⟨_, i_Module_isSubmodule_ok B E.2.2.2.2.2 (d := d) (g := g) (p := p) (n := n) (f := f) (by omega) (by omega) hn8 hd8 (hE22 _ _ (app_old (app_old get_new))) (hE22 _ _ (app_old (app_old (app_old get_new)))) hV22.vs hrr.fs (fun v h j h1 h2 => bz_eq0.2 ((redL_vp hpr hd8 hvp v h).2 j h1)) hrr.len, ?_⟩
    rintro _ _ ⟨rfl, rfl⟩
    refine ⟨rfl, ?_, Ext.app.trans (Ext.app.trans (Ext.app.trans (Ext.app.trans hE22)))⟩
    unfold subV; rw [if_pos hq, oc_t hq]; rfl

theorem s_IsSubmodule_ok (B : Bs P ρ) (E : F_s_IsSubmodule P ρ) {H : List Blk} {p n d : Int} {f g : By} {a : At} {L : List By} (hL : VS H a L) (hlen : L.length ≤ 1000000) (hz : ∀ v ∈ L, ∀ x, 8 ≤ x → v x = 0) :
    CallR P ρ 384 [.ag [p, n] 1106 f, .ag [d] 513 g, a] H (fun u G => u = .tup [.b (subV p n d g f L), .i .i64 (oc (SQ p n d g f L) 1)] ∧ G = H) := by
  refine CallR.pure (call_of_q B.fn B.mo E.1 rfl (fun hA hH => ?_) (by simp only [List.all_cons, List.all_nil, hL.lt]; rfl)) rfl
  refine ⟨_, rfl, ?_⟩
  refine ⟨_, rfl, ?_⟩
  refine .inl ⟨_, _, _, _, app_old get_new, ⟨rfl, by omega⟩, ?_⟩
  refine .inl ⟨_, _, _, _, get_new, ⟨rfl, by omega⟩, ?_⟩
  refine ⟨_, s_l06Vectors_ok B E.2.1 (hL.ext (Ext.app.trans Ext.app)) hlen, ?_⟩
  rintro _ _ ⟨rfl, rfl⟩
  refine ⟨fun h14 => ?_, fun h14 => ?_⟩
  · replace h14 := bne_t h14
    refine ⟨rfl, ?_, Ext.app.trans Ext.app⟩
    have hq : ¬ SQ p n d g f L := fun q => h14 (oc_t q)
    unfold subV; rw [if_neg hq]; rfl
  · replace h14 := bne_f h14
    have hq : SQ p n d g f L := oc_0 h14
    obtain ⟨n, rfl⟩ : ∃ m : Nat, n = (m : Int) := ⟨n.toNat, by have := hq.1.1.1.1.2.1; omega⟩
    obtain ⟨d, rfl⟩ : ∃ m : Nat, d = (m : Int) := ⟨d.toNat, by have := hq.1.2.1.1.2.1; omega⟩
    have hpr := hq.1.1.1.1.1
    have hp2 := hpr.1
    have hp3 := hpr.2.1
    have hn8 : n ≤ 8 := by have := hq.1.1.1.1.2.2; omega
    have hd8 : d ≤ 8 := by have := hq.1.2.1.1.2.2; omega
    have hvp := hq.vp hz
    have hrr := (redL_rr hpr fun v h => (hvp v h).mono hd8).1
    refine .inl ⟨_, _, _, _, app_old get_new, ⟨rfl, by omega⟩, ?_⟩
    refine .inl ⟨_, _, _, _, get_new, ⟨rfl, by omega⟩, ?_⟩
    refine ⟨_, _, app_old get_new, rfl, ?_⟩
    refine ⟨_, s_l01Reduce_ok B E.2.2.1 hpr (hL.ext (Ext.app.trans Ext.app)) (fun v h => (hvp v h).mono hd8) hlen, ?_⟩
    rintro _ G21 ⟨b21, rfl, hE21, hV21⟩
    refine ⟨⟨by first | exact kept1 get_new (hE21 _ _ get_new) | exact kept1 (app_old get_new) (hE21 _ _ (app_old get_new)), by first | exact kept1 get_new (hE21 _ _ get_new) | exact kept1 (app_old get_new) (hE21 _ _ (app_old get_new)), trivial⟩, ?_⟩
    refine ⟨_, s_l06Closed_ok B E.2.2.2 (by omega) (by omega) hn8 hd8 hV21 hrr.fs hrr.len, ?_⟩
    rintro _ _ ⟨rfl, rfl⟩
    refine ⟨rfl, ?_, Ext.app.trans (Ext.app.trans hE21)⟩
    unfold subV; rw [if_pos hq, oc_t hq]; rfl

end Hf
namespace Hf
open Go Classical
variable {P : Program} {ρ : Nat → FuncId}
/-- a list that the input brings along: its block may hold other things too -/
def VA (H : List Blk) (a : At) (L : List By) : Prop :=
  (a = .sn ∧ L = []) ∨ ∃ k off cap r cs fz, a = .sl k off L.length cap ∧ H[k]? = some ⟨r, .fo cs fz⟩ ∧ ∀ i x, i < L.length → x < 8 → cs[off + i * 8 + x]? = some (.int .u8 ((((L.getD i z0) x).toNat : Nat) : Int))
theorem VA.ext {H H' : List Blk} {a : At} {L : List By} (h : VA H a L) (e : Ext H H') : VA H' a L := by
  rcases h with h | ⟨k, off, cap, r, cs, fz, h1, h2, h3⟩
  · exact .inl h
  · exact .inr ⟨k, off, cap, r, cs, fz, h1, e k _ h2, h3⟩
theorem VA.lt {H : List Blk} {a : At} {L : List By} (h : VA H a L) : a.lt H.length = true := by
  rcases h with ⟨rfl, -⟩ | ⟨k, off, cap, r, cs, fz, rfl, h2, h3⟩
  · rfl
  · simp [At.lt, lt_of h2]
theorem VA.len {H : List Blk} {a : At} {L : List By} (h : VA H a L) : lenA a = some L.length := by
  rcases h with ⟨rfl, rfl⟩ | ⟨k, off, cap, r, cs, fz, rfl, -⟩ <;> rfl
theorem VA.at {H : List Blk} {a : At} {L : List By} (h : VA H a L) (i : Nat) (hi : i < L.length) :
    ∃ k off len cap q, a = .sl k off len cap ∧ i < len ∧ off + i * 8 = q ∧ ∃ r cs fz, H[k]? = some ⟨r, .fo cs fz⟩ ∧ ∀ y, y < 8 → cs[q + y]? = some (.int .u8 ((((L.getD i z0) y).toNat : Nat) : Int)) := by
  rcases h with ⟨rfl, rfl⟩ | ⟨k, off, cap, r, cs, fz, rfl, h2, h3⟩
  · simp at hi
  · exact ⟨k, off, L.length, cap, off + i * 8, rfl, hi, rfl, r, cs, fz, h2, fun y hy => h3 i y hi hy⟩
/-- room behind a list of n -/
def room (n : Nat) : Nat := if n % 6 = 5 then 0 else if n % 3 = 0 then 1 else n
theorem room_le {n : Nat} : room n ≤ n + 1 := by unfold room; split <;> (try split) <;> omega
def v201 : By := fun x => if x = 0 then 201 else 0
/-- a list and what stands behind it -/
def extL (L : List By) : List By := L ++ List.replicate (room L.length) v201
theorem extL_len {L : List By} : (extL L).length = L.length + room L.length := by simp [extL]
theorem extL_at {L : List By} {i : Nat} : (extL L).getD i z0 = if i < L.length then L.getD i z0 else if i < L.length + room L.length then v201 else z0 := by
  unfold extL
  rw [getD_app]
  split
  · rfl
  · rename_i h
    split
    · rename_i h2
      rw [List.getD_eq_getElem?_getD, List.getElem?_replicate, if_pos (by omega)]; rfl
    · rename_i h2
      rw [List.getD_eq_getElem?_getD, List.getElem?_replicate, if_neg (by omega)]; rfl
/-- an argument as the laws lay it: from the m-th block on, and room behind it -/
def VT (m : Nat) (H : List Blk) (a : At) (L : List By) : Prop :=
  ∃ k f, a = .sl k 0 L.length (L.length + room L.length) ∧ H[k]? = some ⟨false, .by [] ((L.length + room L.length) * 8) f⟩ ∧ m ≤ k ∧ ∀ i x, i < L.length + room L.length → x < 8 → f (i * 8 + x) = ((extL L).getD i z0) x
theorem VT.vw {m : Nat} {H : List Blk} {a : At} {L : List By} (h : VT m H a L) : VW m H a L := by
  obtain ⟨k, f, rfl, h2, h3, h4⟩ := h
  refine ⟨k, 0, _, _, f, rfl, h2, ⟨by omega, by omega, h3⟩, fun i x hi hx => ?_⟩
  rw [Nat.zero_add, h4 i x (by omega) hx, extL_at, if_pos hi]
theorem VT.vs {m : Nat} {H : List Blk} {a : At} {L : List By} (h : VT m H a L) : VS H a L := h.vw.vs
theorem VT.ext {m : Nat} {H H' : List Blk} {a : At} {L : List By} (h : VT m H a L) (e : Ext H H') : VT m H' a L := by
  obtain ⟨k, f, rfl, h2, h3, h4⟩ := h
  exact ⟨k, f, rfl, e _ _ h2, h3, h4⟩
theorem vt_full {H : List Blk} {L : List By} {k N : Nat} {f : By} (hN : N = L.length + room L.length) (hk : H[k]? = some ⟨false, .by [] ((L.length + room L.length) * 8) f⟩) (hf : ∀ i x, i < L.length + room L.length → x < 8 → f (i * 8 + x) = ((extL L).getD i z0) x) :
    VS H (.sl k (if N = 0 then 0 else 0 + 0 * 8) (N - 0) (N - 0)) (extL L) := by
  have e : (if N = 0 then 0 else 0 + 0 * 8) = 0 := by split <;> rfl
  rw [e]
  refine .inr ⟨k, 0, N - 0, false, _, f, by rw [extL_len, hN]; rfl, hk, ⟨by omega, by rw [extL_len]; omega⟩, fun i x hi hx => ?_⟩
  rw [extL_len] at hi
  rw [Nat.zero_add, hf i x hi hx]
theorem l_roomBehind_ok (B : Bs P ρ) (E : F_l_roomBehind P ρ) {n : Nat} (hn : n ≤ 4611686018427387904) :
    CallOK P ρ 364 [.i .i64 (n : Int)] [] (.one (.i .i64 ((room n : Nat) : Int))) [] := by
  refine (CallR.pure (call_of_q B.fn B.mo E rfl (fun _ _ => ?_) rfl) rfl).ok
  refine ⟨by omega, _, rfl, ?_⟩
  refine ⟨fun h5 => ?_, fun h5 => ?_⟩
  · replace h5 := eq_of_beq h5
    have e5 : n % 6 = 5 := by have h : ((n % 6 : Nat) : Int) = 5 := (Int.ofNat_tmod n 6).trans h5; omega
    exact ⟨rfl, by unfold room; rw [if_pos e5]; rfl, Ext.nil⟩
  · replace h5 := ne_of_beq_false h5
    have e5 : ¬ n % 6 = 5 := by have h : ¬ ((n % 6 : Nat) : Int) = 5 := fun q => h5 ((Int.ofNat_tmod n 6).symm.trans q); omega
    refine ⟨by omega, _, rfl, ?_⟩
    refine ⟨fun h8 => ?_, fun h8 => ?_⟩
    · replace h8 := eq_of_beq h8
      have e8 : n % 3 = 0 := by have h : ((n % 3 : Nat) : Int) = 0 := (Int.ofNat_tmod n 3).trans h8; omega
      exact ⟨rfl, by unfold room; rw [if_neg e5, if_pos e8]; rfl, Ext.nil⟩
    · replace h8 := ne_of_beq_false h8
      have e8 : ¬ n % 3 = 0 := by have h : ¬ ((n % 3 : Nat) : Int) = 0 := fun q => h8 ((Int.ofNat_tmod n 3).symm.trans q); omega
      exact ⟨rfl, by unfold room; rw [if_neg e5, if_neg e8]; rfl, Ext.nil⟩

theorem l_toVectorS_ok (B : Bs P ρ) (E : F_l_toVectorS P ρ) {H : List Blk} {a : At} {L : List By} (hL : VA H a L) (hlen : L.length ≤ 1000000) :
    CallR P ρ 349 [a, .b false] H (fun u G => ∃ b, u = .one b ∧ Ext H G ∧ VT H.length G b L) := by
  have hrl := room_le (n := L.length)
  refine call_of_q B.fn B.mo E.1 rfl (fun hAr hHp => ?_) (by simp only [List.all_cons, List.all_nil, hL.lt]; rfl)
  refine brB_f ?_
  refine brB_f ?_
  refine brB_f ?_
  refine brB_f ?_
  refine brB_f ?_
  refine ⟨_, (hL).len, ?_⟩
  refine ⟨_, (hL).len, ?_⟩
  refine ⟨_, l_roomBehind_ok B E.2.1 (n := L.length) (by omega), rfl, ?_⟩
  refine ⟨((L.length + room L.length : Nat) : Int), by rw [Int.natCast_add]; exact w64_id _ (by omega) (by omega), ?_⟩
  refine ⟨_, _, ⟨rfl, by omega, by omega⟩, rfl, ?_⟩
  refine ⟨Unit, (fun a0 a5 (i0 : Nat) (x0 : Unit) => [(0, a0), (5, a5), (6, .one (.i .i64 ((i0 : Nat) : Int)))]) _ _ , fun (i0 : Nat) (x0 : Unit) (G0 : List Blk) => (∃ w, G0 = H ++ [⟨false, .by [] ((L.length + room L.length) * 8) w⟩] ∧ ∀ i x, i < i0 → x < 8 → w (i * 8 + x) = L.getD i z0 x), L.length, ⟨(), ⟨_, rfl, fun i x h => absurd h (by omega)⟩, ⟨rfl, rfl, rfl, trivial⟩⟩, ?_⟩
  rintro i0 _ G0 hi0 ⟨w, rfl, hw⟩
  refine ⟨_, (hL).len, ?_⟩
  refine ⟨fun h24 => ?_, fun h24 => ?_⟩
  · replace h24 := of_decide_eq_true h24
    obtain ⟨k31, o31, n31, c31, q31, ea31, hl31, hq31, r31, C31, Z31, hk31, hf31⟩ := (hL.ext Ext.app).at i0 (by omega)
    refine ⟨k31, o31, n31, c31, i0, q31, ea31, rfl, hl31, hq31, ?_⟩
    refine ⟨_, _, _, _, hk31, hf31, ?_⟩
    refine ⟨_, l_toVector_ok B E.2.2 , rfl, ?_⟩
    refine ⟨_, _, _, _, _, _, rfl, rfl, by omega, rfl, ?_⟩
    refine ⟨_, _, _, get_new, cputs_by (by simp) (by omega), eqBk_rfl, ?_⟩
    rw [app_set0]
    refine ⟨((i0 + 1 : Nat) : Int), w64_id _ (by omega) (by omega), ?_⟩
    refine ⟨by omega, (), ?_, ⟨rfl, rfl, rfl, trivial⟩⟩
    refine ⟨_, rfl, fun i x hi hx => ?_⟩
    simp only [spl]
    by_cases e : i = i0
    · subst e
      rw [if_pos (by omega), show i * 8 + x - (0 + i * 8) = x by omega]
    · rw [if_neg (by omega)]
      exact hw i x (by omega) hx
  · replace h24 := of_decide_eq_false h24
    have e0 : L.length = i0 := by omega
    subst e0
    refine ⟨_, (hL).len, ?_⟩
    refine ⟨Unit, (fun a0 a5 (i1 : Nat) (x1 : Unit) => [(0, a0), (5, a5), (7, .one (.i .i64 ((L.length + i1 : Nat) : Int)))]) _ _ , fun (i1 : Nat) (x1 : Unit) (G1 : List Blk) => (∃ w, G1 = H ++ [⟨false, .by [] ((L.length + room L.length) * 8) w⟩] ∧ ∀ i x, i < L.length + i1 → x < 8 → w (i * 8 + x) = (extL L).getD i z0 x), room L.length, ⟨(), ?_, ⟨rfl, rfl, rfl, trivial⟩⟩, ?_⟩
    · refine ⟨w, rfl, fun i x hi hx => ?_⟩
      rw [extL_at, if_pos (by omega)]
      exact hw i x (by omega) hx
    rintro i1 _ G1 hi1 ⟨w1, rfl, hw1⟩
    refine ⟨_, rfl, ?_⟩
    refine ⟨fun h40 => ?_, fun h40 => ?_⟩
    · replace h40 := of_decide_eq_true h40
      refine ⟨_, _, _, _, _, _, rfl, rfl, by omega, rfl, ?_⟩
      refine ⟨_, _, _, get_new, cputs_by (by simp) (by omega), eqBk_rfl, ?_⟩
      rw [app_set0]
      refine ⟨((L.length + i1 + 1 : Nat) : Int), w64_id _ (by omega) (by omega), ?_⟩
      refine ⟨by omega, (), ?_, ⟨rfl, rfl, rfl, trivial⟩⟩
      refine ⟨_, rfl, fun i x hi hx => ?_⟩
      simp only [spl]
      by_cases e : i = L.length + i1
      · subst e
        rw [if_pos (by omega), extL_at, if_neg (by omega), if_pos (by omega), show (L.length + i1) * 8 + x - (0 + (L.length + i1) * 8) = x by omega]
        unfold v201
        by_cases e0 : x = 0
        · subst e0; rfl
        · simp [upd, e0]
      · rw [if_neg (by omega)]
        exact hw1 i x (by omega) hx
    · replace h40 := of_decide_eq_false h40
      refine ⟨_, (hL).len, ?_⟩
      refine ⟨0, L.length, rfl, rfl, ⟨by omega, by omega⟩, ?_⟩
      refine ⟨rfl, _, rfl, Ext.app, ⟨H.length, w1, ?_, get_new, Nat.le_refl _, fun i x hi hx => hw1 i x (by omega) hx⟩⟩
      congr 1
      split <;> rfl

theorem l_toVectorS_t_ok (B : Bs P ρ) (E : F_l_toVectorS P ρ) {H : List Blk} {a : At} {L : List By} (hL : VA H a L) (hlen : L.length ≤ 1000000) :
    CallR P ρ 349 [a, .b true] H (fun u G => ∃ b, u = .one b ∧ Ext H G ∧ ((L = [] ∧ b = .sn) ∨ VT H.length G b L)) := by
  have hrl := room_le (n := L.length)
  refine call_of_q B.fn B.mo E.1 rfl (fun hAr hHp => ?_) (by simp only [List.all_cons, List.all_nil, hL.lt]; rfl)
  refine brB_t ?_
  refine brB_t ?_
  refine ⟨_, (hL).len, ?_⟩
  refine brB_t ?_
  refine brB_t ?_
  refine ⟨fun h13 => ?_, fun h13 => ?_⟩
  · replace h13 := eq_of_beq h13
    refine ⟨rfl, .sn, rfl, Ext.refl, .inl ⟨List.length_eq_zero_iff.1 (by omega), rfl⟩⟩
  · replace h13 := ne_of_beq_false h13
    refine ⟨_, (hL).len, ?_⟩
    refine ⟨_, (hL).len, ?_⟩
    refine ⟨_, l_roomBehind_ok B E.2.1 (n := L.length) (by omega), rfl, ?_⟩
    refine ⟨((L.length + room L.length : Nat) : Int), by rw [Int.natCast_add]; exact w64_id _ (by omega) (by omega), ?_⟩
    refine ⟨_, _, ⟨rfl, by omega, by omega⟩, rfl, ?_⟩
    refine ⟨Unit, (fun a0 a5 (i0 : Nat) (x0 : Unit) => [(0, a0), (5, a5), (6, .one (.i .i64 ((i0 : Nat) : Int)))]) _ _ , fun (i0 : Nat) (x0 : Unit) (G0 : List Blk) => (∃ w, G0 = H ++ [⟨false, .by [] ((L.length + room L.length) * 8) w⟩] ∧ ∀ i x, i < i0 → x < 8 → w (i * 8 + x) = L.getD i z0 x), L.length, ⟨(), ⟨_, rfl, fun i x h => absurd h (by omega)⟩, ⟨rfl, rfl, rfl, trivial⟩⟩, ?_⟩
    rintro i0 _ G0 hi0 ⟨w, rfl, hw⟩
    refine ⟨_, (hL).len, ?_⟩
    refine ⟨fun h24 => ?_, fun h24 => ?_⟩
    · replace h24 := of_decide_eq_true h24
      obtain ⟨k31, o31, n31, c31, q31, ea31, hl31, hq31, r31, C31, Z31, hk31, hf31⟩ := (hL.ext Ext.app).at i0 (by omega)
      refine ⟨k31, o31, n31, c31, i0, q31, ea31, rfl, hl31, hq31, ?_⟩
      refine ⟨_, _, _, _, hk31, hf31, ?_⟩
      refine ⟨_, l_toVector_ok B E.2.2 , rfl, ?_⟩
      refine ⟨_, _, _, _, _, _, rfl, rfl, by omega, rfl, ?_⟩
      refine ⟨_, _, _, get_new, cputs_by (by simp) (by omega), eqBk_rfl, ?_⟩
      rw [app_set0]
      refine ⟨((i0 + 1 : Nat) : Int), w64_id _ (by omega) (by omega), ?_⟩
      refine ⟨by omega, (), ?_, ⟨rfl, rfl, rfl, trivial⟩⟩
      refine ⟨_, rfl, fun i x hi hx => ?_⟩
      simp only [spl]
      by_cases e : i = i0
      · subst e
        rw [if_pos (by omega), show i * 8 + x - (0 + i * 8) = x by omega]
      · rw [if_neg (by omega)]
        exact hw i x (by omega) hx
    · replace h24 := of_decide_eq_false h24
      have e0 : L.length = i0 := by omega
      subst e0
      refine ⟨_, (hL).len, ?_⟩
      refine ⟨Unit, (fun a0 a5 (i1 : Nat) (x1 : Unit) => [(0, a0), (5, a5), (7, .one (.i .i64 ((L.length + i1 : Nat) : Int)))]) _ _ , fun (i1 : Nat) (x1 : Unit) (G1 : List Blk) => (∃ w, G1 = H ++ [⟨false, .by [] ((L.length + room L.length) * 8) w⟩] ∧ ∀ i x, i < L.length + i1 → x < 8 → w (i * 8 + x) = (extL L).getD i z0 x), room L.length, ⟨(), ?_, ⟨rfl, rfl, rfl, trivial⟩⟩, ?_⟩
      · refine ⟨w, rfl, fun i x hi hx => ?_⟩
        rw [extL_at, if_pos (by omega)]
        exact hw i x (by omega) hx
      rintro i1 _ G1 hi1 ⟨w1, rfl, hw1⟩
      refine ⟨_, rfl, ?_⟩
      refine ⟨fun h40 => ?_, fun h40 => ?_⟩
      · replace h40 := of_decide_eq_true h40
        refine ⟨_, _, _, _, _, _, rfl, rfl, by omega, rfl, ?_⟩
        refine ⟨_, _, _, get_new, cputs_by (by simp) (by omega), eqBk_rfl, ?_⟩
        rw [app_set0]
        refine ⟨((L.length + i1 + 1 : Nat) : Int), w64_id _ (by omega) (by omega), ?_⟩
        refine ⟨by omega, (), ?_, ⟨rfl, rfl, rfl, trivial⟩⟩
        refine ⟨_, rfl, fun i x hi hx => ?_⟩
        simp only [spl]
        by_cases e : i = L.length + i1
        · subst e
          rw [if_pos (by omega), extL_at, if_neg (by omega), if_pos (by omega), show (L.length + i1) * 8 + x - (0 + (L.length + i1) * 8) = x by omega]
          unfold v201
          by_cases e0 : x = 0
          · subst e0; rfl
          · simp [upd, e0]
        · rw [if_neg (by omega)]
          exact hw1 i x (by omega) hx
      · replace h40 := of_decide_eq_false h40
        refine ⟨_, (hL).len, ?_⟩
        refine ⟨0, L.length, rfl, rfl, ⟨by omega, by omega⟩, ?_⟩
        refine ⟨rfl, _, rfl, Ext.app, .inr ⟨H.length, w1, ?_, get_new, Nat.le_refl _, fun i x hi hx => hw1 i x (by omega) hx⟩⟩
        congr 1
        split <;> rfl

theorem l_szVectorS_ok (B : Bs P ρ) (E : F_l_szVectorS P ρ) {H : List Blk} {a : At} {L : List By} (hL : VA H a L) (hlen : L.length ≤ 9223372036854775807) :
    CallR P ρ 348 [a, .i .i64 1000000] H (fun u G => u = .one (.i .i64 (if L.length ≤ 1000000 then 1000000 - (L.length : Int) else -1)) ∧ G = H) := by
  refine call_of_q B.fn B.mo E rfl (fun hAr hHp => ?_) (by simp only [List.all_cons, List.all_nil, hL.lt]; rfl)
  refine ⟨_, (hL).len, ?_⟩
  refine ⟨_, w64_id _ (by omega) (by omega), ?_⟩
  refine ⟨fun h10 => ?_, fun h10 => ?_⟩
  · replace h10 := of_decide_eq_true h10
    exact ⟨rfl, by rw [if_neg (by omega)]; rfl, rfl⟩
  · replace h10 := of_decide_eq_false h10
    exact ⟨rfl, by rw [if_pos (by omega)]; rfl, rfl⟩

theorem l_intactVectorS_ok (B : Bs P ρ) (E : F_l_intactVectorS P ρ) {H : List Blk} {a b : At} {L : List By} {m1 m2 : Nat} (hA : VT m1 H a L) (hB : VT m2 H b L) (hlen : L.length ≤ 1000000) :
    CallR P ρ 352 [a, b] H (fun u G => u = .one (.b true) ∧ G = H) := by
  have lA := hA.vs.lt
  have lB := hB.vs.lt
  have hrl := room_le (n := L.length)
  obtain ⟨k1, f1, rfl, hk1, -, hf1⟩ := hA
  obtain ⟨k2, f2, rfl, hk2, -, hf2⟩ := hB
  refine call_of_q B.fn B.mo E.1 rfl (fun hAr hHp => ?_) (by simp only [List.all_cons, List.all_nil, lA, lB]; rfl)
  refine ⟨_, rfl, ?_⟩
  refine ⟨_, rfl, ?_⟩
  refine ⟨_, l_roomBehind_ok B E.2.1 (n := L.length) (by omega), rfl, ?_⟩
  refine ⟨((L.length + room L.length : Nat) : Int), by rw [Int.natCast_add]; exact w64_id _ (by omega) (by omega), ?_⟩
  refine ⟨_, rfl, ?_⟩
  refine ⟨_, rfl, ?_⟩
  refine ⟨fun h17 => ?_, fun h17 => ?_⟩
  · replace h17 := eq_of_beq h17
    refine brB_t ?_
    refine brB_t ?_
    refine ⟨0, L.length + room L.length, rfl, rfl, ⟨by omega, by omega⟩, ?_⟩
    refine brB_t ?_
    refine brB_t ?_
    refine brB_t ?_
    refine ⟨0, L.length + room L.length, rfl, rfl, ⟨by omega, by omega⟩, ?_⟩
    refine brB_t ?_
    refine ⟨_, l_eqVectorS_ok B E.2.2 (L := extL L) (vt_full rfl hk1 hf1) (vt_full rfl hk2 hf2) (by rw [extL_len]; omega), ?_⟩
    rintro _ _ ⟨rfl, rfl⟩
    refine brB_t ?_
    exact ⟨rfl, rfl, rfl⟩
  · replace h17 := ne_of_beq_false h17
    exact absurd rfl h17

theorem l_FnExactIsSubmodule_ok (B : Bs P ρ) (E : F_l_FnExactIsSubmodule P ρ) {H : List Blk} {p n d : Int} {f g : By} {a : At} {L : List By} (hL : VA H a L) (hz : ∀ v ∈ L, ∀ x, 8 ≤ x → v x = 0) (hlen : L.length ≤ 9223372036854775807) :
    CallR P ρ 386 [.ag [p, n] 1106 f, .ag [d] 513 g, a] H (fun u G => u = .one (.b true) ∧ G = H) := by
  refine CallR.pure (call_of_q B.fn B.mo E.1 rfl (fun hA hH => ?_) (by simp only [List.all_cons, List.all_nil, hL.lt]; rfl)) rfl
  refine ⟨_, rfl, ?_⟩
  refine ⟨_, rfl, ?_⟩
  have hEx : Ext (H ++ [(⟨false, .by [p, n] 1106 f⟩ : Blk)] ++ [(⟨false, .by [d] 513 g⟩ : Blk)]) (H ++ [(⟨false, .by [p, n] 1106 f⟩ : Blk)] ++ [(⟨false, .by [d] 513 g⟩ : Blk)]) := Ext.refl
  have hE0 : Ext H (H ++ [(⟨false, .by [p, n] 1106 f⟩ : Blk)] ++ [(⟨false, .by [d] 513 g⟩ : Blk)]) := Ext.app.trans Ext.app
  refine ⟨_, l_szVectorS_ok B E.2.1 (hL.ext hE0) hlen, ?_⟩
  rintro _ _ ⟨rfl, rfl⟩
  refine ⟨fun h19 => ?_, fun h19 => ?_⟩
  · replace h19 := of_decide_eq_true h19
    exact ⟨rfl, rfl, hE0⟩
  · replace h19 := of_decide_eq_false h19
    have hl6 : L.length ≤ 1000000 := by
      apply Classical.byContradiction
      intro q
      rw [if_neg q] at h19
      omega
    refine .inl ⟨_, _, _, _, (hEx _ _ (app_old get_new)), ⟨rfl, by omega⟩, ?_⟩
    refine ⟨_, l_toHopf_ok B E.2.2.1 , rfl, ?_⟩
    refine .inl ⟨_, _, _, _, (hEx _ _ get_new), ⟨rfl, by omega⟩, ?_⟩
    refine ⟨_, l_toModule_ok B E.2.2.2.1 , rfl, ?_⟩
    refine ⟨_, l_toVectorS_ok B E.2.2.2.2.1 (hL.ext (hE0.trans hEx)) hl6, ?_⟩
    rintro _ G1 ⟨b1, rfl, hE1, hV1⟩
    have hEx := hEx.trans hE1
    refine ⟨_, s_IsSubmodule_ok B E.2.2.2.2.2.1 hV1.vs hl6 hz, ?_⟩
    rintro _ _ ⟨rfl, rfl⟩
    refine ⟨_, l_toVectorS_ok B E.2.2.2.2.1 (hL.ext (hE0.trans hEx)) hl6, ?_⟩
    rintro _ G2 ⟨b2, rfl, hE2, hV2⟩
    have hEx := hEx.trans hE2
    refine .inl ⟨_, _, _, _, (hEx _ _ (app_old get_new)), ⟨rfl, by omega⟩, ?_⟩
    refine ⟨_, l_toHopf_ok B E.2.2.1 , rfl, ?_⟩
    refine .inl ⟨_, _, _, _, (hEx _ _ get_new), ⟨rfl, by omega⟩, ?_⟩
    refine ⟨_, l_toModule_ok B E.2.2.2.1 , rfl, ?_⟩
    refine ⟨_, i_IsSubmodule_ok B E.2.2.2.2.2.2.1 hV2.vs hl6 hz, ?_⟩
    rintro _ _ ⟨rfl, rfl⟩
    refine ⟨fun h44 => ?_, fun h44 => ?_⟩
    · skip
      simp at h44
    · skip
      refine brB_f ?_
      refine brB_f ?_
      refine brB_f ?_
      refine brB_f' (by simp) ?_
      refine ⟨_, l_toVectorS_ok B E.2.2.2.2.1 (hL.ext (hE0.trans hEx)) hl6, ?_⟩
      rintro _ G3 ⟨b3, rfl, hE3, hV3⟩
      have hEx := hEx.trans hE3
      refine ⟨_, l_intactVectorS_ok B E.2.2.2.2.2.2.2 (hV2.ext hE3) hV3 hl6, ?_⟩
      rintro _ _ ⟨rfl, rfl⟩
      refine brB_f ?_
      refine .inl ⟨_, _, _, _, (hEx _ _ (app_old get_new)), ⟨rfl, by omega⟩, ?_⟩
      refine ⟨_, l_toHopf_ok B E.2.2.1 , rfl, ?_⟩
      refine .inl ⟨_, _, _, _, (hEx _ _ get_new), ⟨rfl, by omega⟩, ?_⟩
      refine ⟨_, l_toModule_ok B E.2.2.2.1 , rfl, ?_⟩
      refine ⟨_, l_toVectorS_t_ok B E.2.2.2.2.1 (hL.ext (hE0.trans hEx)) hl6, ?_⟩
      rintro _ G4 ⟨b4, rfl, hE4, hV4⟩
      have hEx := hEx.trans hE4
      have hV4 : VS G4 b4 L := by
        rcases hV4 with ⟨rfl, rfl⟩ | h
        · exact .inl ⟨rfl, rfl⟩
        · exact h.vs
      refine ⟨_, i_IsSubmodule_ok B E.2.2.2.2.2.2.1 hV4 hl6 hz, ?_⟩
      rintro _ _ ⟨rfl, rfl⟩
      refine ⟨fun h67 => ?_, fun h67 => ?_⟩
      · skip
        simp at h67
      · skip
        refine brB_f ?_
        refine brB_f ?_
        refine brB_f ?_
        refine brB_f' (by simp) ?_
        exact ⟨rfl, rfl, hE0.trans hEx⟩

end Hf
