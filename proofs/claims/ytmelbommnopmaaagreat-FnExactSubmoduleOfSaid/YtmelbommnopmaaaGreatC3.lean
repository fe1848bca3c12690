/- Contracts of the functions that the law reaches. -/
import Derived.Test.YtmelbommnopmaaaGreatC2
set_option linter.unusedVariables false
set_option linter.unusedSimpArgs false
namespace Hf
open Go Classical
section
variable {W : Nat} {p : Int}
theorem clq_ok (hp : Pr p) {v : By} {c : Nat} (hc : c < W) (hv : Vp W p v) (h : v c ≠ 0) :
    Vp W p (clq W p v c) ∧ clq W p v c c = 1 ∧ (∀ y, v y = 0 → clq W p v c y = 0) ∧ clq W p v c = addW W p z0 v (invI p (v c)) ∧ v = addW W p z0 (clq W p v c) (bz v c) := by
  have h2 := hp.1
  have h3 := hp.2.1
  have hp1 : 1 ≤ p := by omega
  have hp2 : p ≤ 256 := by omega
  obtain ⟨i1, i2⟩ := inv_ok hp h (hv.1 c)
  have hI : invI p (v c) = ((invN p (v c) : Nat) : Int) := if_pos i1
  have e : clq W p v c = addW W p z0 v (invI p (v c)) := vec_congr fun y hy => cg_of_eq (by rw [bz_z0, Int.zero_add])
  have hb : ∀ y, y < W → bz (clq W p v c) y = invI p (v c) * bz v y % p := by
    intro y hy
    rw [e, bz_add hp1 hp2 hy, bz_z0, Int.zero_add]
  have h1 : bz (clq W p v c) c = 1 := by
    rw [hb c hc, hI]; exact i2
  have hvp : Vp W p (clq W p v c) := by rw [e]; exact Vp.add hp1 hp2
  refine ⟨hvp, bz_inj h1, ?_, e, ?_⟩
  · intro y hy
    by_cases hw : y < W
    · apply bz_eq0.1
      rw [hb y hw, bz_eq0.2 hy, Int.mul_zero]; exact Int.zero_emod p
    · exact hvp.2 y (by omega)
  · refine hv.ext (Vp.add hp1 hp2) fun x hx => cg.symm ((cg_add' hp1 hp2 hx).trans ?_)
    rw [bz_z0, Int.zero_add, hb x hx]
    refine (cg_mul cg.rfl' cg_mod).trans ?_
    have h5 : cg p (invI p (v c) * bz v c) 1 := by
      unfold cg
      rw [show invI p (v c) * bz v c % p = 1 from by rw [hI]; exact i2, Int.emod_eq_of_lt (by omega) (by omega)]
    refine cg.trans (cg_of_eq ?_) ((cg_mul h5 cg.rfl').trans (cg_of_eq (Int.one_mul (bz v x))))
    grind
theorem clj_add (hp : 1 ≤ p) (hp2 : p ≤ 256) {q v : By} {c : Nat} (hv : Vp W p v) : clj W p q v c = addW W p v q (-(bz v c)) := by
  unfold clj
  split
  · rename_i h
    rw [bz_eq0.2 h, Int.neg_zero, add_0 hp hp2 hv]
  · rfl
theorem clj_at (hp : 1 ≤ p) (hp2 : p ≤ 256) {q v : By} {c y : Nat} (hv : Vp W p v) (hq : q y = 0) : clj W p q v c y = v y := by
  rw [clj_add hp hp2 hv]
  by_cases hy : y < W
  · apply bz_inj
    show bz _ y = bz v y
    rw [bz_add hp hp2 hy, bz_eq0.2 hq, Int.mul_zero, Int.add_zero]
    have := hv.1 y
    exact Int.emod_eq_of_lt (by unfold bz; omega) this
  · rw [(Vp.add hp hp2).2 y (by omega), hv.2 y (by omega)]
theorem clj_0 (hp : 2 ≤ p) (hp2 : p ≤ 256) {q v : By} {c : Nat} (hc : c < W) (hv : Vp W p v) (hq : q c = 1) : clj W p q v c c = 0 := by
  rw [clj_add (by omega) hp2 hv]
  apply bz_eq0.1
  rw [bz_add (by omega) hp2 hc, show bz q c = 1 from one_bz hq, Int.mul_one, Int.add_right_neg]
  exact Int.zero_emod p

/-- what holds ahead of column i -/
structure SolP (W : Nat) (p : Int) (R L : List By) (C : List Nat) (i : Nat) : Prop where
  len : L.length = R.length
  vp : ∀ r ∈ L, Vp W p r
  sp : SpE W p L R
  cl : C.length ≤ L.length
  ci : ∀ a, a < C.length → C.getD a 0 < i
  cs : ∀ a b, a < b → b < C.length → C.getD a 0 < C.getD b 0
  one : ∀ a, a < C.length → L.getD a z0 (C.getD a 0) = 1
  lo : ∀ a, a < C.length → ∀ y, y < C.getD a 0 → L.getD a z0 y = 0
  z : ∀ a, a < C.length → ∀ b, b < L.length → b ≠ a → L.getD b z0 (C.getD a 0) = 0
  r : ∀ b, C.length ≤ b → b < L.length → ∀ y, y < i → L.getD b z0 y = 0

theorem SolP.stay {R L : List By} {C : List Nat} {i : Nat} (h : SolP W p R L C i) (h0 : ∀ j, j < L.length - C.length → L.getD (C.length + j) z0 i = 0) : SolP W p R L C (i + 1) := by
  refine ⟨h.len, h.vp, h.sp, h.cl, fun a ha => by have := h.ci a ha; omega, h.cs, h.one, h.lo, h.z, fun b hb hb2 y hy => ?_⟩
  rcases Nat.eq_or_lt_of_le (Nat.lt_succ_iff.1 hy) with e | e
  · subst e
    have := h0 (b - C.length) (by omega)
    rwa [show C.length + (b - C.length) = b by omega] at this
  · exact h.r b hb hb2 y e

theorem swL_mem {α : Type} {z : α} {L : List α} {i j : Nat} (hi : i < L.length) (hj : j < L.length) {x : α} : x ∈ swL z L i j ↔ x ∈ L := (swL_perm hi hj).mem_iff

theorem getD_app1 {C : List Nat} {c a : Nat} (h : a < C.length) : (C ++ [c]).getD a 0 = C.getD a 0 := by
  simp only [List.getD_eq_getElem?_getD]; rw [List.getElem?_append_left h]
theorem getD_app2 {C : List Nat} {c : Nat} : (C ++ [c]).getD C.length 0 = c := by
  simp only [List.getD_eq_getElem?_getD]; rw [List.getElem?_append_right (Nat.le_refl _)]; simp

theorem SolP.step (hp : Pr p) {R L : List By} {C : List Nat} {i k : Nat} (hi : i < W) (h : SolP W p R L C i) (hk : k < L.length - C.length) (hn : L.getD (C.length + k) z0 i ≠ 0) :
    SolP W p R (clr W p (swL z0 L C.length (C.length + k)) C.length i) (C ++ [i]) (i + 1) := by
  have h2 := hp.1
  have h3 := hp.2.1
  have hp1 : 1 ≤ p := by omega
  have hp2 : p ≤ 256 := by omega
  have hd : C.length < L.length := by omega
  have hdk : C.length + k < L.length := by omega
  generalize hL1 : swL z0 L C.length (C.length + k) = L1
  have hlen1 : L1.length = L.length := by rw [← hL1, swL_len]
  have hat : ∀ x, L1.getD x z0 = if x = C.length + k then L.getD C.length z0 else if x = C.length then L.getD (C.length + k) z0 else L.getD x z0 := by
    intro x; rw [← hL1, swL_at hd hdk]
  have hvp1 : ∀ r ∈ L1, Vp W p r := fun r hr => h.vp r ((swL_mem hd hdk).1 (by rw [hL1]; exact hr))
  have hd1 : L1.getD C.length z0 = L.getD (C.length + k) z0 := by
    rw [hat]; split
    · rename_i e; rw [← e]
    · rw [if_pos rfl]
  -- rows of the new list that came from behind have zeros ahead of i
  have hr1 : ∀ b, C.length ≤ b → b < L.length → ∀ y, y < i → L1.getD b z0 y = 0 := by
    intro b hb hb2 y hy
    rw [hat]
    split
    · exact h.r _ (Nat.le_refl _) hd y hy
    · split
      · exact h.r _ (by omega) hdk y hy
      · exact h.r b hb hb2 y hy
  have hfr : ∀ b, b < C.length → L1.getD b z0 = L.getD b z0 := by
    intro b hb
    rw [hat, if_neg (by omega), if_neg (by omega)]
  have hz1 : ∀ a, a < C.length → ∀ b, b < L.length → b ≠ a → L1.getD b z0 (C.getD a 0) = 0 := by
    intro a ha b hb hn
    rcases Nat.lt_or_ge b C.length with h' | h'
    · rw [hfr b h']; exact h.z a ha b hb hn
    · exact hr1 b h' hb _ (h.ci a ha)
  have hvd : Vp W p (L1.getD C.length z0) := hvp1 _ (getD_mem (by omega))
  have hnz : L1.getD C.length z0 i ≠ 0 := by rw [hd1]; exact hn
  obtain ⟨q1, q2, q3, q4, q5⟩ := clq_ok hp hi hvd hnz
  generalize hq : clq W p (L1.getD C.length z0) i = q at q1 q2 q3 q4 q5
  have hq0 : ∀ y, y < i → q y = 0 := fun y hy => q3 y (hr1 _ (Nat.le_refl _) hd y hy)
  have hN : ∀ j, j < L.length → (clr W p L1 C.length i).getD j z0 = if j = C.length then q else clj W p q (L1.getD j z0) i := by
    intro j hj
    rw [clr_at (by omega)]
    unfold clR
    rw [hq]
  have hvj : ∀ j, j < L.length → Vp W p (L1.getD j z0) := fun j hj => hvp1 _ (getD_mem (by omega))
  have hvN : ∀ j, j < L.length → Vp W p ((clr W p L1 C.length i).getD j z0) := by
    intro j hj
    rw [hN j hj]
    split
    · exact q1
    · rw [clj_add hp1 hp2 (hvj j hj)]; exact Vp.add hp1 hp2
  have hmem : ∀ r ∈ clr W p L1 C.length i, ∃ j, j < L.length ∧ r = (clr W p L1 C.length i).getD j z0 := by
    intro r hr
    obtain ⟨j, hj, rfl⟩ := List.mem_iff_getElem.1 hr
    rw [clr_len, hlen1] at hj
    exact ⟨j, hj, by simp [List.getD_eq_getElem?_getD, clr_len, hlen1, hj]⟩
  have hmem1 : ∀ r ∈ L1, ∃ j, j < L.length ∧ r = L1.getD j z0 := by
    intro r hr
    obtain ⟨j, hj, rfl⟩ := List.mem_iff_getElem.1 hr
    exact ⟨j, by omega, by simp [List.getD_eq_getElem?_getD, hj]⟩
  have hin : ∀ j, j < L.length → (clr W p L1 C.length i).getD j z0 ∈ clr W p L1 C.length i := fun j hj => getD_mem (by rw [clr_len]; omega)
  have hsq : Sp' W p L1 q := by rw [q4]; exact .a .z (getD_mem (by omega))
  have hsq' : Sp' W p (clr W p L1 C.length i) q := by
    have := hin _ hd
    rw [hN _ hd, if_pos rfl] at this
    exact .mem hp1 hp2 this q1
  refine ⟨by rw [clr_len, hlen1]; exact h.len, ?_, ?_, ?_, ?_, ?_, ?_, ?_, ?_, ?_⟩
  · intro r hr
    obtain ⟨j, hj, rfl⟩ := hmem r hr
    exact hvN j hj
  · refine SpE.trans (SpE.of hp1 hp2 (M := L1) ?_ ?_) (SpE.trans (SpE.of hp1 hp2 ?_ ?_) h.sp)
    · intro r hr
      obtain ⟨j, hj, rfl⟩ := hmem r hr
      rw [hN j hj]
      split
      · exact hsq
      · rw [clj_add hp1 hp2 (hvj j hj)]
        exact (Sp'.mem hp1 hp2 (getD_mem (by omega)) (hvj j hj)).add hp1 hp2 hsq
    · intro r hr
      obtain ⟨j, hj, rfl⟩ := hmem1 r hr
      by_cases e : j = C.length
      · rw [e, q5]
        exact Sp'.z.add hp1 hp2 hsq'
      · have h1 := Sp'.mem hp1 hp2 (hin j hj) (hvN j hj)
        have h4 := h1.add hp1 hp2 (k := bz (L1.getD j z0) i) hsq'
        rw [hN j hj, if_neg e, clj_add hp1 hp2 (hvj j hj)] at h4
        have e2 : addW W p (addW W p (L1.getD j z0) q (-(bz (L1.getD j z0) i))) q (bz (L1.getD j z0) i) = L1.getD j z0 := by
          refine (Vp.add hp1 hp2).ext (hvj j hj) fun x hx => ?_
          refine (cg_add' hp1 hp2 hx).trans ((cg_add (cg_add' hp1 hp2 hx) cg.rfl').trans (cg_of_eq ?_))
          grind
        rwa [e2] at h4
    · intro r hr
      have := (swL_mem (z := z0) hd hdk).1 (by rw [hL1]; exact hr)
      exact .mem hp1 hp2 this (h.vp r this)
    · intro r hr
      have := (swL_mem (z := z0) hd hdk).2 hr
      rw [hL1] at this
      exact .mem hp1 hp2 this (hvp1 r this)
  · rw [clr_len, hlen1]; simp; omega
  · intro a ha
    rw [List.length_append, List.length_singleton] at ha
    rcases Nat.lt_or_ge a C.length with h' | h'
    · rw [getD_app1 h']; have := h.ci a h'; omega
    · obtain rfl : a = C.length := by omega
      rw [getD_app2]; omega
  · intro a b hab hb
    rw [List.length_append, List.length_singleton] at hb
    rcases Nat.lt_or_ge b C.length with h' | h'
    · rw [getD_app1 h', getD_app1 (by omega)]; exact h.cs a b hab h'
    · obtain rfl : b = C.length := by omega
      rw [getD_app2, getD_app1 hab]; exact h.ci a hab
  · intro a ha
    rw [List.length_append, List.length_singleton] at ha
    rw [hN a (by omega)]
    rcases Nat.lt_or_ge a C.length with h' | h'
    · rw [if_neg (by omega), getD_app1 h', clj_at hp1 hp2 (hvj a (by omega)) (hq0 _ (h.ci a h')), hfr a h']
      exact h.one a h'
    · obtain rfl : a = C.length := by omega
      rw [if_pos rfl, getD_app2]; exact q2
  · intro a ha y hy
    rw [List.length_append, List.length_singleton] at ha
    rw [hN a (by omega)]
    rcases Nat.lt_or_ge a C.length with h' | h'
    · rw [getD_app1 h'] at hy
      rw [if_neg (by omega), clj_at hp1 hp2 (hvj a (by omega)) (hq0 _ (by have := h.ci a h'; omega)), hfr a h']
      exact h.lo a h' y hy
    · obtain rfl : a = C.length := by omega
      rw [getD_app2] at hy
      rw [if_pos rfl]; exact hq0 y hy
  · intro a ha b hb hne
    rw [List.length_append, List.length_singleton] at ha
    rw [clr_len, hlen1] at hb
    rw [hN b hb]
    rcases Nat.lt_or_ge a C.length with h' | h'
    · rw [getD_app1 h']
      split
      · exact hq0 _ (h.ci a h')
      · rw [clj_at hp1 hp2 (hvj b hb) (hq0 _ (h.ci a h'))]
        exact hz1 a h' b hb hne
    · obtain rfl : a = C.length := by omega
      rw [getD_app2, if_neg hne]
      exact clj_0 h2 hp2 hi (hvj b hb) q2
  · intro b hb hb2 y hy
    rw [List.length_append, List.length_singleton] at hb
    rw [clr_len, hlen1] at hb2
    rw [hN b hb2, if_neg (by omega)]
    rcases Nat.eq_or_lt_of_le (Nat.lt_succ_iff.1 hy) with e | e
    · rw [e]; exact clj_0 h2 hp2 hi (hvj b hb2) q2
    · rw [clj_at hp1 hp2 (hvj b hb2) (hq0 y e)]
      exact hr1 b (by omega) hb2 y e

theorem solP (hp : Pr p) {R : List By} (hR : ∀ r ∈ R, Vp W p r) : ∀ {i : Nat}, i ≤ W → ∃ C : List Nat, (solT W p R i).2 = C.map (fun c : Nat => (c : Int)) ∧ SolP W p R (solT W p R i).1 C i
  | 0, _ => ⟨[], rfl, rfl, hR, SpE.rfl', by simp, by simp, by simp, by simp, by simp, by simp, fun b hb hb2 y hy => by omega⟩
  | i + 1, hi => by
    obtain ⟨C, hC, h⟩ := @solP hp R hR i (by omega)
    rw [solT_succ]
    have hl : (solT W p R i).2.length = C.length := by rw [hC]; simp
    unfold solS
    rw [hl]
    rcases @firstQ_or (fun j => (solT W p R i).1.getD (C.length + j) z0 i != 0) ((solT W p R i).1.length - C.length) with ⟨e, h0⟩ | ⟨k, hk, e, h0, -⟩
    · rw [e, if_pos (by omega)]
      exact ⟨C, hC, h.stay fun j hj => by simpa using h0 j hj⟩
    · rw [e, if_neg (by omega), Int.toNat_natCast]
      refine ⟨C ++ [i], by rw [hC]; simp, h.step hp hi hk (by simpa using h0)⟩

/-- the rows done are reduced -/
theorem SolP.rr {R L : List By} {C : List Nat} {i : Nat} (hiW : i ≤ W) (h : SolP W p R L C i) : RR W p (L.take C.length) ∧ ∀ a, a < C.length → fstW W (L.getD a z0) = C.getD a 0 := by
  have hf : ∀ a, a < C.length → fstW W (L.getD a z0) = C.getD a 0 := fun a ha =>
    fstW_eq (by have := h.ci a ha; omega) (by rw [h.one a ha]; decide) (h.lo a ha)
  have hmem : ∀ r ∈ L.take C.length, ∃ a, a < C.length ∧ r = L.getD a z0 := by
    intro r hr
    obtain ⟨a, ha, rfl⟩ := List.mem_iff_getElem.1 hr
    rw [List.length_take] at ha
    exact ⟨a, by omega, by simp [List.getD_eq_getElem?_getD, show a < L.length by omega]⟩
  refine ⟨⟨?_, ?_, ?_⟩, hf⟩
  · intro r hr; exact h.vp r (List.mem_of_mem_take hr)
  · intro r hr
    obtain ⟨a, ha, rfl⟩ := hmem r hr
    rw [hf a ha]
    exact ⟨by have := h.ci a ha; omega, h.one a ha⟩
  · rw [List.pairwise_iff_getElem]
    intro a b ha hb hab
    rw [List.length_take] at ha hb
    have ea : (L.take C.length)[a] = L.getD a z0 := by simp [List.getD_eq_getElem?_getD, show a < L.length by omega]
    have eb : (L.take C.length)[b] = L.getD b z0 := by simp [List.getD_eq_getElem?_getD, show b < L.length by omega]
    rw [ea, eb, hf a (by omega), hf b (by omega)]
    exact ⟨h.cs a b hab (by omega), h.z b (by omega) a (by omega) (by omega)⟩
end
end Hf
namespace Hf
open Go Classical
section
variable {W W' m : Nat} {p : Int}
theorem Vp.mono (hW : W ≤ W') {v : By} (h : Vp W p v) : Vp W' p v := ⟨h.1, fun x hx => h.2 x (by omega)⟩
theorem addW_w (hW : W ≤ W') {u w : By} {k : Int} (hu : Vp W p u) (hw : Vp W p w) : addW W' p u w k = addW W p u w k :=
  (vec_more hW fun y hy _ => by rw [bz_eq0.2 (hu.2 y hy), bz_eq0.2 (hw.2 y hy)]; simp).symm
theorem Sp'.w1 (hp : 1 ≤ p) (hp2 : p ≤ 256) (hW : W ≤ W') {L : List By} (hL : ∀ v ∈ L, Vp W p v) {v : By} (h : Sp' W' p L v) : Sp' W p L v := by
  induction h with
  | z => exact .z
  | a h1 h2 ih => rw [addW_w hW (ih.vp hp hp2) (hL _ h2)]; exact .a ih h2
theorem Sp'.w2 (hp : 1 ≤ p) (hp2 : p ≤ 256) (hW : W ≤ W') {L : List By} (hL : ∀ v ∈ L, Vp W p v) {v : By} (h : Sp' W p L v) : Sp' W' p L v := by
  induction h with
  | z => exact .z
  | a h1 h2 ih => rw [← addW_w hW (h1.vp hp hp2) (hL _ h2)]; exact .a ih h2
theorem fstW_w (hW : W ≤ W') {v : By} (hv : ∀ x, W ≤ x → v x = 0) (h : v ≠ z0) : fstW W' v = fstW W v := by
  have h1 := fst_nz hv h
  exact fstW_eq (by omega) (fstW_ne h1) fun y hy => fstW_lt hy
theorem RR.w (hp : 1 ≤ p) (hW : W ≤ W') {L : List By} (hL : ∀ v ∈ L, Vp W p v) (h : RR W' p L) : RR W p L := by
  have hf : ∀ v ∈ L, fstW W' v = fstW W v := fun v hv => fstW_w hW (hL v hv).2 (h.nz hv)
  refine ⟨hL, fun r hr => ?_, ?_⟩
  · have := h.ld r hr
    rw [hf r hr] at this
    exact ⟨fst_nz (hL r hr).2 (h.nz hr), this.2⟩
  · refine List.Pairwise.imp_of_mem ?_ h.st
    intro a b ha hb hab
    rw [hf a ha, hf b hb] at hab
    exact hab
/-- a system whose right sides are 0 -/
theorem sol_rr (hp : Pr p) {R : List By} (hR : ∀ v ∈ R, Vp m p v) : ∃ C : List Nat, (solT (m + 1) p R m).2 = C.map (fun c : Nat => (c : Int)) ∧ SolP (m + 1) p R (solT (m + 1) p R m).1 C m ∧ (∀ v ∈ (solT (m + 1) p R m).1, Vp m p v) ∧ (∀ b, C.length ≤ b → (solT (m + 1) p R m).1.getD b z0 = z0) ∧
    RR m p ((solT (m + 1) p R m).1.take C.length) ∧ SpE m p ((solT (m + 1) p R m).1.take C.length) R ∧ ∀ a, a < C.length → fstW m ((solT (m + 1) p R m).1.getD a z0) = C.getD a 0 := by
  have h2 := hp.1
  have h3 := hp.2.1
  have hp1 : 1 ≤ p := by omega
  have hp2 : p ≤ 256 := by omega
  obtain ⟨C, hC, h⟩ := solP (W := m + 1) hp (R := R) (fun r hr => (hR r hr).mono (by omega)) (i := m) (by omega)
  have hv : ∀ v ∈ (solT (m + 1) p R m).1, Vp m p v := by
    intro v hv
    have h1 := (h.sp v).1 (.mem hp1 hp2 hv (h.vp v hv))
    exact (h1.w1 hp1 hp2 (by omega) hR).vp hp1 hp2
  have hz : ∀ b, C.length ≤ b → (solT (m + 1) p R m).1.getD b z0 = z0 := by
    intro b hb
    rcases Nat.lt_or_ge b (solT (m + 1) p R m).1.length with hb2 | hb2
    · funext y
      rcases Nat.lt_or_ge y m with hy | hy
      · exact h.r b hb hb2 y hy
      · exact (hv _ (getD_mem hb2)).2 y hy
    · rw [List.getD_eq_getElem?_getD, List.getElem?_eq_none hb2]; rfl
  obtain ⟨r1, r2⟩ := h.rr (by omega)
  have hvt : ∀ v ∈ (solT (m + 1) p R m).1.take C.length, Vp m p v := fun v hv' => hv v (List.mem_of_mem_take hv')
  have rrm := r1.w hp1 (by omega : m ≤ m + 1) hvt
  refine ⟨C, hC, h, hv, hz, rrm, SpE.of hp1 hp2 ?_ ?_, ?_⟩
  · intro r hr
    have hr' := List.mem_of_mem_take hr
    exact ((h.sp r).1 (.mem hp1 hp2 hr' (h.vp r hr'))).w1 hp1 hp2 (by omega) hR
  · intro r hr
    have h4 := ((h.sp r).2 (.mem hp1 hp2 hr ((hR r hr).mono (by omega)))).w1 hp1 hp2 (by omega) hv
    refine h4.sub hp1 hp2 ?_
    intro q hq
    obtain ⟨j, hj, rfl⟩ := List.mem_iff_getElem.1 hq
    have ej : (solT (m + 1) p R m).1[j] = (solT (m + 1) p R m).1.getD j z0 := by simp [List.getD_eq_getElem?_getD, hj]
    rcases Nat.lt_or_ge j C.length with h' | h'
    · have hm : (solT (m + 1) p R m).1[j] ∈ (solT (m + 1) p R m).1.take C.length := by
        rw [List.mem_take_iff_getElem]
        exact ⟨j, by omega, rfl⟩
      exact .mem hp1 hp2 hm (hvt _ hm)
    · rw [ej, hz j h']; exact .z
  · intro a ha
    have := r2 a ha
    have hm : (solT (m + 1) p R m).1.getD a z0 ∈ (solT (m + 1) p R m).1.take C.length := by
      rw [List.mem_take_iff_getElem]
      have := h.cl
      exact ⟨a, by omega, by simp [List.getD_eq_getElem?_getD, show a < (solT (m + 1) p R m).1.length by omega]⟩
    rw [← fstW_w (by omega : m ≤ m + 1) (hvt _ hm).2 (rrm.nz hm)]
    exact this
theorem sol_red (hp : Pr p) {L : List By} (hL : ∀ v ∈ L, Vp 8 p v) : (solT 9 p L 8).1.take (solT 9 p L 8).2.length = redL p L := by
  have h2 := hp.1
  have h3 := hp.2.1
  obtain ⟨C, hC, -, -, -, h4, h5, -⟩ := sol_rr (m := 8) hp hL
  obtain ⟨r1, r2⟩ := redL_rr hp hL
  have hl : (solT 9 p L 8).2.length = C.length := by
    have := congrArg List.length hC
    simpa using this
  rw [hl]
  exact h4.unique (by omega) (by omega) r1 (h5.trans r2.symm)
end
/-! ### a new row -/
/-- a row that may be written on behind: its block is none of the first m -/
def RowC (m : Nat) (H : List Blk) (n : Nat) (a : At) (v : By) : Prop := ∃ k cap N f, a = .sl k 0 n cap ∧ H[k]? = some ⟨false, .by [] N f⟩ ∧ (cap ≤ N ∧ n ≤ cap ∧ m ≤ k) ∧ ∀ x, x < n → f x = v x
theorem RowC.row {m : Nat} {H : List Blk} {n : Nat} {a : At} {v : By} (h : RowC m H n a v) : RowB H n a v := by
  obtain ⟨k, cap, N, f, h1, h2, h3, h4⟩ := h
  exact ⟨k, cap, N, f, h1, h2, by omega, h4⟩
theorem RowC.ge {m : Nat} {H : List Blk} {n : Nat} {a : At} {v : By} (h : RowC m H n a v) : m ≤ blkOf a := by
  obtain ⟨k, cap, N, f, rfl, h2, h3, h4⟩ := h
  exact h3.2.2
theorem RowC.mono {m m' : Nat} {H : List Blk} {n : Nat} {a : At} {v : By} (h : RowC m H n a v) (hm : m' ≤ m) : RowC m' H n a v := by
  obtain ⟨k, cap, N, f, h1, h2, h3, h4⟩ := h
  exact ⟨k, cap, N, f, h1, h2, by omega, h4⟩
theorem RowC.ext {m : Nat} {H H' : List Blk} {n : Nat} {a : At} {v : By} (h : RowC m H n a v) (e : Ext H H') : RowC m H' n a v := by
  obtain ⟨k, cap, N, f, h1, h2, h3, h4⟩ := h
  exact ⟨k, cap, N, f, h1, e _ _ h2, h3, h4⟩
theorem rowc_app {m : Nat} {H : List Blk} {n M : Nat} {a b : At} {v g : By} (h : RowC m H n a v) (hb : rdB H 1 b M g) (hl : n + M ≤ 1000000) (hm : m ≤ H.length) :
    apB 1 1 H a b fun a' H' => RowC m H' (n + M) a' (fun x => if x < n then v x else g (x - n)) ∧ Upto m H H' ∧ H.length ≤ H'.length := by
  obtain ⟨k, cap, N, f, rfl, hk, ⟨h1, h2, h3⟩, h4⟩ := h
  refine ⟨M, g, N, f, hb, hk, ⟨by omega, h2, by omega, by omega⟩, fun hc => ⟨⟨k, cap, N, _, by simp, set_same hk, ⟨h1, hc, h3⟩, fun x hx => ?_⟩, fun j B hj e => set_other e (by omega), by simp⟩,
    fun hc cap' hcap => ⟨⟨H.length, cap', _, _, rfl, get_new, ⟨by omega, hcap, hm⟩, fun x hx => ?_⟩, fun j B hj e => app_old e, by simp⟩⟩
  · simp only [spl, Nat.zero_add, Nat.mul_one]
    by_cases hx' : x < n
    · rw [if_neg (by omega), if_pos hx']; exact h4 x hx'
    · rw [if_pos (by omega), if_neg hx']
  · simp only [apf, Nat.mul_one]
    by_cases hx' : x < n
    · rw [if_pos (by omega), if_pos hx', ← h4 x hx']; simp [sh]
    · rw [if_neg (by omega), if_pos (by omega), if_neg hx']
/-- a system with one more row -/
theorem sy_add {m0 : Nat} {G0 G6 G7 : List Blk} {s : Nat} {p n0 : Int} {m : Nat} {R : List By} {T : List Int} {ra pa ra' x : At} {As : List At} {v : By} (hs : G0[s]? = some (sysB p n0 m ra pa)) (hra : Spn G0 ra As) (hR : Rows G0 (m + 1) As R) (hpa : Spn G0 pa (T.map (At.i .i64)))
    (hnd : (OwnT s ra As pa).Nodup) (hge : ∀ k ∈ OwnT s ra As pa, m0 ≤ k) (hm : m0 ≤ G0.length) (e : Ext G0 G6) (hx : RowC G0.length G6 (m + 1) x v) (hsp : Spn G7 ra' (As ++ [x])) (hf : Fr (spB ra) G6 G7) (hb : ∀ k ∈ spB ra', k ∈ spB ra ∨ k = G6.length) :
    G7[s]? = some (sysB p n0 m ra pa) ∧ SY m0 (G7.set s (sysB p n0 m ra' pa)) s p n0 m (R ++ [v]) T ∧ Fr (s :: spB ra) G0 (G7.set s (sysB p n0 m ra' pa)) := by
  have hlt : ∀ k ∈ OwnT s ra As pa, k < G0.length := by
    intro k hk
    simp only [OwnT, List.mem_cons, List.mem_append] at hk
    rcases hk with rfl | hk | hk | hk
    · exact lt_of hs
    · exact hpa.lt.2 k hk
    · exact hra.lt.2 k hk
    · exact hR.blt k hk
  have hxg := hx.ge
  have hxl : blkOf x < G6.length := by
    obtain ⟨k, cap, N, f, rfl, h2, -⟩ := hx
    exact lt_of h2
  have hel := e.len
  have hnr : ∀ k, k = s ∨ k ∈ spB pa ∨ k ∈ As.map blkOf ∨ k = blkOf x → k ∉ spB ra := by
    intro k hk hq
    have hq' := hlt k (by simp [OwnT, hq])
    have nd := hnd
    simp only [OwnT, List.nodup_cons, List.nodup_append, List.mem_cons, List.mem_append, not_or] at nd
    grind
  have hs7 := hf _ _ (hnr s (.inl rfl)) (e _ _ hs)
  have f1 : Fr [s] G7 (G7.set s (sysB p n0 m ra' pa)) := fun k B hk e => set_other e (by intro q; exact hk (by simp [q]))
  have hn' := spB_nd ra'
  have nd' : (OwnT s ra' (As ++ [x]) pa).Nodup ∧ ∀ k ∈ OwnT s ra' (As ++ [x]) pa, m0 ≤ k := by
    have nd := hnd
    have ge := hge
    have hl := hlt
    unfold OwnT at nd ge hl ⊢
    rw [List.map_append]
    simp only [List.nodup_cons, List.nodup_append, List.mem_cons, List.mem_append, not_or, List.map_cons, List.map_nil, List.not_mem_nil, or_false] at nd ge hl ⊢
    constructor <;> grind
  have hns : ∀ k, k ∈ spB pa ∨ k ∈ spB ra' ∨ k ∈ (As ++ [x]).map blkOf → k ∉ [s] := by
    intro k hk hq
    have nd := nd'.1
    simp only [OwnT, List.nodup_cons, List.mem_append, not_or] at nd
    simp at hq
    subst hq
    rcases hk with hk | hk | hk
    · exact nd.1.1 hk
    · exact nd.1.2.1 hk
    · exact nd.1.2.2 hk
  refine ⟨hs7, ⟨ra', As ++ [x], pa, set_same hs7, hsp.fr f1 fun k hk => hns k (.inr (.inl hk)), ?_, ?_, nd'.1, nd'.2⟩, ?_⟩
  · have h1 := ((hR.fr (l := []) e.fr (by simp)).fr hf fun k hk => hnr k (by simp only [hk]; simp)).fr f1 fun k hk => hns k (.inr (.inr (by rw [List.map_append]; exact List.mem_append_left _ hk)))
    have h2 := ((hx.row.fr hf (hnr _ (by simp))).fr f1 (hns _ (.inr (.inr (by simp)))))
    have hA := hR.1
    refine ⟨by simp [hA], fun i hi => ?_⟩
    rw [List.length_append, List.length_singleton] at hi
    by_cases hi' : i < As.length
    · have e1 : (As ++ [x]).getD i .sn = As.getD i .sn := by simp only [List.getD_eq_getElem?_getD]; rw [List.getElem?_append_left hi']
      rw [e1, getD_app, if_pos (by omega)]
      exact h1.2 i hi'
    · obtain rfl : i = As.length := by omega
      have e1 : (As ++ [x]).getD As.length .sn = x := by simp only [List.getD_eq_getElem?_getD]; rw [List.getElem?_append_right (Nat.le_refl _)]; simp
      rw [e1, getD_app, if_neg (by omega), hA, Nat.sub_self]
      exact h2
  · exact ((hpa.fr (l := []) e.fr (by simp)).fr hf fun k hk => hnr k (by simp [hk])).fr f1 fun k hk => hns k (by simp [hk])
  · intro k B hk e'
    simp only [List.mem_cons, not_or] at hk
    exact f1 _ _ (by simpa using hk.1) (hf _ _ hk.2 (e _ _ e'))
theorem SY.len {m0 : Nat} {H : List Blk} {s m : Nat} {p n0 : Int} {R : List By} {T : List Int} (h : SY m0 H s p n0 m R T) : s < H.length := by
  obtain ⟨ra, As, pa, h, -⟩ := h; exact lt_of h
end Hf
namespace Hf
open Go Classical
variable {P : Program} {ρ : Nat → FuncId}
theorem i_system_solve_ok (B : Bs P ρ) (E : F_i_system_solve P ρ) {m0 : Nat} {H : List Blk} {s m : Nat} {p n0 : Int} {R : List By} {T0 : List Int} (hp : 1 ≤ p) (hp2 : p ≤ 256) (hm : m ≤ 100000) (hS : SY m0 H s p n0 m R T0) (hlen : R.length ≤ 1000000) (hm0 : m0 ≤ H.length) :
    CallR P ρ 287 [.pt s 0] H (fun u G => u = .one (.b (solOK (m + 1) p R m)) ∧ SY m0 G s p n0 m ((solT (m + 1) p R m).1.take (solT (m + 1) p R m).2.length) (solT (m + 1) p R m).2 ∧ Upto m0 H G) := by
  obtain ⟨ra0, As0, pa0, hs0, hra0, hR0, hpa0, hnd0, hge0⟩ := hS
  refine call_of_q B.fn B.mo E.1 rfl (fun hAr hHp => ?_) (by simp [At.lt, lt_of hs0])
  refine ⟨H.length, rfl, ?_⟩
  refine ⟨_, _, get_new, rfl, ?_⟩
  refine ⟨_, _, _, app_old hs0, cput_rw (by simp) rfl, eqBk_rfl, ?_⟩
  refine ⟨_, rfl, ?_⟩
  refine ⟨_, _, _, get_new, cput_vr rfl, eqBk_rfl, ?_⟩
  obtain ⟨hI0, hK0, hU0⟩ := solve_start (B := ⟨false, .vr (.i .i64 ((0 : Nat) : Int))⟩) hs0 hra0 hR0 hpa0 hnd0 hge0 hm0
  refine ⟨At × List At × At × Nat × Nat, (fun a1 (i0 : Nat) (x0 : At × List At × At × Nat × Nat) => match x0 with | ⟨ra, As, pa, cb, d⟩ => [(1, a1), (3, .one (.i .i64 ((d : Nat) : Int))), (4, .one (.pt cb 0))]) _ , fun (i0 : Nat) (x0 : At × List At × At × Nat × Nat) (G0 : List Blk) => match x0 with | ⟨ra, As, pa, cb, d⟩ => (SolI m0 H.length s p n0 m (solT (m + 1) p R i0).1 (solT (m + 1) p R i0).2 G0 ra As pa ∧ G0[cb]? = some ⟨false, .vr (.i .i64 ((i0 : Nat) : Int))⟩ ∧ cb ∉ H.length :: OwnT s ra As pa ∧ m0 ≤ cb ∧ d = (solT (m + 1) p R i0).2.length ∧ Upto m0 H G0), m, ⟨⟨ra0, As0, .sn, _, 0⟩, ?_, ⟨rfl, rfl, rfl, trivial⟩⟩, ?_⟩
  · rw [app_set0]
    refine ⟨hI0, get_new, fun h => ?_, by simp; omega, rfl, hU0⟩
    have := hK0 _ h
    simp at this
  rintro i0 ⟨ra, As, pa, cb, d⟩ G0 hi0 ⟨hI, hcb, hcn, hc0, hd, hU⟩
  have hl := @solT_len (m + 1) p R i0
  have hAl := hI.frows.1
  refine ⟨_, _, hcb, rfl, ?_⟩
  refine ⟨_, _, hI.fkb, rfl, ?_⟩
  refine ⟨_, _, hI.fs, rfl, ?_⟩
  refine ⟨fun h16 => ?_, fun h16 => ?_⟩
  · replace h16 := of_decide_eq_true h16
    refine brB_t ?_
    refine ⟨_, _, hI.fkb, rfl, ?_⟩
    refine brB_t ?_
    refine brB_t ?_
    refine brB_t ?_
    refine ⟨_, _, hI.fs, rfl, ?_⟩
    refine brB_t ?_
    refine ⟨_, (hI.fra).len, ?_⟩
    refine brB_t ?_
    refine brB_t ?_
    refine ⟨fun h24 => ?_, fun h24 => ?_⟩
    · replace h24 := of_decide_eq_true h24
      subst hd
      have hd0 : (solT (m + 1) p R i0).2.length < R.length := by omega
      refine ⟨_, _, hI.fkb, rfl, ?_⟩
      refine ⟨_, _, hI.fs, rfl, ?_⟩
      obtain ⟨kr, cr, lr, rfl, hkr, ⟨hr1, hr2⟩, hr3⟩ := hI.fra.sl (by omega)
      obtain ⟨z, hz⟩ : ∃ z, firstQ (fun i => (solT (m + 1) p R i0).1.getD ((solT (m + 1) p R i0).2.length + i) z0 i0 != 0) (R.length - (solT (m + 1) p R i0).2.length) 0 = z := ⟨_, rfl⟩
      have hdl : (As.drop (solT (m + 1) p R i0).2.length).length = R.length - (solT (m + 1) p R i0).2.length := by simp; omega
      refine ⟨_, _, rfl, rfl, ⟨by omega, by omega⟩, ?_⟩
      refine ⟨_, x_IndexFunc_R_ok B E.2.2.1 (q := fun i => (solT (m + 1) p R i0).1.getD ((solT (m + 1) p R i0).2.length + i) z0 i0 != 0) (z := z) (by rw [hdl]; exact hz) (rdR_drop hkr ⟨hr1, hr2⟩ hr3 (by omega) _) (by simp [At.lt, lt_of hkr]) (by simp [At.lt, lt_of hcb]) (by omega) (fun i hi => by rw [drop_getD]; exact i_system_solve_1_ok B E.2.1 (hI.frows.at _ (by omega)) hcb (by omega)), ?_⟩
      rintro _ _ ⟨rfl, rfl⟩
      refine ⟨fun h36 => ?_, fun h36 => ?_⟩
      · replace h36 := of_decide_eq_true h36
        have hS : solT (m + 1) p R (i0 + 1) = solT (m + 1) p R i0 := by
          rw [solT_succ]; unfold solS
          rw [hl.1, hz, if_pos h36]
        refine ⟨_, _, hcb, rfl, ?_⟩
        refine ⟨_, rfl, ?_⟩
        refine ⟨_, _, _, get_new, cput_vr rfl, eqBk_rfl, ?_⟩
        refine ⟨_, _, set_same get_new, rfl, ?_⟩
        refine ⟨((i0 + 1 : Nat) : Int), w64_id _ (by omega) (by omega), ?_⟩
        refine ⟨_, _, _, set_same get_new, cput_vr rfl, eqBk_rfl, ?_⟩
        refine ⟨by omega, (.sl kr 0 As.length cr, As, pa, _, _), ?_, ⟨rfl, rfl, rfl, trivial⟩⟩
        dsimp only
        rw [app_set0, app_set0, hS]
        exact ⟨hI.ext Ext.app, get_new, fun h => absurd (hI.lt _ h) (by omega), by have := (hI.lt _ (List.mem_cons_self ..)); omega, rfl, hU.trans (Ext.app).upto⟩
      · replace h36 := of_decide_eq_false h36
        obtain ⟨k, hk, rfl⟩ : ∃ k, k < R.length - (solT (m + 1) p R i0).2.length ∧ z = (k : Int) := by
          rcases @firstQ_or (fun i => (solT (m + 1) p R i0).1.getD ((solT (m + 1) p R i0).2.length + i) z0 i0 != 0) (R.length - (solT (m + 1) p R i0).2.length) with ⟨e, -⟩ | ⟨k, hk, e, -⟩
          · omega
          · exact ⟨k, hk, by omega⟩
        have hS : solT (m + 1) p R (i0 + 1) = (clr (m + 1) p (swL z0 (solT (m + 1) p R i0).1 (solT (m + 1) p R i0).2.length ((solT (m + 1) p R i0).2.length + k)) (solT (m + 1) p R i0).2.length i0, (solT (m + 1) p R i0).2 ++ [(i0 : Int)]) := by
          rw [solT_succ]; unfold solS
          rw [hl.1, hz, if_neg h36, Int.toNat_natCast]
        refine ⟨_, _, hI.fkb, rfl, ?_⟩
        refine ⟨_, _, hI.fs, rfl, ?_⟩
        refine ⟨_, _, hI.fkb, rfl, ?_⟩
        refine ⟨_, _, hI.fs, rfl, ?_⟩
        refine ⟨(((solT (m + 1) p R i0).2.length + k : Nat) : Int), w64_id _ (by omega) (by omega), ?_⟩
        refine ⟨_, _, hI.fkb, rfl, ?_⟩
        refine ⟨_, _, hI.fs, rfl, ?_⟩
        refine ⟨(((solT (m + 1) p R i0).2.length + k : Nat) : Int), w64_id _ (by omega) (by omega), ?_⟩
        obtain ⟨k56, o56, n56, c56, q56, ea56, hl56, hq56, r56, l56, hk56, hi56⟩ := rdR_at (hI.fra.rd) (((solT (m + 1) p R i0).2.length + k)) (by omega)
        refine ⟨k56, o56, n56, c56, ((solT (m + 1) p R i0).2.length + k), q56, ea56, rfl, hl56, hq56, ?_⟩
        refine ⟨_, _, hk56, hi56, ?_⟩
        refine ⟨_, _, hI.fkb, rfl, ?_⟩
        refine ⟨_, _, hI.fs, rfl, ?_⟩
        obtain ⟨k63, o63, n63, c63, q63, ea63, hl63, hq63, r63, l63, hk63, hi63⟩ := rdR_at (hI.fra.rd) (((solT (m + 1) p R i0).2.length)) (by omega)
        refine ⟨k63, o63, n63, c63, ((solT (m + 1) p R i0).2.length), q63, ea63, rfl, hl63, hq63, ?_⟩
        refine ⟨_, _, hk63, hi63, ?_⟩
        have hca := (hI.frows.at ((solT (m + 1) p R i0).2.length + k) (by omega)).cell
        have hcb2 := (hI.frows.at (solT (m + 1) p R i0).2.length (by omega)).cell
        obtain ⟨k65, o65, n65, c65, q65, C65, ea65, hl65, hq65, hk65, hs65⟩ := Spn.st (hI.fra) (((solT (m + 1) p R i0).2.length)) (by omega)
        refine ⟨k65, o65, n65, c65, ((solT (m + 1) p R i0).2.length), q65, ea65, rfl, hl65, hq65, ?_⟩
        refine ⟨_, _, _, hk65, (hs65 _ hca).1, eqBk_rfl, ?_⟩
        obtain ⟨-, hsp1, hf1⟩ := hs65 _ hca
        obtain ⟨k66, o66, n66, c66, q66, C66, ea66, hl66, hq66, hk66, hs66⟩ := Spn.st (hsp1) (((solT (m + 1) p R i0).2.length + k)) (by rw [List.length_set]; omega)
        refine ⟨k66, o66, n66, c66, ((solT (m + 1) p R i0).2.length + k), q66, ea66, rfl, hl66, hq66, ?_⟩
        refine ⟨_, _, _, hk66, (hs66 _ hcb2).1, eqBk_rfl, ?_⟩
        obtain ⟨-, hsp2, hf2⟩ := hs66 _ hcb2
        have hI2 := hI.sw (i := (solT (m + 1) p R i0).2.length) (j := (solT (m + 1) p R i0).2.length + k) (by omega) (by omega) (hf1.trans hf2) hsp2
        have hcb3 := (hf1.trans hf2) _ _ (fun h => hcn (by simp [OwnT, h])) hcb
        refine ⟨_, _, hI2.fkb, rfl, ?_⟩
        refine ⟨_, _, hcb3, rfl, ?_⟩
        refine ⟨_, i_system_clear_ok B E.2.2.2.1 (d := (solT (m + 1) p R i0).2.length) (c := i0) hp hp2 hm hI2.fs hI2.fra hI2.frows (by have := hI2.nd; unfold OwnT at this; simp only [List.nodup_cons, List.nodup_append] at this; exact this.2.2.2.1.2.1) (by have := hI2.nd; unfold OwnT at this; simp only [List.nodup_cons, List.nodup_append, List.mem_append, not_or] at this; exact this.2.1.2.2) (fun k hk hq => by have := hI2.nd; unfold OwnT at this; simp only [List.nodup_cons, List.nodup_append] at this; exact this.2.2.2.1.2.2 k hk k hq rfl) (by rw [swL_len]; omega) (by rw [swL_len]; omega) (by omega), ?_⟩
        rintro _ G3 ⟨hc1, hc2⟩
        have hI3 := hI2.cl hc2 hc1
        have hcn2 : cb ∉ (swL At.sn As (solT (m + 1) p R i0).2.length ((solT (m + 1) p R i0).2.length + k)).map blkOf := by
          intro h
          refine hcn ?_
          have := ((swL_perm (z := At.sn) (L := As) (i := (solT (m + 1) p R i0).2.length) (j := (solT (m + 1) p R i0).2.length + k) (by omega) (by omega)).map blkOf).mem_iff.1 h
          unfold OwnT
          simp only [List.mem_cons, List.mem_append]
          exact .inr (.inr (.inr (.inr this)))
        have hcb4 := hc2 _ _ hcn2 hcb3
        refine ⟨_, _, hI3.fkb, rfl, ?_⟩
        refine ⟨_, _, hI3.fkb, rfl, ?_⟩
        refine ⟨_, _, hI3.fs, rfl, ?_⟩
        refine ⟨_, _, hcb4, rfl, ?_⟩
        refine ⟨_, rfl, ⟨kept1 hI3.fs (app_old hI3.fs), kept1 hI3.fkb (app_old hI3.fkb), kept1 hI3.fkb (app_old hI3.fkb), trivial⟩, ?_⟩
        refine ⟨_, spn_app (x := .i .i64 (i0 : Int)) (hI3.ext Ext.app).fpa ⟨false, _, get_new, by simp, rfl⟩ (by simp; omega) (by omega), ?_⟩
        rintro a78 G78 ⟨hp78, hf78, hb78, hl78⟩
        have hx3 : ∀ k, k = H.length ∨ k = s → k ∉ spB pa := by
          intro k hk hq
          have nd := hI3.nd
          simp only [OwnT, List.nodup_cons, List.nodup_append, List.mem_cons, List.mem_append, not_or] at nd
          grind
        have hkb78 := hf78 _ _ (hx3 _ (.inl rfl)) (app_old hI3.fkb)
        have hs78 := hf78 _ _ (hx3 _ (.inr rfl)) (app_old hI3.fs)
        refine ⟨⟨kept1 (app_old hI3.fs) hs78, kept1 (app_old hI3.fkb) hkb78, kept1 (app_old hI3.fkb) hkb78, trivial⟩, ?_⟩
        have hI4 := hI3.pl (T' := (solT (m + 1) p R i0).2 ++ [(i0 : Int)]) Ext.app hf78 (by rw [List.map_append]; exact hp78) (app_hb hb78) (by have := hI3.lt _ (List.mem_cons_self ..); omega)
        have hcb5 : cb ∉ spB pa ∧ cb ≠ s := by constructor <;> (intro h; exact hcn (by simp [OwnT, h]))
        have hcb6 := hf78 _ _ hcb5.1 (app_old hcb4)
        refine ⟨_, _, _, hs78, cput_rw (by simp) hp78.cell, eqBk_rfl, ?_⟩
        refine ⟨((((solT (m + 1) p R i0).2.length + 1 : Nat)) : Int), w64_id _ (by omega) (by omega), ?_⟩
        refine ⟨_, _, set_other hcb6 (Ne.symm hcb5.2), rfl, ?_⟩
        refine ⟨_, rfl, ?_⟩
        refine ⟨_, _, _, get_new, cput_vr rfl, eqBk_rfl, ?_⟩
        refine ⟨_, _, set_same get_new, rfl, ?_⟩
        refine ⟨((i0 + 1 : Nat) : Int), w64_id _ (by omega) (by omega), ?_⟩
        refine ⟨_, _, _, set_same get_new, cput_vr rfl, eqBk_rfl, ?_⟩
        refine ⟨by omega, (.sl kr 0 As.length cr, swL At.sn As (solT (m + 1) p R i0).2.length ((solT (m + 1) p R i0).2.length + k), a78, _, _), ?_, ⟨rfl, rfl, rfl, trivial⟩⟩
        dsimp only
        rw [app_set0, app_set0, hS]
        refine ⟨hI4.ext Ext.app, get_new, fun h => Nat.lt_irrefl _ (hI4.lt _ h), Nat.le_trans (hI4.ge _ (List.mem_cons_self ..)) (Nat.le_of_lt (hI4.lt _ (List.mem_cons_self ..))), by simp, ?_⟩
        have ge := hI.ge
        have ge3 := hI3.ge
        refine hU.trans (((hf1.trans hf2).upto fun k hk => ge k (by simp only [OwnT, List.mem_cons, List.mem_append]; simp [hk])).trans ((hc2.upto fun k hk => ge3 k (by simp only [OwnT, List.mem_cons, List.mem_append]; simp [hk])).trans ((Ext.app (G := _)).upto.trans ((hf78.upto fun k hk => ge3 k (by simp only [OwnT, List.mem_cons, List.mem_append]; simp [hk])).trans (Upto.trans (H1 := _) (fun k B hk e => set_other e ?_) (Ext.app (G := _)).upto)))))
        have := ge s (by simp [OwnT]); omega
    · replace h24 := of_decide_eq_false h24
      have hfin : solT (m + 1) p R m = solT (m + 1) p R i0 := by
        have := @solT_full (m + 1) p R i0 (m - i0) (by omega)
        rwa [show i0 + (m - i0) = m by omega] at this
      refine ⟨_, _, hI.fkb, rfl, ?_⟩
      refine ⟨_, _, hI.fs, rfl, ?_⟩
      have hR0l : As.length = R.length := by omega
      subst hd
      rcases hI.fra with ⟨rfl, rfl⟩ | ⟨kr, cr, lr, rfl, hkr, ⟨hr1, hr2⟩, hr3⟩
      · have hd0 : (solT (m + 1) p R i0).2.length = 0 := by have : ([] : List At).length = R.length := hR0l; simp at this; omega
        refine ⟨⟨by rw [hd0]; rfl, rfl⟩, ?_⟩
        refine ⟨_, _, hI.fkb, rfl, ?_⟩
        refine ⟨_, _, hI.fkb, rfl, ?_⟩
        refine ⟨_, _, hI.fs, rfl, ?_⟩
        refine ⟨⟨rfl, by rw [hd0]; rfl⟩, ?_⟩
        obtain ⟨hD, hf9⟩ := hI.done (d := 0) (ra' := .sn) (by omega) rfl (.inl ⟨rfl, rfl⟩)
        refine ⟨_, _, _, hI.fs, cput_rw (by simp) rfl, eqBk_rfl, ?_⟩
        obtain ⟨z, hz⟩ : ∃ z, firstQ (fun i => (solT (m + 1) p R i0).1.getD ((solT (m + 1) p R i0).2.length + i) z0 m != 0) (R.length - (solT (m + 1) p R i0).2.length) 0 = z := ⟨_, rfl⟩
        have hkb9 := hf9 _ _ (by have nd := hI.nd; simp [OwnT] at nd ⊢; grind) hI.fkb
        have hs9 : ∀ ra', (List.set _ s (sysB p n0 m ra' pa))[s]? = some (sysB p n0 m ra' pa) := fun ra' => set_same hI.fs
        refine ⟨_, x_ContainsFunc_R_ok B E.2.2.2.2.2 (a := .sn) (As := []) (q := fun i => (solT (m + 1) p R i0).1.getD ((solT (m + 1) p R i0).2.length + i) z0 m != 0) (z := z) (by rw [← hz, ← hR0l, hd0]; rfl) rfl rfl (by have := lt_of hI.fkb; simp [At.lt]; omega) (by simp) (fun i hi => by simp at hi), ?_⟩
        rintro _ _ ⟨rfl, rfl⟩
        refine ⟨rfl, by unfold solOK; rw [hfin, hz]; rfl, ?_, ?_⟩
        · rw [hfin]; first | exact hD | (rw [hd0]; exact hD)
        · exact hU.trans (hf9.upto fun k hk => by have := hI.ge s (by simp [OwnT]); simp at hk; omega)
      · refine ⟨_, As.length, rfl, rfl, ⟨by omega, by omega⟩, ?_⟩
        refine ⟨_, _, hI.fkb, rfl, ?_⟩
        refine ⟨_, _, hI.fkb, rfl, ?_⟩
        refine ⟨_, _, hI.fs, rfl, ?_⟩
        refine ⟨0, _, rfl, rfl, ⟨by omega, by omega⟩, ?_⟩
        obtain ⟨hD, hf9⟩ := hI.done (d := (solT (m + 1) p R i0).2.length) (ra' := .sl kr (if cr = 0 then 0 else 0 + 0 * 1) ((solT (m + 1) p R i0).2.length - 0) (cr - 0)) (by omega) rfl (by refine spn_take ?_ ⟨hr1, hr2⟩ hr3 (by omega); exact set_other hkr (by intro q; have nd := hI.nd; subst q; simp [OwnT, spB] at nd))
        refine ⟨_, _, _, hI.fs, cput_rw (by simp) rfl, eqBk_rfl, ?_⟩
        obtain ⟨z, hz⟩ : ∃ z, firstQ (fun i => (solT (m + 1) p R i0).1.getD ((solT (m + 1) p R i0).2.length + i) z0 m != 0) (R.length - (solT (m + 1) p R i0).2.length) 0 = z := ⟨_, rfl⟩
        have hkb9 := hf9 _ _ (by have nd := hI.nd; simp [OwnT] at nd ⊢; grind) hI.fkb
        have hkr9 : kr ∉ [s] := by have nd := hI.nd; simp [OwnT, spB] at nd ⊢; grind
        have hrow9 : ∀ i, i < As.length → blkOf (As.getD i .sn) ∉ [s] := by
          intro i hi
          have nd := hI.nd
          have := map_getD hi
          simp only [OwnT, List.nodup_cons, List.nodup_append, List.mem_cons, List.mem_append, not_or, List.not_mem_nil, or_false] at nd ⊢
          intro q
          grind
        refine ⟨_, x_ContainsFunc_R_ok B E.2.2.2.2.2 (As := As.drop (solT (m + 1) p R i0).2.length) (q := fun i => (solT (m + 1) p R i0).1.getD ((solT (m + 1) p R i0).2.length + i) z0 m != 0) (z := z) (by rw [← hz, List.length_drop, hR0l]) (rdR_drop (hf9 _ _ hkr9 hkr) ⟨hr1, hr2⟩ hr3 (by omega) _) (by simp [At.lt]; have := lt_of hkr; omega) (by have := lt_of hI.fkb; simp [At.lt]; omega) (by rw [List.length_drop]; omega) (fun i hi => by rw [List.length_drop] at hi; rw [drop_getD]; exact i_system_solve_2_ok B E.2.2.2.2.1 ((hI.frows.at _ (by omega)).fr hf9 (hrow9 _ (by omega))) hkb9 (set_same hI.fs)), ?_⟩
        rintro _ _ ⟨rfl, rfl⟩
        refine ⟨rfl, by unfold solOK; rw [hfin, hz]; rfl, ?_, ?_⟩
        · rw [hfin]; first | exact hD | (rw [hd0]; exact hD)
        · exact hU.trans (hf9.upto fun k hk => by have := hI.ge s (by simp [OwnT]); simp at hk; omega)
  · replace h16 := of_decide_eq_false h16
    have e0 : i0 = m := by omega
    have hfin : solT (m + 1) p R m = solT (m + 1) p R i0 := by rw [e0]
    refine brB_f ?_
    refine brB_f ?_
    refine brB_f ?_
    refine brB_f ?_
    refine brB_f ?_
    refine brB_f ?_
    refine brB_f ?_
    refine brB_f ?_
    refine ⟨_, _, hI.fkb, rfl, ?_⟩
    refine ⟨_, _, hI.fs, rfl, ?_⟩
    have hR0l : As.length = R.length := by omega
    subst hd
    rcases hI.fra with ⟨rfl, rfl⟩ | ⟨kr, cr, lr, rfl, hkr, ⟨hr1, hr2⟩, hr3⟩
    · have hd0 : (solT (m + 1) p R i0).2.length = 0 := by have : ([] : List At).length = R.length := hR0l; simp at this; omega
      refine ⟨⟨by rw [hd0]; rfl, rfl⟩, ?_⟩
      refine ⟨_, _, hI.fkb, rfl, ?_⟩
      refine ⟨_, _, hI.fkb, rfl, ?_⟩
      refine ⟨_, _, hI.fs, rfl, ?_⟩
      refine ⟨⟨rfl, by rw [hd0]; rfl⟩, ?_⟩
      obtain ⟨hD, hf9⟩ := hI.done (d := 0) (ra' := .sn) (by omega) rfl (.inl ⟨rfl, rfl⟩)
      refine ⟨_, _, _, hI.fs, cput_rw (by simp) rfl, eqBk_rfl, ?_⟩
      obtain ⟨z, hz⟩ : ∃ z, firstQ (fun i => (solT (m + 1) p R i0).1.getD ((solT (m + 1) p R i0).2.length + i) z0 m != 0) (R.length - (solT (m + 1) p R i0).2.length) 0 = z := ⟨_, rfl⟩
      have hkb9 := hf9 _ _ (by have nd := hI.nd; simp [OwnT] at nd ⊢; grind) hI.fkb
      have hs9 : ∀ ra', (List.set _ s (sysB p n0 m ra' pa))[s]? = some (sysB p n0 m ra' pa) := fun ra' => set_same hI.fs
      refine ⟨_, x_ContainsFunc_R_ok B E.2.2.2.2.2 (a := .sn) (As := []) (q := fun i => (solT (m + 1) p R i0).1.getD ((solT (m + 1) p R i0).2.length + i) z0 m != 0) (z := z) (by rw [← hz, ← hR0l, hd0]; rfl) rfl rfl (by have := lt_of hI.fkb; simp [At.lt]; omega) (by simp) (fun i hi => by simp at hi), ?_⟩
      rintro _ _ ⟨rfl, rfl⟩
      refine ⟨rfl, by unfold solOK; rw [hfin, hz]; rfl, ?_, ?_⟩
      · rw [hfin]; first | exact hD | (rw [hd0]; exact hD)
      · exact hU.trans (hf9.upto fun k hk => by have := hI.ge s (by simp [OwnT]); simp at hk; omega)
    · refine ⟨_, As.length, rfl, rfl, ⟨by omega, by omega⟩, ?_⟩
      refine ⟨_, _, hI.fkb, rfl, ?_⟩
      refine ⟨_, _, hI.fkb, rfl, ?_⟩
      refine ⟨_, _, hI.fs, rfl, ?_⟩
      refine ⟨0, _, rfl, rfl, ⟨by omega, by omega⟩, ?_⟩
      obtain ⟨hD, hf9⟩ := hI.done (d := (solT (m + 1) p R i0).2.length) (ra' := .sl kr (if cr = 0 then 0 else 0 + 0 * 1) ((solT (m + 1) p R i0).2.length - 0) (cr - 0)) (by omega) rfl (by refine spn_take ?_ ⟨hr1, hr2⟩ hr3 (by omega); exact set_other hkr (by intro q; have nd := hI.nd; subst q; simp [OwnT, spB] at nd))
      refine ⟨_, _, _, hI.fs, cput_rw (by simp) rfl, eqBk_rfl, ?_⟩
      obtain ⟨z, hz⟩ : ∃ z, firstQ (fun i => (solT (m + 1) p R i0).1.getD ((solT (m + 1) p R i0).2.length + i) z0 m != 0) (R.length - (solT (m + 1) p R i0).2.length) 0 = z := ⟨_, rfl⟩
      have hkb9 := hf9 _ _ (by have nd := hI.nd; simp [OwnT] at nd ⊢; grind) hI.fkb
      have hkr9 : kr ∉ [s] := by have nd := hI.nd; simp [OwnT, spB] at nd ⊢; grind
      have hrow9 : ∀ i, i < As.length → blkOf (As.getD i .sn) ∉ [s] := by
        intro i hi
        have nd := hI.nd
        have := map_getD hi
        simp only [OwnT, List.nodup_cons, List.nodup_append, List.mem_cons, List.mem_append, not_or, List.not_mem_nil, or_false] at nd ⊢
        intro q
        grind
      refine ⟨_, x_ContainsFunc_R_ok B E.2.2.2.2.2 (As := As.drop (solT (m + 1) p R i0).2.length) (q := fun i => (solT (m + 1) p R i0).1.getD ((solT (m + 1) p R i0).2.length + i) z0 m != 0) (z := z) (by rw [← hz, List.length_drop, hR0l]) (rdR_drop (hf9 _ _ hkr9 hkr) ⟨hr1, hr2⟩ hr3 (by omega) _) (by simp [At.lt]; have := lt_of hkr; omega) (by have := lt_of hI.fkb; simp [At.lt]; omega) (by rw [List.length_drop]; omega) (fun i hi => by rw [List.length_drop] at hi; rw [drop_getD]; exact i_system_solve_2_ok B E.2.2.2.2.1 ((hI.frows.at _ (by omega)).fr hf9 (hrow9 _ (by omega))) hkb9 (set_same hI.fs)), ?_⟩
      rintro _ _ ⟨rfl, rfl⟩
      refine ⟨rfl, by unfold solOK; rw [hfin, hz]; rfl, ?_, ?_⟩
      · rw [hfin]; first | exact hD | (rw [hd0]; exact hD)
      · exact hU.trans (hf9.upto fun k hk => by have := hI.ge s (by simp [OwnT]); simp at hk; omega)

end Hf
namespace Hf
open Go Classical
variable {P : Program} {ρ : Nat → FuncId}
/-- a call that reads one block -/
theorem CallOK.at1 {f k : Nat} {as args : List At} {H : List Blk} {v : Sv} {r : Bool} {hd : List Int} {N : Nat} {g : By} (hk : H[k]? = some ⟨r, .by hd N g⟩) (h : CallOK P ρ f as [⟨true, .by hd N g⟩] v [⟨true, .by hd N g⟩]) (ha : args = as.map (mva (tau [k] H.length))) (hv : mvs (tau [k] H.length) v = v) :
    CallR P ρ f args H fun u G => u = v ∧ G = H :=
  (h.emb [k] ha ⟨⟨r, hk, fun h => by cases h⟩, trivial⟩ rfl hv (by simp [back])).r
/-- and one that reads two -/
theorem CallOK.at2 {f k k' : Nat} {as args : List At} {H : List Blk} {v : Sv} {r r' : Bool} {hd hd' : List Int} {N N' : Nat} {g g' : By} (hk : H[k]? = some ⟨r, .by hd N g⟩) (hk' : H[k']? = some ⟨r', .by hd' N' g'⟩)
    (h : CallOK P ρ f as [⟨true, .by hd N g⟩, ⟨true, .by hd' N' g'⟩] v [⟨true, .by hd N g⟩, ⟨true, .by hd' N' g'⟩]) (ha : args = as.map (mva (tau [k, k'] H.length))) (hv : mvs (tau [k, k'] H.length) v = v) :
    CallR P ρ f args H fun u G => u = v ∧ G = H :=
  (h.emb [k, k'] ha ⟨⟨r, hk, fun h => by cases h⟩, ⟨r', hk', fun h => by cases h⟩, trivial⟩ (by simp [apart]) hv (by simp [back])).r

/-! ### the rows of a matrix -/
def rw8 (g : By) (i : Nat) : By := fun x => if x < 8 then g (i * 8 + x) else 0
def rows8 (g : By) : List By := (List.range 8).map (rw8 g)
theorem rows8_at {g : By} {i : Nat} (h : i < 8) : (rows8 g).getD i z0 = rw8 g i := by simp [rows8, List.getD_eq_getElem?_getD, h]
theorem VS.ag {H : List Blk} {k : Nat} {r : Bool} {g : By} (h : H[k]? = some ⟨r, .by [] 64 g⟩) : VS H (.sl k 0 8 8) (rows8 g) := by
  refine .inr ⟨k, 0, 8, r, 64, g, by simp [rows8], h, by simp [rows8], fun i x hi hx => ?_⟩
  have hi : i < 8 := by simpa [rows8] using hi
  rw [rows8_at hi, rw8, if_pos hx, Nat.zero_add]
theorem VW.one {H : List Blk} {m : Nat} {v : By} (hm : m ≤ H.length) : VW m (H ++ [⟨false, .by [] (1 * 8) (spl (fun _ => 0) (0 * 8) 8 v)⟩]) (.sl H.length 0 1 1) [v] := by
  refine ⟨H.length, 0, 1, _, _, rfl, get_new, ⟨by omega, by simp, hm⟩, fun i x h hx => ?_⟩
  obtain rfl : i = 0 := by simpa using h
  simp [spl, hx]
/-- a slice that may be nil -/
def VM (m : Nat) (H : List Blk) (a : At) (L : List By) : Prop := (a = .sn ∧ L = []) ∨ VW m H a L
theorem VM.vs {m : Nat} {H : List Blk} {a : At} {L : List By} (h : VM m H a L) : VS H a L := by
  rcases h with h | h
  · exact .inl h
  · exact h.vs
theorem VM.vw {m : Nat} {H : List Blk} {a : At} {L : List By} (h : VM m H a L) (hl : 0 < L.length) : VW m H a L := by
  rcases h with ⟨-, rfl⟩ | h
  · simp at hl
  · exact h
theorem VM.nil {m : Nat} {H : List Blk} : VM m H .sn [] := .inl ⟨rfl, rfl⟩
theorem VM.mono {m m' : Nat} {H : List Blk} {a : At} {L : List By} (h : VM m H a L) (hm : m' ≤ m) : VM m' H a L := h.imp id fun h => h.mono hm
theorem VM.ext {m : Nat} {H H' : List Blk} {a : At} {L : List By} (h : VM m H a L) (e : Ext H H') : VM m H' a L := h.imp id fun h => h.ext e
theorem VS.upto {m : Nat} {H H' : List Blk} {a : At} {L : List By} (h : VS H a L) (hm : H.length ≤ m) (e : Upto m H H') : VS H' a L := h.ext fun k B hk => e k B (by have := lt_of hk; omega) hk

theorem brB_f' {b : Bool} {K : Bool → Prop} (hb : b = false) (h : K false) : brB b K := by subst hb; exact brB_f h
/-! ### marks -/
def mkL (k : Int) (n : Nat) : List By := (List.range n).map fun i => fun x => byt (k + ((i * 8 + x : Nat) : Int))
theorem mkL_len {k : Int} {n : Nat} : (mkL k n).length = n := by simp [mkL]
theorem mkL_at {k : Int} {n i : Nat} (h : i < n) : (mkL k n).getD i z0 = fun x => byt (k + ((i * 8 + x : Nat) : Int)) := by simp [mkL, List.getD_eq_getElem?_getD, h]
/-- a list whose first i vectors, and the first j entries of the next, are marked -/
def mkP (k : Int) (L : List By) (t : Nat) : List By := (List.range L.length).map fun i => fun x => if i * 8 + x < t ∧ x < 8 then byt (k + ((i * 8 + x : Nat) : Int)) else (L.getD i z0) x
theorem mkP_len {k : Int} {L : List By} {t : Nat} : (mkP k L t).length = L.length := by simp [mkP]
theorem mkP_at {k : Int} {L : List By} {t i : Nat} (h : i < L.length) : (mkP k L t).getD i z0 = fun x => if i * 8 + x < t ∧ x < 8 then byt (k + ((i * 8 + x : Nat) : Int)) else (L.getD i z0) x := by simp [mkP, List.getD_eq_getElem?_getD, h]
theorem VW.congr {m : Nat} {H : List Blk} {a : At} {L L' : List By} (h : VW m H a L) (hl : L'.length = L.length) (e : ∀ i x, i < L.length → x < 8 → (L.getD i z0) x = (L'.getD i z0) x) : VW m H a L' := by
  obtain ⟨k, off, cap, N, f, rfl, h2, h3, h4⟩ := h
  exact ⟨k, off, cap, N, f, by rw [hl], h2, by rw [hl]; exact h3, fun i x hi hx => by rw [hl] at hi; rw [h4 i x hi hx]; exact e i x hi hx⟩
/-- an entry is written -/
theorem VW.st {m : Nat} {H : List Blk} {a : At} {L : List By} (h : VW m H a L) (i : Nat) (hi : i < L.length) :
    ∃ k off len cap q c, a = .sl k off len cap ∧ i < len ∧ off + i * 8 = q ∧ H[k]? = some ⟨false, c⟩ ∧ ∀ x b, x < 8 → cput c (q + x) (.u b) = some (bput c (q + x) b) ∧
      (∀ L', L'.length = L.length → (∀ j y, j < L.length → y < 8 → (L'.getD j z0) y = if j = i ∧ y = x then b else (L.getD j z0) y) → VW m (H.set k ⟨false, bput c (q + x) b⟩) a L') ∧ Upto m H (H.set k ⟨false, bput c (q + x) b⟩) := by
  obtain ⟨k, off, cap, N, f, rfl, h2, h3, h4⟩ := h
  refine ⟨k, off, L.length, cap, off + i * 8, _, rfl, hi, rfl, h2, fun x b hx => ⟨cput_u (by simp) (by omega), fun L' hl he => ⟨k, off, cap, N, upd f (off + i * 8 + x) b, by rw [hl], set_same h2, by rw [hl]; exact h3, fun j y hj hy => ?_⟩, fun j B hj e => set_other e (by omega)⟩⟩
  rw [hl] at hj
  rw [he j y hj hy]
  unfold upd
  by_cases e : j = i ∧ y = x
  · rw [if_pos e, if_pos (by omega)]
  · rw [if_neg e, if_neg (by omega)]
    exact h4 j y hj hy
end Hf
namespace Hf
open Go Classical
variable {P : Program} {ρ : Nat → FuncId}
theorem x_IndexFunc_V2_ok (B : Bs P ρ) (E : F_x_IndexFunc_V2 P ρ) {g : Nat} {caps : List (Nat × Nat)} {H : List Blk} {a : At} {L : List By} {q : Nat → Bool} {z : Int} (hz : firstQ q L.length 0 = z) (hA : VS H a L) (hcaps : (At.fn g [] caps).lt H.length = true) (hlen : L.length ≤ 1000000) (hq : ∀ i, i < L.length → CallR P ρ g ([.ag [] 8 (L.getD i z0)] ++ caps.map (fun p => .pt p.1 p.2)) H fun u G => u = .one (.b (q i)) ∧ G = H) :
    CallR P ρ 91 [a, .fn g [] caps] H (fun u G => u = .one (.i .i64 z) ∧ G = H) := by
  refine call_of_q B.fn B.mo E rfl (fun hAr hHp => ?_) (by simp only [List.all_cons, List.all_nil, hA.lt, hcaps]; rfl)
  refine ⟨_, (hA).len, ?_⟩
  refine ⟨Unit, (fun a0 a1 a7 (i0 : Nat) (x0 : Unit) => [(0, a0), (1, a1), (7, a7), (8, .one (.i .i64 ((i0 : Nat) : Int)))]) _ _ _ , fun (i0 : Nat) (x0 : Unit) (G0 : List Blk) => (G0 = H ∧ ∀ j, j < i0 → q j = false), L.length, ⟨(), ⟨rfl, fun j h => by omega⟩, ⟨rfl, rfl, rfl, rfl, trivial⟩⟩, ?_⟩
  rintro i0 _ G0 hi0 ⟨rfl, hF0⟩
  refine ⟨fun h9 => ?_, fun h9 => ?_⟩
  · replace h9 := of_decide_eq_true h9
    obtain ⟨k14, o14, n14, c14, q14, ea14, hl14, hq14, r14, N14, f14, hk14, hN14, hf14⟩ := (hA).at i0 (by omega)
    refine ⟨k14, o14, n14, c14, i0, q14, ea14, rfl, hl14, hq14, ?_⟩
    refine ⟨_, _, _, _, _, hk14, ⟨by simp, hN14⟩, hf14, ?_⟩
    refine ⟨_, hq i0 (by omega), ?_⟩
    rintro _ _ ⟨rfl, rfl⟩
    refine ⟨fun h16 => ?_, fun h16 => ?_⟩
    · skip
      have e : z = (i0 : Int) := hz.symm.trans <| firstQ_some (by omega) (by omega) h16 fun j _ h => hF0 j h
      exact ⟨rfl, by rw [e]; rfl, rfl⟩
    · skip
      refine ⟨((i0 + 1 : Nat) : Int), w64_id _ (by omega) (by omega), ?_⟩
      refine ⟨by omega, (), ?_, ⟨rfl, rfl, rfl, rfl, trivial⟩⟩
      refine ⟨rfl, fun j hj => ?_⟩
      by_cases e : j = i0
      · subst e; exact h16
      · exact hF0 j (by omega)
  · replace h9 := of_decide_eq_false h9
    have e0 : L.length = i0 := by omega
    subst e0
    have e : z = -1 := hz.symm.trans <| firstQ_none fun j _ h => hF0 j (by omega)
    exact ⟨rfl, by rw [e]; rfl, rfl⟩

theorem x_ContainsFunc_V2_ok (B : Bs P ρ) (E : F_x_ContainsFunc_V2 P ρ) {g : Nat} {caps : List (Nat × Nat)} {H : List Blk} {a : At} {L : List By} {q : Nat → Bool} (hA : VS H a L) (hcaps : (At.fn g [] caps).lt H.length = true) (hlen : L.length ≤ 1000000) (hq : ∀ i, i < L.length → CallR P ρ g ([.ag [] 8 (L.getD i z0)] ++ caps.map (fun p => .pt p.1 p.2)) H fun u G => u = .one (.b (q i)) ∧ G = H) :
    CallR P ρ 70 [a, .fn g [] caps] H (fun u G => u = .one (.b (decide (∃ i, i < L.length ∧ q i = true))) ∧ G = H) := by
  refine call_of_q B.fn B.mo E.1 rfl (fun hAr hHp => ?_) (by simp only [List.all_cons, List.all_nil, hA.lt, hcaps]; rfl)
  refine ⟨_, x_IndexFunc_V2_ok B E.2 rfl hA hcaps hlen hq, ?_⟩
  rintro _ _ ⟨rfl, rfl⟩
  refine ⟨rfl, ?_, rfl⟩
  have e : decide (∃ i, i < L.length ∧ q i = true) = decide (firstQ q L.length 0 ≥ 0) := by
    refine decide_eq_decide.2 ?_
    show _ ↔ 0 ≤ _
    rw [firstQ_nn]
    exact ⟨fun ⟨i, h1, h2⟩ => ⟨i, by omega, by omega, h2⟩, fun ⟨i, _, h1, h2⟩ => ⟨i, by omega, h2⟩⟩
  rw [e]; rfl

theorem VS.shape {H : List Blk} {a : At} {L : List By} (h : VS H a L) : a = .sn ∨ ∃ k o n c, a = .sl k o n c := by
  rcases h with ⟨h, -⟩ | ⟨k, off, cap, r, N, f, h, -⟩
  · exact .inl h
  · exact .inr ⟨_, _, _, _, h⟩
end Hf
namespace Hf
open Go Classical
variable {P : Program} {ρ : Nat → FuncId}
theorem l_eqVectorS_ok (B : Bs P ρ) (E : F_l_eqVectorS P ρ) {H : List Blk} {a b : At} {L : List By} (hA : VS H a L) (hB : VS H b L) (hlen : L.length ≤ 100000000) :
    CallR P ρ 247 [a, b] H (fun u G => u = .one (.b true) ∧ G = H) := by
  refine call_of_q B.fn B.mo E.1 rfl (fun hAr hHp => ?_) (by simp only [List.all_cons, List.all_nil, hA.lt, hB.lt]; rfl)
  refine ⟨_, (hA).len, ?_⟩
  refine ⟨_, (hB).len, ?_⟩
  refine brB_f' (by simp) ?_
  refine ⟨Unit, (fun a0 a1 (i0 : Nat) (x0 : Unit) => [(0, a0), (1, a1), (5, .one (.i .i64 ((i0 : Nat) : Int)))]) _ _ , fun (i0 : Nat) (x0 : Unit) (G0 : List Blk) => (G0 = H), L.length, ⟨(), rfl, ⟨rfl, rfl, rfl, trivial⟩⟩, ?_⟩
  rintro i0 _ G0 hi0 rfl
  refine ⟨_, (hA).len, ?_⟩
  refine ⟨fun h14 => ?_, fun h14 => ?_⟩
  · replace h14 := of_decide_eq_true h14
    obtain ⟨k19, o19, n19, c19, q19, ea19, hl19, hq19, r19, N19, f19, hk19, hN19, hf19⟩ := (hA).at i0 (by omega)
    refine ⟨k19, o19, n19, c19, i0, q19, ea19, rfl, hl19, hq19, ?_⟩
    refine ⟨_, _, _, _, _, hk19, ⟨by simp, hN19⟩, hf19, ?_⟩
    obtain ⟨k23, o23, n23, c23, q23, ea23, hl23, hq23, r23, N23, f23, hk23, hN23, hf23⟩ := (hB).at i0 (by omega)
    refine ⟨k23, o23, n23, c23, i0, q23, ea23, rfl, hl23, hq23, ?_⟩
    refine ⟨_, _, _, _, _, hk23, ⟨by simp, hN23⟩, hf23, ?_⟩
    refine ⟨_, l_eqVector_ok B E.2 , rfl, ?_⟩
    refine brB_f ?_
    refine ⟨((i0 + 1 : Nat) : Int), w64_id _ (by omega) (by omega), ?_⟩
    exact ⟨by omega, (), rfl, ⟨rfl, rfl, rfl, trivial⟩⟩
  · replace h14 := of_decide_eq_false h14
    have e0 : L.length = i0 := by omega
    subst e0
    exact ⟨rfl, rfl, rfl⟩

theorem l_markVectorS_ok (B : Bs P ρ) (E : F_l_markVectorS P ρ) {H : List Blk} {m : Nat} {a : At} {L : List By} {k : Int} (hA : VM m H a L) (hlen : L.length ≤ 1000) (hk : 0 ≤ k) (hk2 : k ≤ 1000) :
    CallR P ρ 248 [a, .i .i64 k] H (fun u G => u = .one (.i .i64 (k + ((L.length * 8 : Nat) : Int))) ∧ VM m G a (mkL k L.length) ∧ Upto m H G) := by
  refine call_of_q B.fn B.mo E rfl (fun hAr hHp => ?_) (by simp only [List.all_cons, List.all_nil, hA.vs.lt]; rfl)
  refine ⟨Int, (fun a0 (i0 : Nat) (x0 : Int) => [(0, a0), (1, .one (.i .i64 x0)), (5, .one (.i .i64 ((i0 : Nat) : Int)))]) _ , fun (i0 : Nat) (x0 : Int) (G0 : List Blk) => (x0 = k + ((i0 * 8 : Nat) : Int) ∧ VM m G0 a (mkP k L (i0 * 8)) ∧ Upto m H G0), L.length, ⟨k, ?_, ⟨rfl, rfl, rfl, trivial⟩⟩, ?_⟩
  · refine ⟨by omega, ?_, Upto.refl⟩
    rcases hA with ⟨rfl, rfl⟩ | hA
    · exact .inl ⟨rfl, rfl⟩
    · exact .inr (hA.congr mkP_len fun i x hi hx => by rw [mkP_at hi]; simp)
  rintro i0 x0 G0 hi0 ⟨hx0, hV0, hU0⟩
  refine ⟨L.length, by rw [hV0.vs.len, mkP_len], ?_⟩
  refine ⟨fun h10 => ?_, fun h10 => ?_⟩
  · replace h10 := of_decide_eq_true h10
    refine ⟨Int, (fun a0 a5 (i1 : Nat) (x1 : Int) => [(0, a0), (1, .one (.i .i64 x1)), (5, a5), (6, .one (.i .i64 ((i1 : Nat) : Int)))]) _ _ , fun (i1 : Nat) (x1 : Int) (G1 : List Blk) => (x1 = k + ((i0 * 8 + i1 : Nat) : Int) ∧ VW m G1 a (mkP k L (i0 * 8 + i1)) ∧ Upto m H G1), 8, ⟨_, ⟨by omega, hV0.vw (by rw [mkP_len]; omega), hU0⟩, ⟨rfl, rfl, rfl, rfl, trivial⟩⟩, ?_⟩
    rintro i1 x1 G1 hi1 ⟨hx1, hV1, hU1⟩
    refine ⟨fun h14 => ?_, fun h14 => ?_⟩
    · replace h14 := of_decide_eq_true h14
      obtain ⟨k22, o22, n22, c22, q22, C22, ea22, hl22, hq22, hk22, hs22⟩ := VW.st (hV1) i0 (by rw [mkP_len]; omega)
      refine ⟨k22, o22, n22, c22, i0, q22, ea22, rfl, hl22, hq22, ?_⟩
      refine ⟨i1, q22 + i1, rfl, by omega, by omega, ?_⟩
      refine ⟨_, _, _, hk22, (hs22 i1 _ (by omega)).1, eqBk_rfl, ?_⟩
      refine ⟨_, w64_id _ (by omega) (by omega), ?_⟩
      refine ⟨((i1 + 1 : Nat) : Int), w64_id _ (by omega) (by omega), ?_⟩
      refine ⟨by omega, _, ?_, ⟨rfl, rfl, rfl, rfl, trivial⟩⟩
      obtain ⟨-, hc, hu⟩ := hs22 i1 (byt x1) (by omega)
      refine ⟨by omega, hc _ (by rw [mkP_len, mkP_len]) ?_, hU1.trans hu⟩
      intro j y hj hy
      rw [mkP_len] at hj
      rw [mkP_at hj, mkP_at hj]
      dsimp only
      by_cases e : j = i0 ∧ y = i1
      · obtain ⟨rfl, rfl⟩ := e
        rw [if_pos ⟨Nat.lt_succ_self _, hy⟩, if_pos ⟨rfl, rfl⟩, hx1]
      · by_cases h : j * 8 + y < i0 * 8 + i1
        · rw [if_pos ⟨Nat.lt_succ_of_lt h, hy⟩, if_neg e, if_pos ⟨h, hy⟩]
        · rw [if_neg (fun q => by have := q.1; omega), if_neg e, if_neg (fun q => h q.1)]
    · replace h14 := of_decide_eq_false h14
      have e1 : 8 = i1 := by omega
      subst e1
      refine ⟨((i0 + 1 : Nat) : Int), w64_id _ (by omega) (by omega), ?_⟩
      refine ⟨by omega, _, ?_, ⟨rfl, rfl, rfl, trivial⟩⟩
      refine ⟨by omega, ?_, hU1⟩
      rw [show (i0 + 1) * 8 = i0 * 8 + 8 by omega]
      exact .inr hV1
  · replace h10 := of_decide_eq_false h10
    have e0 : L.length = i0 := by omega
    subst e0
    refine ⟨rfl, by rw [hx0]; rfl, ?_, hU0⟩
    have e : mkP k L (L.length * 8) = mkP k L (L.length * 8) := rfl
    rcases hV0 with ⟨h1, h2⟩ | hV0
    · have h3 := congrArg List.length h2
      rw [mkP_len] at h3
      exact .inl ⟨h1, by rw [h3]; rfl⟩
    · exact .inr (hV0.congr (by rw [mkL_len, mkP_len]) fun i x hi hx => by rw [mkP_len] at hi; rw [mkP_at hi, mkL_at hi]; dsimp only; rw [if_pos ⟨by omega, hx⟩])

theorem l_heldVectorS_ok (B : Bs P ρ) (E : F_l_heldVectorS P ρ) {H : List Blk} {a : At} {n : Nat} {k : Int} (hA : VS H a (mkL k n)) (hlen : n ≤ 1000) (hk : 0 ≤ k) (hk2 : k ≤ 1000) :
    CallR P ρ 249 [a, .i .i64 k] H (fun u G => u = .one (.i .i64 (k + ((n * 8 : Nat) : Int))) ∧ G = H) := by
  refine call_of_q B.fn B.mo E rfl (fun hAr hHp => ?_) (by simp only [List.all_cons, List.all_nil, hA.lt]; rfl)
  refine ⟨Int, (fun a0 (i0 : Nat) (x0 : Int) => [(0, a0), (1, .one (.i .i64 x0)), (5, .one (.i .i64 ((i0 : Nat) : Int)))]) _ , fun (i0 : Nat) (x0 : Int) (G0 : List Blk) => (x0 = k + ((i0 * 8 : Nat) : Int) ∧ G0 = H), n, ⟨k, ⟨by omega, rfl⟩, ⟨rfl, rfl, rfl, trivial⟩⟩, ?_⟩
  rintro i0 x0 G0 hi0 ⟨hx0, rfl⟩
  refine ⟨n, by rw [hA.len, mkL_len], ?_⟩
  refine ⟨fun h10 => ?_, fun h10 => ?_⟩
  · replace h10 := of_decide_eq_true h10
    refine ⟨Int, (fun a0 a5 (i1 : Nat) (x1 : Int) => [(0, a0), (1, .one (.i .i64 x1)), (5, a5), (6, .one (.i .i64 ((i1 : Nat) : Int)))]) _ _ , fun (i1 : Nat) (x1 : Int) (G1 : List Blk) => (x1 = k + ((i0 * 8 + i1 : Nat) : Int) ∧ G1 = G0), 8, ⟨_, ⟨by omega, rfl⟩, ⟨rfl, rfl, rfl, rfl, trivial⟩⟩, ?_⟩
    rintro i1 x1 G1 hi1 ⟨hx1, rfl⟩
    refine ⟨fun h14 => ?_, fun h14 => ?_⟩
    · replace h14 := of_decide_eq_true h14
      obtain ⟨k20, o20, n20, c20, q20, ea20, hl20, hq20, r20, N20, f20, hk20, hN20, hf20⟩ := hA.at i0 (by rw [mkL_len]; omega)
      refine ⟨k20, o20, n20, c20, i0, q20, ea20, rfl, hl20, hq20, ?_⟩
      refine ⟨i1, q20 + i1, rfl, by omega, by omega, ?_⟩
      refine ⟨_, .u (byt x1), hk20, ?_, ?_⟩
      · rw [cat_u (by omega), ← hf20 i1 (by omega), mkL_at (by omega), hx1]
      refine brB_f' (by simp) ?_
      refine ⟨_, w64_id _ (by omega) (by omega), ?_⟩
      refine ⟨((i1 + 1 : Nat) : Int), w64_id _ (by omega) (by omega), ?_⟩
      exact ⟨by omega, _, ⟨by omega, rfl⟩, ⟨rfl, rfl, rfl, rfl, trivial⟩⟩
    · replace h14 := of_decide_eq_false h14
      have e1 : 8 = i1 := by omega
      subst e1
      refine ⟨((i0 + 1 : Nat) : Int), w64_id _ (by omega) (by omega), ?_⟩
      exact ⟨by omega, _, ⟨by omega, rfl⟩, ⟨rfl, rfl, rfl, trivial⟩⟩
  · replace h10 := of_decide_eq_false h10
    have e0 : n = i0 := by omega
    subst e0
    refine ⟨rfl, by rw [hx0]; rfl, rfl⟩

end Hf
namespace Hf
open Go Classical
variable {P : Program} {ρ : Nat → FuncId}
theorem x_Clone_B_ok (B : Bs P ρ) (E : F_x_Clone_B P ρ) {H : List Blk} {k off n cap : Nat} {r : Bool} {N : Nat} {f : By} (hk : H[k]? = some ⟨r, .by [] N f⟩) (hN : off + n ≤ N) (hn : n ≤ 1000) :
    CallR P ρ 289 [.sl k off n cap] H (fun u G => ∃ b, u = .one b ∧ RowC H.length G n b (fun x => f (off + x)) ∧ Ext H G) := by
  refine call_of_q B.fn B.mo E rfl (fun hAr hHp => ?_) (by simp [At.lt, lt_of hk])
  refine brB_f ?_
  refine ⟨[], _, rfl, rfl, ?_⟩
  refine ⟨_, rowc_app (n := 0) (v := z0) (M := n) (g := fun x => f (off + x)) ⟨_, _, _, _, rfl, get_new, ⟨Nat.le_refl _, Nat.le_refl _, Nat.le_refl _⟩, fun x hx => by omega⟩ ⟨rfl, r, N, f, app_old hk, by omega, fun x hx => rfl⟩ (by omega) (by simp), ?_⟩
  rintro a7 G7 ⟨hv7, hu7, hl7⟩
  refine ⟨rfl, a7, rfl, ?_, ?_⟩
  · obtain ⟨k', cap', N', f', h1, h2, h3, h4⟩ := hv7
    refine ⟨k', cap', N', f', by rw [h1, Nat.zero_add], h2, by omega, fun x hx => ?_⟩
    have := h4 x (by omega)
    rw [this]; simp
  · exact Upto.ext Ext.app hu7 (Nat.le_refl _)

theorem i_reduced_ok (B : Bs P ρ) (E : F_i_reduced P ρ) {H : List Blk} {p : Int} {a : At} {L : List By} (hp : Pr p) (hL : VS H a L) (hv : ∀ v ∈ L, Vp 8 p v) (hlen : L.length ≤ 1000000) :
    CallR P ρ 267 [.i .i64 p, a] H (fun u G => ∃ b, u = .one b ∧ Ext H G ∧ VW H.length G b (redL p L)) := by
  have hp2 := hp.1
  have hp3 := hp.2.1
  refine call_of_q B.fn B.mo E.1 rfl (fun hAr hHp => ?_) (by simp only [List.all_cons, List.all_nil, hL.lt]; rfl)
  refine ⟨_, i_newSystem_ok B E.2.1 , ?_⟩
  rintro _ _ ⟨rfl, rfl⟩
  refine ⟨_, (hL).len, ?_⟩
  refine ⟨Unit, (fun a5 a13 a14 (i0 : Nat) (x0 : Unit) => [(5, a5), (13, a13), (14, a14), (15, .one (.i .i64 ((i0 : Nat) : Int)))]) _ _ _ , fun (i0 : Nat) (x0 : Unit) (G0 : List Blk) => (SY H.length G0 H.length p 0 8 (L.take i0) [] ∧ Ext H G0), L.length, ⟨(), ?_, ⟨rfl, rfl, rfl, rfl, trivial⟩⟩, ?_⟩
  · refine ⟨⟨.sn, [], .sn, get_new, .inl ⟨rfl, rfl⟩, ⟨rfl, fun i h => by simp at h⟩, .inl ⟨rfl, rfl⟩, by simp [OwnT, spB], by simp [OwnT, spB]⟩, Ext.app⟩
  rintro i0 _ G0 hi0 ⟨hS0, hE0⟩
  refine ⟨fun h16 => ?_, fun h16 => ?_⟩
  · replace h16 := of_decide_eq_true h16
    obtain ⟨k17, o17, n17, c17, q17, ea17, hl17, hq17, r17, N17, f17, hk17, hN17, hf17⟩ := (hL.ext hE0).at i0 (by omega)
    refine ⟨k17, o17, n17, c17, i0, q17, ea17, rfl, hl17, hq17, ?_⟩
    refine ⟨_, _, _, _, _, hk17, ⟨by simp, hN17⟩, hf17, ?_⟩
    refine ⟨_, rfl, ?_⟩
    refine ⟨_, _, _, get_new, cputs_by (by simp) (by omega), eqBk_rfl, ?_⟩
    obtain ⟨ra, As, pa, hs, hra, hR, hpa, hnd, hge⟩ := hS0
    have hlt0 := lt_of hs
    rw [app_set0]
    refine ⟨_, _, app_old hs, rfl, ?_⟩
    refine ⟨0, 8, rfl, rfl, ⟨by omega, by omega, by omega⟩, ?_⟩
    refine ⟨?_, ?_⟩
    · skip
      refine ⟨_, x_Clone_B_ok B E.2.2.1 (k := G0.length) (off := 0 + 0 * 1) (n := 8 - 0) get_new (by omega) (by omega), ?_⟩
      rintro _ G25 ⟨b25, rfl, hc25, hE25⟩
      refine ⟨⟨kept1 (app_old hs) (hE25 _ _ (app_old hs)), trivial⟩, ?_⟩
      refine ⟨[0], _, rfl, rfl, ?_⟩
      refine ⟨⟨kept1 (hE25 _ _ (app_old hs)) (app_old (hE25 _ _ (app_old hs))), trivial⟩, ?_⟩
      refine ⟨_, rowc_app (m := G0.length) (g := fun _ => 0) (M := 1) ((hc25.mono (by simp)).ext Ext.app) ⟨rfl, _, _, _, get_new, by simp, fun x hx => by have e : x = 0 := (by omega); subst e; rfl⟩ (by omega) (by have := hE25.len; simp at this ⊢; omega), ?_⟩
      rintro a27 G27 ⟨hv27, hu27, hl27⟩
      have hE27 : Ext G0 G27 := Upto.ext (Ext.app.trans (hE25.trans Ext.app)) hu27 (Nat.le_refl _)
      refine ⟨⟨kept1 (B := sysB p 0 8 ra pa) (by first | exact hE25 _ _ (app_old (app_old hs)) | exact app_old (hE25 _ _ (app_old hs))) (hE27 _ _ hs), trivial⟩, ?_⟩
      obtain ⟨k27, cap27, N27, f27, rfl, hk27, hc27, hf27⟩ := hv27
      have hx27 : RowC G0.length G27 9 (.sl k27 0 (8 - 0 + 1) cap27) (L.getD i0 z0) := ⟨k27, cap27, N27, f27, rfl, hk27, hc27, fun x hx => by
        rw [hf27 x (by omega)]
        dsimp only
        by_cases h8 : x < 8
        · rw [if_pos (by omega)]; simp [spl, h8]
        · rw [if_neg (by omega)]; exact ((hv _ (getD_mem (L := L) (i := i0) (by omega))).2 x (by omega)).symm⟩
      refine ⟨_, rfl, ?_⟩
      refine ⟨⟨kept1 (hE27 _ _ hs) (app_old (hE27 _ _ hs)), trivial⟩, ?_⟩
      refine ⟨_, spn_app (x := .sl k27 0 (8 - 0 + 1) cap27) (hra.fr (l := []) (hE27.trans Ext.app).fr (by simp)) ⟨false, _, get_new, by simp, rfl⟩ (by have := hR.1; simp at this; omega) (by omega), ?_⟩
      rintro a29 G29 ⟨hp29, hf29, hb29, hl29⟩
      obtain ⟨hs29, hS29, hF29⟩ := sy_add hs hra hR hpa hnd hge hE0.len (hE27.trans Ext.app) (hx27.ext Ext.app) hp29 hf29 (app_hb hb29)
      refine ⟨_, _, _, hs29, cput_rw (by simp) hp29.cell, eqBk_rfl, ?_⟩
      refine ⟨((i0 + 1 : Nat) : Int), w64_id _ (by omega) (by omega), ?_⟩
      refine ⟨by omega, (), ?_, ⟨rfl, rfl, rfl, rfl, trivial⟩⟩
      refine ⟨?_, ?_⟩
      · have e : L.take (i0 + 1) = L.take i0 ++ [L.getD i0 z0] := by rw [List.take_add_one]; simp [show i0 < L.length by omega]
        rw [e]; exact hS29
      · exact Upto.ext hE0 (hF29.upto fun k hk => hge k (by simp only [List.mem_cons] at hk; rcases hk with h | h <;> simp [OwnT, h])) (Nat.le_refl _)
    · skip
      refine ⟨[0], _, rfl, rfl, ?_⟩
      refine ⟨⟨kept1 (app_old hs) (app_old (app_old hs)), trivial⟩, ?_⟩
      refine ⟨_, x_Clone_B_ok B E.2.2.1 (k := G0.length) (off := 0 + 0 * 1) (n := 8 - 0) (app_old get_new) (by omega) (by omega), ?_⟩
      rintro _ G25 ⟨b25, rfl, hc25, hE25⟩
      refine ⟨⟨kept1 (app_old (app_old hs)) (hE25 _ _ (app_old (app_old hs))), trivial⟩, ?_⟩
      refine ⟨_, rowc_app (m := G0.length) (g := fun _ => 0) (M := 1) (hc25.mono (by simp)) ⟨rfl, _, _, _, hE25 _ _ get_new, by simp, fun x hx => by have e : x = 0 := (by omega); subst e; rfl⟩ (by omega) (by have := hE25.len; simp at this ⊢; omega), ?_⟩
      rintro a27 G27 ⟨hv27, hu27, hl27⟩
      have hE27 : Ext G0 G27 := Upto.ext (Ext.app.trans (Ext.app.trans hE25)) hu27 (Nat.le_refl _)
      refine ⟨⟨kept1 (B := sysB p 0 8 ra pa) (by first | exact hE25 _ _ (app_old (app_old hs)) | exact app_old (hE25 _ _ (app_old hs))) (hE27 _ _ hs), trivial⟩, ?_⟩
      obtain ⟨k27, cap27, N27, f27, rfl, hk27, hc27, hf27⟩ := hv27
      have hx27 : RowC G0.length G27 9 (.sl k27 0 (8 - 0 + 1) cap27) (L.getD i0 z0) := ⟨k27, cap27, N27, f27, rfl, hk27, hc27, fun x hx => by
        rw [hf27 x (by omega)]
        dsimp only
        by_cases h8 : x < 8
        · rw [if_pos (by omega)]; simp [spl, h8]
        · rw [if_neg (by omega)]; exact ((hv _ (getD_mem (L := L) (i := i0) (by omega))).2 x (by omega)).symm⟩
      refine ⟨_, rfl, ?_⟩
      refine ⟨⟨kept1 (hE27 _ _ hs) (app_old (hE27 _ _ hs)), trivial⟩, ?_⟩
      refine ⟨_, spn_app (x := .sl k27 0 (8 - 0 + 1) cap27) (hra.fr (l := []) (hE27.trans Ext.app).fr (by simp)) ⟨false, _, get_new, by simp, rfl⟩ (by have := hR.1; simp at this; omega) (by omega), ?_⟩
      rintro a29 G29 ⟨hp29, hf29, hb29, hl29⟩
      obtain ⟨hs29, hS29, hF29⟩ := sy_add hs hra hR hpa hnd hge hE0.len (hE27.trans Ext.app) (hx27.ext Ext.app) hp29 hf29 (app_hb hb29)
      refine ⟨_, _, _, hs29, cput_rw (by simp) hp29.cell, eqBk_rfl, ?_⟩
      refine ⟨((i0 + 1 : Nat) : Int), w64_id _ (by omega) (by omega), ?_⟩
      refine ⟨by omega, (), ?_, ⟨rfl, rfl, rfl, rfl, trivial⟩⟩
      refine ⟨?_, ?_⟩
      · have e : L.take (i0 + 1) = L.take i0 ++ [L.getD i0 z0] := by rw [List.take_add_one]; simp [show i0 < L.length by omega]
        rw [e]; exact hS29
      · exact Upto.ext hE0 (hF29.upto fun k hk => hge k (by simp only [List.mem_cons] at hk; rcases hk with h | h <;> simp [OwnT, h])) (Nat.le_refl _)
  · replace h16 := of_decide_eq_false h16
    have e0 : L.length = i0 := by omega
    subst e0
    refine ⟨_, i_system_solve_ok B E.2.2.2 (p := p) (n0 := 0) (m0 := H.length) (m := 8) (R := L) (T0 := []) (by omega) (by omega) (by omega) (by rw [List.take_length] at hS0; exact hS0) (by omega) hE0.len, ?_⟩
    rintro _ G34 ⟨rfl, hS34, hU34⟩
    have hred := sol_red hp hv
    rw [hred] at hS34
    obtain ⟨ra, As, pa, hs, hra, hR, hpa, hnd, hge⟩ := hS34
    have hAl := hR.1
    have hE34 := Upto.ext hE0 hU34 (Nat.le_refl _)
    have hrl := (redL_rr hp hv).1.len
    refine ⟨_, rfl, ?_⟩
    refine ⟨_, _, app_old hs, rfl, ?_⟩
    refine ⟨_, (hra).len, ?_⟩
    refine ⟨At, (fun a39 a40 (i1 : Nat) (x1 : At) => [(8, .one x1), (39, a39), (40, a40), (41, .one (.i .i64 ((i1 : Nat) : Int)))]) _ _ , fun (i1 : Nat) (x1 : At) (G1 : List Blk) => (VW G34.length G1 x1 ((redL p L).take i1) ∧ Upto G34.length G34 G1), As.length, ⟨_, ⟨VW.nil (Nat.le_refl _), Ext.app.upto⟩, ⟨rfl, rfl, rfl, rfl, trivial⟩⟩, ?_⟩
    rintro i1 x1 G1 hi1 ⟨hW1, hU1⟩
    have hE1 : Ext G34 G1 := fun k B e => hU1 k B (lt_of e) e
    refine ⟨fun h42 => ?_, fun h42 => ?_⟩
    · replace h42 := of_decide_eq_true h42
      obtain ⟨k43, o43, n43, c43, q43, ea43, hl43, hq43, r43, l43, hk43, hi43⟩ := rdR_at ((hra.fr (l := []) hE1.fr (by simp)).rd) i1 (by omega)
      refine ⟨k43, o43, n43, c43, i1, q43, ea43, rfl, hl43, hq43, ?_⟩
      obtain ⟨kr, cr, Nr, fr, ea, hkr, hNr, hfr⟩ := (hR.fr (l := []) hE1.fr (by simp)).at i1 (by omega)
      rw [ea] at hi43
      refine ⟨_, _, hk43, hi43, ?_⟩
      refine ⟨0, 8, rfl, rfl, ⟨by omega, by omega⟩, ?_⟩
      refine ⟨by omega, ?_⟩
      have ho : (if cr = 0 then 0 else 0 + 0 * 1) = 0 := by split <;> rfl
      have hg49 : ∀ x, x < 8 → (redL p L).getD i1 z0 x = fr ((if cr = 0 then 0 else 0 + 0 * 1) + x) := by
        intro x hx
        rw [ho, Nat.zero_add]; exact (hfr x (by omega)).symm
      have hb49 : (if cr = 0 then 0 else 0 + 0 * 1) + 8 ≤ Nr := by rw [ho]; omega
      refine ⟨_, _, _, _, (redL p L).getD i1 z0, hkr, ⟨Nat.zero_le _, hb49⟩, hg49, ?_⟩
      refine ⟨_, rfl, ?_⟩
      refine ⟨_, vw_app (hW1.ext Ext.app) (VS.one (v := (redL p L).getD i1 z0)) (by simp; omega) (by have := hE1.len; simp; omega), ?_⟩
      rintro a51 G51 ⟨hv51, hu51⟩
      refine ⟨((i1 + 1 : Nat) : Int), w64_id _ (by omega) (by omega), ?_⟩
      refine ⟨by omega, _, ?_, ⟨rfl, rfl, rfl, rfl, trivial⟩⟩
      have e : (redL p L).take (i1 + 1) = (redL p L).take i1 ++ [(redL p L).getD i1 z0] := by rw [List.take_add_one]; simp [show i1 < (redL p L).length by omega]
      dsimp only; rw [e]
      exact ⟨hv51, hU1.trans ((Ext.app (G := _)).upto.trans hu51)⟩
    · replace h42 := of_decide_eq_false h42
      have e1 : As.length = i1 := by omega
      subst e1
      refine ⟨rfl, x1, rfl, ?_, ?_⟩
      · exact hE34.trans hE1
      · have := hW1.mono hE34.len
        rw [hAl, List.take_length] at this
        exact this

end Hf
namespace Hf
open Go Classical
section
variable {W W' n : Nat} {p : Int}
theorem RR.up (hW : W ≤ W') {L : List By} (h : RR W p L) : RR W' p L := by
  have hf : ∀ v ∈ L, fstW W' v = fstW W v := fun v hv => fstW_w hW (h.vp v hv).2 (h.nz hv)
  refine ⟨fun v hv => (h.vp v hv).mono hW, fun r hr => ?_, ?_⟩
  · have := h.ld r hr
    rw [hf r hr]
    exact ⟨by omega, this.2⟩
  · refine List.Pairwise.imp_of_mem ?_ h.st
    intro a b ha hb hab
    rw [hf a ha, hf b hb]
    exact hab
theorem SpE.up (hp : 1 ≤ p) (hp2 : p ≤ 256) (hW : W ≤ W') {A B : List By} (hA : ∀ v ∈ A, Vp W p v) (hB : ∀ v ∈ B, Vp W p v) (h : SpE W p A B) : SpE W' p A B :=
  fun v => ⟨fun q => ((h v).1 (q.w1 hp hp2 hW hA)).w2 hp hp2 hW hB, fun q => ((h v).2 (q.w1 hp hp2 hW hB)).w2 hp hp2 hW hA⟩
end
theorem SY.ext {m0 : Nat} {H G : List Blk} {s m : Nat} {p n0 : Int} {R : List By} {T : List Int} (h : SY m0 H s p n0 m R T) (e : Ext H G) : SY m0 G s p n0 m R T := by
  obtain ⟨ra, As, pa, hs, hra, hR, hpa, hnd, hge⟩ := h
  exact ⟨ra, As, pa, e _ _ hs, hra.fr (l := []) e.fr (by simp), hR.fr (l := []) e.fr (by simp), hpa.fr (l := []) e.fr (by simp), hnd, hge⟩
end Hf
namespace Hf
open Go Classical
variable {P : Program} {ρ : Nat → FuncId}
/-- a slice whose block is none of the first m, or that is full -/
def VF (m : Nat) (H : List Blk) (a : At) (L : List By) : Prop :=
  ∃ k off cap N f, a = .sl k off L.length cap ∧ H[k]? = some ⟨false, .by [] N f⟩ ∧ (off + cap * 8 ≤ N ∧ L.length ≤ cap ∧ (m ≤ k ∨ L.length = cap)) ∧ ∀ i x, i < L.length → x < 8 → f (off + i * 8 + x) = (L.getD i z0) x
theorem VF.vs {m : Nat} {H : List Blk} {a : At} {L : List By} (h : VF m H a L) : VS H a L := by
  obtain ⟨k, off, cap, N, f, h1, h2, h3, h4⟩ := h
  exact .inr ⟨k, off, cap, false, N, f, h1, h2, ⟨h3.1, h3.2.1⟩, h4⟩
theorem VF.ext {m : Nat} {H H' : List Blk} {a : At} {L : List By} (h : VF m H a L) (e : Ext H H') : VF m H' a L := by
  obtain ⟨k, off, cap, N, f, h1, h2, h3, h4⟩ := h
  exact ⟨k, off, cap, N, f, h1, e k _ h2, h3, h4⟩
theorem VF.nil {m : Nat} {H : List Blk} {f : By} : VF m (H ++ [⟨false, .by [] (0 * 8) f⟩]) (.sl H.length 0 0 0) [] :=
  ⟨H.length, 0, 0, _, f, rfl, get_new, ⟨by omega, by simp, .inr rfl⟩, fun i x h => by simp at h⟩
theorem take_getD {L : List By} {i : Nat} (h : i < L.length) : L.take (i + 1) = L.take i ++ [L.getD i z0] := by rw [List.take_add_one]; simp [h]
theorem redL_snoc {p : Int} {L : List By} {v : By} : redL p (L ++ [v]) = putL p (redL p L) v := by simp [redL, List.foldl_append]
end Hf
namespace Hf
open Go Classical
variable {P : Program} {ρ : Nat → FuncId}
theorem oc_0 {q : Prop} (h : oc q 1 = 0) : q := by
  apply Classical.byContradiction
  intro hq
  rw [oc_f hq] at h
  cases h
end Hf
namespace Hf
open Go Classical
variable {P : Program} {ρ : Nat → FuncId}
theorem i_modulesCode1_at (B : Bs P ρ) (E : E_i_modulesCode P ρ) {H : List Blk} {k1 k2 k3 : Nat} {r1 r2 r3 : Bool} {p n d : Int} {f g : By} (h1 : H[k1]? = some ⟨r1, .by [p, n] 1106 f⟩) (h2 : H[k2]? = some ⟨r2, .rw [.pt k3 0]⟩) (h3 : H[k3]? = some ⟨r3, .by [d] 513 g⟩) :
    CallR P ρ 164 [.pt k1 0, .sl k2 0 1 1] H fun u G => u = .one (.i .i64 (oc (Hop p n f ∧ Mod p n.toNat d g f) 1)) ∧ G = H :=
  ((i_modulesCode1_ok B E (p := p) (n := n) (d := d) (f := f) (g := g)).emb (H := H) (H' := H) (args := [.pt k1 0, .sl k2 0 1 1]) [k1, k2, k3] rfl ⟨⟨_, h1, fun h => by cases h⟩, ⟨_, h2, fun h => by cases h⟩, ⟨_, h3, fun h => by cases h⟩, trivial⟩ (by simp [apart]) rfl (by simp [back])).r
theorem s_l06Code1_at (B : Bs P ρ) (E : E_s_l06Code P ρ) {H : List Blk} {k1 : Nat} {r1 : Bool} {p n d : Int} {f g : By} (h1 : H[k1]? = some ⟨r1, .gs 513 [([d], g)]⟩) :
    CallR P ρ 162 [.ag [p, n] 1106 f, .sl k1 0 1 1] H fun u G => u = .one (.i .i64 (oc (Hop p n f ∧ Mod p n.toNat d g f) 1)) ∧ G = H :=
  ((s_l06Code1_ok B E (p := p) (n := n) (d := d) (f := f) (g := g)).emb (H := H) (H' := H) (args := [.ag [p, n] 1106 f, .sl k1 0 1 1]) [k1] rfl ⟨⟨_, h1, fun h => by cases h⟩, trivial⟩ (by simp [apart]) rfl (by simp [back])).r
def IQ (p n d : Int) (g f : By) : Prop := Hop p n f ∧ Mod p n.toNat d g f
end Hf
namespace Hf
open Go Classical
variable {P : Program} {ρ : Nat → FuncId}
theorem all_getD {L : List By} {q : By → Prop} : (∀ v ∈ L, q v) ↔ ∀ i, i < L.length → q (L.getD i z0) :=
  ⟨fun h i hi => h _ (getD_mem hi), fun h v hv => by
    obtain ⟨i, hi, rfl⟩ := List.mem_iff_getElem.1 hv
    have := h i hi
    rwa [List.getD_eq_getElem?_getD, List.getElem?_eq_getElem hi] at this⟩
theorem i_Module_vectorsCode_1_ok (B : Bs P ρ) (E : F_i_Module_vectorsCode_1 P ρ) {H : List Blk} {k1 k2 km kh : Nat} {r1 r2 rm rh : Bool} {p n d : Int} {f g v : By} (h1 : H[k1]? = some ⟨r1, .vr (.pt kh 0)⟩) (h2 : H[k2]? = some ⟨r2, .vr (.pt km 0)⟩) (hm : H[km]? = some ⟨rm, .by [d] 513 g⟩) (hh : H[kh]? = some ⟨rh, .by [p, n] 1106 f⟩) :
    CallR P ρ 174 [.ag [] 8 v, .pt k1 0, .pt k2 0] H (fun u G => u = .one (.b (!decide (Shp p d ∧ Vec p d v 0))) ∧ G = H) := by
  refine CallR.pure (call_of_q B.fn B.mo E.1 rfl (fun hA hH => ?_) (by simp [At.lt, lt_of h1, lt_of h2])) rfl
  refine ⟨_, rfl, ?_⟩
  refine ⟨_, _, app_old h1, rfl, ?_⟩
  refine ⟨_, _, app_old hh, rfl, ?_⟩
  refine ⟨_, _, app_old h2, rfl, ?_⟩
  refine ⟨_, _, app_old hm, rfl, ?_⟩
  refine ⟨_, _, _, _, v, get_new, ⟨by simp, by omega⟩, fun x _ => congrArg _ (Nat.zero_add x).symm, ?_⟩
  refine ⟨_, i_IsVector_ok B E.2 , rfl, ?_⟩
  exact ⟨rfl, rfl, Ext.app⟩

theorem i_Module_vectorsCode_ok (B : Bs P ρ) (E : F_i_Module_vectorsCode P ρ) {H : List Blk} {km kh : Nat} {rm rh : Bool} {p n d : Int} {f g : By} {a : At} {L : List By} (hm : H[km]? = some ⟨rm, .by [d] 513 g⟩) (hh : H[kh]? = some ⟨rh, .by [p, n] 1106 f⟩) (hL : VS H a L) (hlen : L.length ≤ 1000000) :
    CallR P ρ 175 [.pt km 0, .pt kh 0, a] H (fun u G => u = .one (.i .i64 (oc (∀ v ∈ L, Shp p d ∧ Vec p d v 0) 1)) ∧ G = H) := by
  refine CallR.pure (call_of_q B.fn B.mo E.1 rfl (fun hA hH => ?_) (by simp only [List.all_cons, List.all_nil, hL.lt]; simp [At.lt, lt_of hm, lt_of hh])) rfl
  refine ⟨_, rfl, ?_⟩
  refine ⟨_, rfl, ?_⟩
  refine ⟨_, x_ContainsFunc_V2_ok B E.2.2.1 (q := fun i => !decide (Shp p d ∧ Vec p d (L.getD i z0) 0)) (hL.ext (Ext.app.trans Ext.app)) (by simp [At.lt]) hlen (fun i hi => i_Module_vectorsCode_1_ok B E.2.1 get_new (app_old get_new) (app_old (app_old hm)) (app_old (app_old hh))), ?_⟩
  rintro _ _ ⟨rfl, rfl⟩
  refine ⟨_, i_unless_ok B E.2.2.2 , rfl, ?_⟩
  refine ⟨rfl, ?_, Ext.app.trans Ext.app⟩
  have e : (if (!decide (∃ i, i < L.length ∧ (!decide (Shp p d ∧ Vec p d (L.getD i z0) 0)) = true)) = true then (0 : Int) else 1) = oc (∀ v ∈ L, Shp p d ∧ Vec p d v 0) 1 := by
    by_cases h : ∀ v ∈ L, Shp p d ∧ Vec p d v 0
    · rw [oc_t h, if_pos]
      simp only [Bool.not_eq_true', decide_eq_false_iff_not]
      rintro ⟨i, hi, hq⟩
      exact hq (h _ (getD_mem hi))
    · rw [oc_f h, if_neg]
      simp only [Bool.not_eq_true', decide_eq_false_iff_not, Classical.not_not]
      apply Classical.byContradiction
      intro hn
      exact h (all_getD.2 fun i hi => Classical.byContradiction fun q => hn ⟨i, hi, q⟩)
  rw [← e]; rfl

/-- a module and vectors of it -/
def SQ (p n d : Int) (g f : By) (L : List By) : Prop := IQ p n d g f ∧ ∀ v ∈ L, Vec p d v 0
theorem s_l06Vectors_ok (B : Bs P ρ) (E : F_s_l06Vectors P ρ) {H : List Blk} {p n d : Int} {f g : By} {a : At} {L : List By} (hL : VS H a L) (hlen : L.length ≤ 1000000) :
    CallR P ρ 390 [.ag [p, n] 1106 f, .ag [d] 513 g, a] H (fun u G => u = .one (.i .i64 (oc (SQ p n d g f L) 1)) ∧ G = H) := by
  refine CallR.pure (call_of_q B.fn B.mo E.1 rfl (fun hA hH => ?_) (by simp only [List.all_cons, List.all_nil, hL.lt]; rfl)) rfl
  refine ⟨_, rfl, ?_⟩
  refine ⟨_, rfl, ?_⟩
  refine .inl ⟨_, _, _, _, app_old get_new, ⟨rfl, by omega⟩, ?_⟩
  refine .inl ⟨_, _, _, _, get_new, ⟨rfl, by omega⟩, ?_⟩
  refine ⟨_, rfl, ?_⟩
  refine ⟨_, s_l06Code1_at B E.2.1 (p := p) (n := n) (d := d) (f := f) (g := g) get_new, ?_⟩
  rintro _ _ ⟨rfl, rfl⟩
  refine ⟨fun h14 => ?_, fun h14 => ?_⟩
  · replace h14 := bne_t h14
    have hq : ¬ IQ p n d g f := fun q => h14 (oc_t q)
    exact ⟨rfl, by rw [oc_f fun q : SQ p n d g f L => hq q.1, show oc (Hop p n f ∧ Mod p n.toNat d g f) 1 = 1 from oc_f hq]; rfl, Ext.app.trans (Ext.app.trans Ext.app)⟩
  · replace h14 := bne_f h14
    have hq : IQ p n d g f := oc_0 h14
    refine ⟨Unit, (fun a2 a3 a4 (i0 : Nat) (x0 : Unit) => [(2, a2), (3, a3), (4, a4), (8, .one (.i .i64 ((i0 : Nat) : Int)))]) _ _ _ , fun (i0 : Nat) (x0 : Unit) (G0 : List Blk) => (G0 = H ++ [⟨false, .by [p, n] 1106 f⟩] ++ [⟨false, .by [d] 513 g⟩] ++ [⟨false, .gs 513 [([d], g)]⟩] ∧ ∀ i, i < i0 → Vec p d (L.getD i z0) 0), L.length, ⟨(), ⟨rfl, fun i h => absurd h (by omega)⟩, ⟨rfl, rfl, rfl, rfl, trivial⟩⟩, ?_⟩
    rintro i0 _ G0 hi0 ⟨rfl, hF0⟩
    refine ⟨_, (hL).len, ?_⟩
    refine ⟨fun h19 => ?_, fun h19 => ?_⟩
    · replace h19 := of_decide_eq_true h19
      refine ⟨_, _, app_old (app_old get_new), rfl, ?_⟩
      refine ⟨_, _, app_old get_new, rfl, ?_⟩
      obtain ⟨k28, o28, n28, c28, q28, ea28, hl28, hq28, r28, N28, f28, hk28, hN28, hf28⟩ := (hL.ext (Ext.app.trans (Ext.app.trans Ext.app))).at i0 (by omega)
      refine ⟨k28, o28, n28, c28, i0, q28, ea28, rfl, hl28, hq28, ?_⟩
      refine ⟨_, _, _, _, _, hk28, ⟨by simp, hN28⟩, hf28, ?_⟩
      refine ⟨_, s_l01Vector_ok B E.2.2 , rfl, ?_⟩
      refine ⟨fun h31 => ?_, fun h31 => ?_⟩
      · skip
        have q31 : ¬ Vec p d (L.getD i0 z0) 0 := fun q => by rw [decide_eq_true q] at h31; cases h31
        exact ⟨rfl, by rw [oc_f fun q : SQ p n d g f L => q31 (q.2 _ (getD_mem (by omega)))]; rfl, Ext.app.trans (Ext.app.trans Ext.app)⟩
      · skip
        have q31 : Vec p d (L.getD i0 z0) 0 := by simpa using h31
        refine ⟨((i0 + 1 : Nat) : Int), w64_id _ (by omega) (by omega), ?_⟩
        refine ⟨by omega, (), ?_, ⟨rfl, rfl, rfl, rfl, trivial⟩⟩
        refine ⟨rfl, fun i hi => ?_⟩
        by_cases e : i = i0
        · subst e; exact q31
        · exact hF0 i (by omega)
    · replace h19 := of_decide_eq_false h19
      have e0 : L.length = i0 := by omega
      subst e0
      exact ⟨rfl, by rw [oc_t (show SQ p n d g f L from ⟨hq, all_getD.2 hF0⟩)]; rfl, Ext.app.trans (Ext.app.trans Ext.app)⟩

/-- what e(i) makes of a vector -/
def maV (p : Int) (d : Nat) (g : By) (i : Nat) (v : By) : By := vec 8 p fun y => sm d fun j => bz v j * bz g (1 + i * 64 + j * 8 + y)
def ledL (p : Int) (n d : Nat) (g : By) (L : List By) : List By := (List.range n).flatMap fun i => L.map (maV p d g i)
theorem ledL_succ {p : Int} {n d : Nat} {g : By} {L : List By} : ledL p (n + 1) d g L = ledL p n d g L ++ L.map (maV p d g n) := by
  unfold ledL; rw [List.range_succ, List.flatMap_append]; simp
theorem ledL_len {p : Int} {d : Nat} {g : By} {L : List By} : ∀ {n : Nat}, (ledL p n d g L).length = n * L.length
  | 0 => by simp [ledL]
  | n + 1 => by rw [ledL_succ, List.length_append, ledL_len, List.length_map, Nat.add_mul, Nat.one_mul]
theorem ledL_vp {p : Int} {n d : Nat} {g : By} {L : List By} (hp : 1 ≤ p) (hp2 : p ≤ 256) : ∀ v ∈ ledL p n d g L, Vp 8 p v := by
  intro v hv
  obtain ⟨i, -, hv⟩ := List.mem_flatMap.1 hv
  obtain ⟨w, -, rfl⟩ := List.mem_map.1 hv
  exact ⟨fun x => bz_vec_lt hp hp2, fun x hx => vec_out hx⟩
theorem i_Module_led_ok (B : Bs P ρ) (E : F_i_Module_led P ρ) {H : List Blk} {km kh n d : Nat} {rm rh : Bool} {p : Int} {f g : By} {a : At} {L : List By} (hp : 1 ≤ p) (hp2 : p ≤ 256) (hn : n ≤ 8) (hd : d ≤ 8) (hm : H[km]? = some ⟨rm, .by [(d : Int)] 513 g⟩) (hh : H[kh]? = some ⟨rh, .by [p, (n : Int)] 1106 f⟩) (hL : VS H a L) (hv : ∀ v ∈ L, ∀ j, d ≤ j → j < 8 → bz v j = 0) (hlen : L.length ≤ 1000000) :
    CallR P ρ 391 [.pt km 0, .pt kh 0, a] H (fun u G => ∃ b, u = .one b ∧ Ext H G ∧ VW H.length G b (ledL p n d g L)) := by
  refine call_of_q B.fn B.mo E.1 rfl (fun hAr hHp => ?_) (by simp only [List.all_cons, List.all_nil, hL.lt]; simp [At.lt, lt_of hm, lt_of hh])
  refine ⟨_, rfl, ?_⟩
  refine ⟨_, _, app_old hh, rfl, ?_⟩
  refine ⟨At, (fun a0 a1 a2 a15 (i0 : Nat) (x0 : At) => [(0, a0), (1, a1), (2, a2), (7, .one x0), (15, a15), (16, .one (.i .i64 ((i0 : Nat) : Int)))]) _ _ _ _ , fun (i0 : Nat) (x0 : At) (G0 : List Blk) => (VW H.length G0 x0 (ledL p i0 d g L) ∧ Upto H.length H G0), n, ⟨_, ⟨VW.nil (Nat.le_refl _), Ext.app.upto⟩, ⟨rfl, rfl, rfl, rfl, rfl, rfl, trivial⟩⟩, ?_⟩
  rintro i0 x0 G0 hi0 ⟨hV0, hU0⟩
  refine ⟨fun h17 => ?_, fun h17 => ?_⟩
  · replace h17 := of_decide_eq_true h17
    refine ⟨_, (hL).len, ?_⟩
    refine ⟨At, (fun a0 a1 a2 a8 a15 a16 a19 a20 (i1 : Nat) (x1 : At) => [(0, a0), (1, a1), (2, a2), (7, .one x1), (8, a8), (15, a15), (16, a16), (19, a19), (20, a20), (21, .one (.i .i64 ((i1 : Nat) : Int)))]) _ _ _ _ _ _ _ _ , fun (i1 : Nat) (x1 : At) (G1 : List Blk) => (VW H.length G1 x1 (ledL p i0 d g L ++ (L.take i1).map (maV p d g i0)) ∧ Upto H.length H G1), L.length, ⟨_, ⟨by simpa using hV0, hU0⟩, ⟨rfl, rfl, rfl, rfl, rfl, rfl, rfl, rfl, rfl, rfl, trivial⟩⟩, ?_⟩
    rintro i1 x1 G1 hi1 ⟨hV1, hU1⟩
    have hE1 : Ext H G1 := Upto.ext Ext.refl hU1 (Nat.le_refl _)
    have hl1 := hE1.len
    refine ⟨fun h22 => ?_, fun h22 => ?_⟩
    · replace h22 := of_decide_eq_true h22
      obtain ⟨k23, o23, n23, c23, q23, ea23, hl23, hq23, r23, N23, f23, hk23, hN23, hf23⟩ := (hL.ext hE1).at i1 (by omega)
      refine ⟨k23, o23, n23, c23, i1, q23, ea23, rfl, hl23, hq23, ?_⟩
      refine ⟨_, _, _, _, _, hk23, ⟨by simp, hN23⟩, hf23, ?_⟩
      refine ⟨_, rfl, ?_⟩
      refine ⟨_, _, _, get_new, cputs_by (by simp) (by omega), eqBk_rfl, ?_⟩
      rw [app_set0]
      refine ⟨i0, _, rfl, by omega, rfl, ?_⟩
      refine ⟨_, _, _, _, L.getD i1 z0, get_new, ⟨by simp, by omega⟩, fun x hx => by simp [spl, hx], ?_⟩
      refine ⟨_, CallOK.at2 (app_old (hE1 _ _ hm)) (app_old (hE1 _ _ hh)) (i_Module_field_ok B E.2.1 (p := p) (n := (n : Int)) (d := (d : Int)) (f := f) (g := g)) rfl rfl, ?_⟩
      rintro _ _ ⟨rfl, rfl⟩
      refine ⟨⟨kept1 get_new get_new, trivial⟩, ?_⟩
      refine ⟨_, CallOK.at1 (app_old (hE1 _ _ hm)) (i_field_apply_ok B E.2.2 (m := d) (p := p) (n := (d : Int)) (v := L.getD i1 z0) (f := g) (hd := [(d : Int)]) (N := 513) (off := 1 + i0 * 64) hp hp2 (by simp) (by omega) hd (hv _ (getD_mem (by omega)))) rfl rfl, ?_⟩
      rintro _ _ ⟨rfl, rfl⟩
      refine ⟨_, rfl, ?_⟩
      have hll : (ledL p i0 d g L).length ≤ 8 * 1000000 := by rw [ledL_len]; exact Nat.mul_le_mul (by omega) hlen
      refine ⟨_, vw_app ((hV1.ext Ext.app).ext Ext.app) (VS.one (v := maV p d g i0 (L.getD i1 z0))) (by simp; omega) (by simp; omega), ?_⟩
      rintro a37 G37 ⟨hv37, hu37⟩
      refine ⟨((i1 + 1 : Nat) : Int), w64_id _ (by omega) (by omega), ?_⟩
      refine ⟨by omega, _, ?_, ⟨rfl, rfl, rfl, rfl, rfl, rfl, rfl, rfl, rfl, rfl, trivial⟩⟩
      dsimp only
      rw [take_getD (by omega), List.map_append, ← List.append_assoc]
      exact ⟨hv37, hU1.trans (Ext.app.upto.trans (Ext.app.upto.trans hu37))⟩
    · replace h22 := of_decide_eq_false h22
      have e1 : L.length = i1 := by omega
      subst e1
      refine ⟨((i0 + 1 : Nat) : Int), w64_id _ (by omega) (by omega), ?_⟩
      refine ⟨by omega, _, ?_, ⟨rfl, rfl, rfl, rfl, rfl, rfl, trivial⟩⟩
      dsimp only
      rw [ledL_succ]
      rw [List.take_length] at hV1
      exact ⟨hV1, hU1⟩
  · replace h17 := of_decide_eq_false h17
    have e0 : n = i0 := by omega
    subst e0
    exact ⟨rfl, x0, rfl, Upto.ext Ext.refl hU0 (Nat.le_refl _), hV0⟩

theorem ma_eq {p : Int} {d i : Nat} {g v : By} : (vec 8 p fun y => sm d fun j => bz v j * bz (fun y => g (1 + i * 64 + y)) (j * 8 + y)) = maV p d g i v := by
  unfold maV
  simp only [bz, Nat.add_assoc]
theorem first2_at (B : Bs P ρ) (E : E_i_first P ρ) {H : List Blk} {k : Nat} {r : Bool} {a b : Int} (hk : H[k]? = some ⟨r, .rw [.i .i64 a, .i .i64 b]⟩) :
    CallR P ρ 139 [.sl k 0 2 2] H fun u G => u = .one (.i .i64 (fz [a, b])) ∧ G = H :=
  ((i_first2_ok B E (a := a) (b := b)).emb (H := H) (H' := H) (args := [.sl k 0 2 2]) [k] rfl ⟨⟨_, hk, fun h => by cases h⟩, trivial⟩ rfl rfl (by simp [back])).r
theorem SQ.vp {p n : Int} {d : Nat} {g f : By} {L : List By} (h : SQ p n d g f L) (hz : ∀ v ∈ L, ∀ x, 8 ≤ x → v x = 0) : ∀ v ∈ L, Vp d p v := by
  intro v hv
  have hp2 := h.1.1.1.1.1.1
  have hd : d ≤ 8 := by have := h.1.2.1.1.2.2; omega
  refine ⟨fun x => ?_, fun x hx => ?_⟩
  · rcases Nat.lt_or_ge x 8 with h8 | h8
    · have := (h.2 v hv x h8).1; rwa [Nat.zero_add] at this
    · rw [bz_eq0.2 (hz v hv x h8)]; omega
  · rcases Nat.lt_or_ge x 8 with h8 | h8
    · have := (h.2 v hv x h8).2 (by omega)
      rw [Nat.zero_add] at this
      exact bz_eq0.1 this
    · exact hz v hv x h8
theorem sq_fz {p n d : Int} {g f : By} {L : List By} : fz [oc (Hop p n f ∧ Mod p n.toNat d g f) 1, oc (∀ v ∈ L, Shp p d ∧ Vec p d v 0) 1] = oc (SQ p n d g f L) 1 := by
  by_cases h1 : Hop p n f ∧ Mod p n.toNat d g f
  · rw [oc_t h1]
    simp only [fz]
    by_cases h2 : ∀ v ∈ L, Vec p d v 0
    · rw [oc_t (show SQ p n d g f L from ⟨h1, h2⟩), oc_t fun v hv => ⟨⟨h1.1.1.1.1, h1.2.1.1.2⟩, h2 v hv⟩]; rfl
    · rw [oc_f (fun q : SQ p n d g f L => h2 q.2), oc_f fun q => h2 fun v hv => (q v hv).2]; rfl
  · rw [oc_f h1, oc_f fun q : SQ p n d g f L => h1 q.1]; rfl
end Hf
namespace Hf
open Go Classical
variable {P : Program} {ρ : Nat → FuncId}
/-- a list that the input brings along: its block may hold other things too -/
def VA (H : List Blk) (a : At) (L : List By) : Prop :=
  (a = .sn ∧ L = []) ∨ ∃ k off cap r cs fz, a = .sl k off L.length cap ∧ H[k]? = some ⟨r, .fo cs fz⟩ ∧ ∀ i x, i < L.length → x < 8 → cs[off + i * 8 + x]? = some (.int .u8 ((((L.getD i z0) x).toNat : Nat) : Int))
theorem VA.ext {H H' : List Blk} {a : At} {L : List By} (h : VA H a L) (e : Ext H H') : VA H' a L := by
  rcases h with h | ⟨k, off, cap, r, cs, fz, h1, h2, h3⟩
  · exact .inl h
  · exact .inr ⟨k, off, cap, r, cs, fz, h1, e k _ h2, h3⟩
theorem VA.lt {H : List Blk} {a : At} {L : List By} (h : VA H a L) : a.lt H.length = true := by
  rcases h with ⟨rfl, -⟩ | ⟨k, off, cap, r, cs, fz, rfl, h2, h3⟩
  · rfl
  · simp [At.lt, lt_of h2]
theorem VA.len {H : List Blk} {a : At} {L : List By} (h : VA H a L) : lenA a = some L.length := by
  rcases h with ⟨rfl, rfl⟩ | ⟨k, off, cap, r, cs, fz, rfl, -⟩ <;> rfl
theorem VA.at {H : List Blk} {a : At} {L : List By} (h : VA H a L) (i : Nat) (hi : i < L.length) :
    ∃ k off len cap q, a = .sl k off len cap ∧ i < len ∧ off + i * 8 = q ∧ ∃ r cs fz, H[k]? = some ⟨r, .fo cs fz⟩ ∧ ∀ y, y < 8 → cs[q + y]? = some (.int .u8 ((((L.getD i z0) y).toNat : Nat) : Int)) := by
  rcases h with ⟨rfl, rfl⟩ | ⟨k, off, cap, r, cs, fz, rfl, h2, h3⟩
  · simp at hi
  · exact ⟨k, off, L.length, cap, off + i * 8, rfl, hi, rfl, r, cs, fz, h2, fun y hy => h3 i y hi hy⟩
/-- room behind a list of n -/
def room (n : Nat) : Nat := if n % 6 = 5 then 0 else if n % 3 = 0 then 1 else n
def v201 : By := fun x => if x = 0 then 201 else 0
/-- a list and what stands behind it -/
def extL (L : List By) : List By := L ++ List.replicate (room L.length) v201
theorem extL_at {L : List By} {i : Nat} : (extL L).getD i z0 = if i < L.length then L.getD i z0 else if i < L.length + room L.length then v201 else z0 := by
  unfold extL
  rw [getD_app]
  split
  · rfl
  · rename_i h
    split
    · rename_i h2
      rw [List.getD_eq_getElem?_getD, List.getElem?_replicate, if_pos (by omega)]; rfl
    · rename_i h2
      rw [List.getD_eq_getElem?_getD, List.getElem?_replicate, if_neg (by omega)]; rfl
/-- an argument as the laws lay it: from the m-th block on, and room behind it -/
def VT (m : Nat) (H : List Blk) (a : At) (L : List By) : Prop :=
  ∃ k f, a = .sl k 0 L.length (L.length + room L.length) ∧ H[k]? = some ⟨false, .by [] ((L.length + room L.length) * 8) f⟩ ∧ m ≤ k ∧ ∀ i x, i < L.length + room L.length → x < 8 → f (i * 8 + x) = ((extL L).getD i z0) x
theorem VT.vw {m : Nat} {H : List Blk} {a : At} {L : List By} (h : VT m H a L) : VW m H a L := by
  obtain ⟨k, f, rfl, h2, h3, h4⟩ := h
  refine ⟨k, 0, _, _, f, rfl, h2, ⟨by omega, by omega, h3⟩, fun i x hi hx => ?_⟩
  rw [Nat.zero_add, h4 i x (by omega) hx, extL_at, if_pos hi]
theorem VT.vs {m : Nat} {H : List Blk} {a : At} {L : List By} (h : VT m H a L) : VS H a L := h.vw.vs
theorem VT.ext {m : Nat} {H H' : List Blk} {a : At} {L : List By} (h : VT m H a L) (e : Ext H H') : VT m H' a L := by
  obtain ⟨k, f, rfl, h2, h3, h4⟩ := h
  exact ⟨k, f, rfl, e _ _ h2, h3, h4⟩
end Hf
namespace Hf
open Go Classical
section
variable {W n : Nat} {p : Int}
def dt (n : Nat) (u v : By) : Int := sm n fun i => bz u i * bz v i
theorem dt_add (hp : 1 ≤ p) (hp2 : p ≤ 256) (hn : n ≤ W) {r u w : By} {k : Int} : cg p (dt n r (addW W p u w k)) (dt n r u + k * dt n r w) := by
  refine (cg_sm (y := fun i => bz r i * bz u i + k * (bz r i * bz w i)) fun i hi => (cg_mul cg.rfl' (cg_add' hp hp2 (by omega))).trans (cg_of_eq (by grind))).trans (cg_of_eq ?_)
  rw [sm_add, sm_mul]; rfl
theorem dt_add' (hp : 1 ≤ p) (hp2 : p ≤ 256) (hn : n ≤ W) {r u w : By} {k : Int} : cg p (dt n (addW W p u w k) r) (dt n u r + k * dt n w r) := by
  refine (cg_sm (y := fun i => bz u i * bz r i + k * (bz w i * bz r i)) fun i hi => (cg_mul (cg_add' hp hp2 (by omega)) cg.rfl').trans (cg_of_eq (by grind))).trans (cg_of_eq ?_)
  rw [sm_add, sm_mul]; rfl
theorem dt_z {r : By} : dt n r z0 = 0 := sm_zero fun i _ => by rw [bz_z0, Int.mul_zero]
theorem dt_z' {r : By} : dt n z0 r = 0 := sm_zero fun i _ => by rw [bz_z0, Int.zero_mul]
/-- a solution of the equations E -/
def KerD (n : Nat) (p : Int) (E : List By) (v : By) : Prop := Vp n p v ∧ ∀ e ∈ E, cg p (dt n e v) 0
theorem KerD.sp (hp : 1 ≤ p) (hp2 : p ≤ 256) (hn : n ≤ W) {E : List By} {v : By} (h : KerD n p E v) {u : By} (hu : Sp' W p E u) : cg p (dt n u v) 0 := by
  induction hu with
  | z => rw [dt_z']; rfl
  | a h1 h2 ih =>
    refine (dt_add' hp hp2 hn).trans ((cg_add ih (cg_mul cg.rfl' (h.2 _ h2))).trans (cg_of_eq (by simp)))
theorem KerD.add (hp : 1 ≤ p) (hp2 : p ≤ 256) {E : List By} {u w : By} {k : Int} (hu : KerD n p E u) (hw : KerD n p E w) : KerD n p E (addW n p u w k) :=
  ⟨Vp.add hp hp2, fun e he => (dt_add hp hp2 (Nat.le_refl _)).trans ((cg_add (hu.2 e he) (cg_mul cg.rfl' (hw.2 e he))).trans (cg_of_eq (by simp)))⟩
theorem KerD.z (hp : 1 ≤ p) {E : List By} : KerD n p E z0 := ⟨Vp.z hp, fun e _ => by rw [dt_z]; rfl⟩
theorem KerD.of (hp : 1 ≤ p) (hp2 : p ≤ 256) (hn : n ≤ W) {E L : List By} (h : ∀ u ∈ L, KerD n p E u) {v : By} (hv : Sp' W p L v) : KerD n p E v := by
  induction hv with
  | z => exact .z hp
  | a h1 h2 ih => rw [addW_w hn ih.1 (h _ h2).1]; exact ih.add hp hp2 (h _ h2)

end
end Hf
namespace Hf
open Go Classical
section
variable {p : Int}
/-- the first entries are 1, and the later ones have 0 there -/
structure HR (W : Nat) (p : Int) (L : List By) : Prop where
  vp : ∀ r ∈ L, Vp W p r
  ld : ∀ r ∈ L, fstW W r < W ∧ r (fstW W r) = 1
  st : L.Pairwise fun a b => b (fstW W a) = 0
variable {W : Nat}
theorem HR.tl {r : By} {L : List By} (h : HR W p (r :: L)) : HR W p L := ⟨fun q hq => h.vp q (by simp [hq]), fun q hq => h.ld q (by simp [hq]), (List.pairwise_cons.1 h.st).2⟩
theorem byW1_self (hp : 1 ≤ p) (hp2 : p ≤ 256) {r : By} (hv : Vp W p r) (h1 : r (fstW W r) = 1) : byW1 W p r r = z0 := by
  rw [byW1_add hp hp2 hv]
  refine (Vp.add hp hp2).ext (Vp.z hp) fun x hx => (cg_add' hp hp2 hx).trans (cg_of_eq ?_)
  rw [one_bz h1, bz_z0]; omega
theorem byW1_at (hp : 1 ≤ p) (hp2 : p ≤ 256) {v r : By} {y : Nat} (hv : Vp W p v) (h : r y = 0) : byW1 W p v r y = v y := by
  rw [byW1_add hp hp2 hv]
  by_cases hy : y < W
  · apply bz_inj
    show bz _ y = bz v y
    rw [bz_add hp hp2 hy, bz_eq0.2 h, Int.mul_zero, Int.add_zero]
    have := hv.1 y
    exact Int.emod_eq_of_lt (by unfold bz; omega) this
  · rw [(Vp.add hp hp2).2 y (by omega), hv.2 y (by omega)]
theorem byW1_lead (hp : 1 ≤ p) (hp2 : p ≤ 256) {v r : By} (hv : Vp W p v) (hr : fstW W r < W ∧ r (fstW W r) = 1) : byW1 W p v r (fstW W r) = 0 := by
  rw [byW1_add hp hp2 hv]
  apply bz_eq0.1
  rw [bz_add hp hp2 hr.1, one_bz hr.2, Int.mul_one, Int.add_right_neg]
  exact Int.zero_emod p
theorem byW_at (hp : 1 ≤ p) (hp2 : p ≤ 256) {y : Nat} : ∀ {L : List By} {v : By}, Vp W p v → (∀ r ∈ L, r y = 0) → byW W p v L y = v y
  | [], _, _, _ => rfl
  | r :: L, v, hv, h => by
    show byW W p (byW1 W p v r) L y = v y
    rw [byW_at hp hp2 (byW1_vp hp hp2 hv) fun q hq => h q (by simp [hq]), byW1_at hp hp2 hv (h r (by simp))]
theorem HR.left (hp : 1 ≤ p) (hp2 : p ≤ 256) : ∀ {L : List By} {v : By}, HR W p L → Vp W p v → ∀ r ∈ L, byW W p v L (fstW W r) = 0
  | [], _, _, _, r, hr => by simp at hr
  | q :: L, v, h, hv, r, hr => by
    show byW W p (byW1 W p v q) L (fstW W r) = 0
    rcases List.mem_cons.1 hr with rfl | hr
    · rw [byW_at hp hp2 (byW1_vp hp hp2 hv) (List.pairwise_cons.1 h.st).1]
      exact byW1_lead hp hp2 hv (h.ld r (by simp))
    · exact h.tl.left hp hp2 (byW1_vp hp hp2 hv) r hr
theorem HR.kill (hp : 1 ≤ p) (hp2 : p ≤ 256) : ∀ {L : List By}, HR W p L → ∀ w ∈ L, byW W p w L = z0
  | [], _, w, hw => by simp at hw
  | q :: L, h, w, hw => by
    show byW W p (byW1 W p w q) L = z0
    rcases List.mem_cons.1 hw with rfl | hw
    · rw [byW1_self hp hp2 (h.vp w (by simp)) (h.ld w (by simp)).2]
      exact byW_fix fun r _ => rfl
    · have e : byW1 W p w q = w := by unfold byW1; rw [if_pos ((List.pairwise_cons.1 h.st).1 w hw)]
      rw [e]; exact h.tl.kill hp hp2 w hw
theorem SpE.one (hp : 1 ≤ p) (hp2 : p ≤ 256) {A B : List By} {u w : By} {k l : Int} (hAB : SpE W p A B) (hA : ∀ a ∈ A, Vp W p a) (hB : ∀ a ∈ B, Vp W p a) (hu : Vp W p u) (hw : Vp W p w) {s s' : By} (hs : Sp' W p A s) (hs' : Sp' W p A s') (h1 : w = addW W p s u k) (h2 : u = addW W p s' w l) :
    SpE W p (A ++ [w]) (B ++ [u]) := by
  have subA : ∀ {C : List By} {v : By}, Sp' W p A v → Sp' W p (A ++ C) v := fun h => h.sub hp hp2 fun r hr => .mem hp hp2 (List.mem_append_left _ hr) (hA r hr)
  have subB : ∀ {C : List By} {v : By}, Sp' W p B v → Sp' W p (B ++ C) v := fun h => h.sub hp hp2 fun r hr => .mem hp hp2 (List.mem_append_left _ hr) (hB r hr)
  refine SpE.of hp hp2 (fun r hr => ?_) (fun r hr => ?_)
  · rcases List.mem_append.1 hr with h | h
    · exact subB ((hAB r).1 (.mem hp hp2 h (hA r h)))
    · rw [List.mem_singleton.1 h, h1]
      exact (subB ((hAB s).1 hs)).add hp hp2 (.mem hp hp2 (by simp) hu)
  · rcases List.mem_append.1 hr with h | h
    · exact subA ((hAB r).2 (.mem hp hp2 h (hB r h)))
    · rw [List.mem_singleton.1 h, h2]
      exact (subA hs').add hp hp2 (.mem hp hp2 (by simp) hw)
theorem Sp'.congr {A B : List By} (h : ∀ r, r ∈ A ↔ r ∈ B) : SpE W p A B := by
  have one : ∀ {A B : List By}, (∀ r, r ∈ A → r ∈ B) → ∀ v, Sp' W p A v → Sp' W p B v := by
    intro A B h v hv
    induction hv with
    | z => exact .z
    | a h1 h2 ih => exact .a ih (h _ h2)
  exact fun v => ⟨one (fun r => (h r).1) v, one (fun r => (h r).2) v⟩

/-! ### what is left over are the solutions -/
theorem HR.app (hp : 1 ≤ p) (hp2 : p ≤ 256) {V Z : List By} (h : HR W p V) (hz : ∀ z ∈ Z, Vp W p z ∧ ∀ r ∈ V, z (fstW W r) = 0) {u : By} (hu : Sp' W p (V ++ Z) u) : Sp' W p Z (byW W p u V) := by
  have hv : ∀ w ∈ V ++ Z, Vp W p w := by
    intro w hw
    rcases List.mem_append.1 hw with h' | h'
    · exact h.vp w h'
    · exact (hz w h').1
  induction hu with
  | z => rw [byW_fix fun r _ => rfl]; exact .z
  | a h1 h2 ih =>
    rename_i u w k
    rw [byW_lin hp hp2 (fun r hr => (h.ld r hr).1) (h1.vp hp hp2) (hv _ h2)]
    rcases List.mem_append.1 h2 with h' | h'
    · rw [h.kill hp hp2 _ h', add_z hp hp2 (byW_vp hp hp2 (h1.vp hp hp2))]; exact ih
    · rw [byW_fix fun r hr => (hz _ h').2 r hr]; exact .a ih h'
end
end Hf
namespace Hf
open Go Classical
section
variable {p : Int} {W n : Nat}
/-- a combination -/
def cmF (n : Nat) (p : Int) (a : Nat → By) (x : By) : By := vec 8 p fun y => sm n fun i => bz x i * bz (a i) y
theorem cmF_vp (hp : 1 ≤ p) (hp2 : p ≤ 256) {a : Nat → By} {x : By} : Vp 8 p (cmF n p a x) := ⟨fun x => bz_vec_lt hp hp2, fun x hx => vec_out hx⟩
theorem cmF_0 {a : Nat → By} {x : By} : cmF 0 p a x = z0 := vec_zero fun y _ => rfl
theorem cmF_succ (hp : 1 ≤ p) (hp2 : p ≤ 256) {a : Nat → By} {x : By} : cmF (n + 1) p a x = addW 8 p (cmF n p a x) (a n) (bz x n) :=
  (cmF_vp hp hp2).ext (Vp.add hp hp2) fun y hy => (cg_vec hp hp2 hy).trans (cg.symm ((cg_add' hp hp2 hy).trans (cg_add (cg_vec hp hp2 hy) cg.rfl')))
theorem cmF_congr {a b : Nat → By} {x : By} (h : ∀ i, i < n → ∀ y, y < 8 → a i y = b i y) : cmF n p a x = cmF n p b x :=
  vec_congr fun y hy => cg_of_eq (sm_congr fun i hi => by unfold bz; rw [h i hi y hy])
theorem cmF_add (hp : 1 ≤ p) (hp2 : p ≤ 256) (hn : n ≤ W) {a : Nat → By} {u w : By} {k : Int} : cmF n p a (addW W p u w k) = addW 8 p (cmF n p a u) (cmF n p a w) k := by
  refine (cmF_vp hp hp2).ext (Vp.add hp hp2) fun y hy => ?_
  refine (cg_vec hp hp2 hy).trans (cg.symm ((cg_add' hp hp2 hy).trans ((cg_add (cg_vec hp hp2 hy) (cg_mul cg.rfl' (cg_vec hp hp2 hy))).trans (cg.symm ?_))))
  rw [← sm_mul, ← sm_add]
  exact cg_sm fun i hi => (cg_mul (cg_add' hp hp2 (by omega)) cg.rfl').trans (cg_of_eq (by grind))
theorem cmF_z {a : Nat → By} : cmF n p a z0 = z0 := vec_zero fun y _ => sm_zero fun i _ => by rw [bz_z0, Int.zero_mul]
theorem cmF_sp (hp : 1 ≤ p) (hp2 : p ≤ 256) {A : List By} {x : By} : ∀ {n : Nat}, n ≤ A.length → Sp' 8 p A (cmF n p (fun i => A.getD i z0) x)
  | 0, _ => by rw [cmF_0]; exact .z
  | n + 1, h => by rw [cmF_succ hp hp2]; exact .a (cmF_sp hp hp2 (by omega)) (getD_mem (by omega))
end
end Hf
namespace Hf
open Go Classical
section
variable {p : Int} {n d : Nat} {g f : By}
theorem ma_vp (hp : 1 ≤ p) (hp2 : p ≤ 256) {i : Nat} {v : By} : Vp 8 p (maV p d g i v) := cmF_vp hp hp2
theorem ma_vd (hp : 1 ≤ p) (hp2 : p ≤ 256) (h : TabM p n d g) {i : Nat} (hi : i < 8) (hd : d ≤ 8) {v : By} : Vp d p (maV p d g i v) := by
  refine ⟨(ma_vp hp hp2).1, fun x hx => ?_⟩
  by_cases h8 : x < 8
  · apply bz_eq0.1
    unfold maV
    rw [bz_vec hp hp2 h8, sm_zero fun j hj => by rw [h.z hi (by omega) h8 (.inr (.inr (by omega))), Int.mul_zero]]
    exact Int.zero_emod p
  · exact (ma_vp hp hp2).2 x (by omega)
theorem ma_add (hp : 1 ≤ p) (hp2 : p ≤ 256) (hd : d ≤ 8) {i : Nat} {u w : By} {k : Int} : maV p d g i (addW 8 p u w k) = addW 8 p (maV p d g i u) (maV p d g i w) k := cmF_add hp hp2 hd
theorem ma_z {i : Nat} : maV p d g i z0 = z0 := cmF_z
/-- the unit does nothing -/
theorem ma_unit (hp : 1 ≤ p) (hp2 : p ≤ 256) (hn : n ≤ 8) (hd : d ≤ 8) (hU : ∀ k, k < d → MU p n g f k) {v : By} (hv : Vp d p v) : v = cmF n p (fun l => maV p d g l v) (sh f 2) := by
  refine (hv.mono hd).ext (cmF_vp hp hp2) fun y hy => cg.symm ((cg_vec hp hp2 hy).trans ?_)
  have e1 : cg p (sm n fun i => bz (sh f 2) i * bz (maV p d g i v) y) (sm n fun i => bz f (2 + i) * sm d fun k => bz v k * bz g (1 + i * 64 + k * 8 + y)) :=
    cg_sm fun i _ => cg_mul cg.rfl' (cg_vec hp hp2 hy)
  refine e1.trans ?_
  have e2 : (sm n fun i => bz f (2 + i) * sm d fun k => bz v k * bz g (1 + i * 64 + k * 8 + y)) = sm d fun k => bz v k * sm n fun i => bz f (2 + i) * bz g (1 + i * 64 + k * 8 + y) := by
    rw [sm_congr fun i _ => (sm_mul (bz f (2 + i))).symm, sm_swap]
    refine sm_congr fun k _ => ?_
    rw [← sm_mul]
    exact sm_congr fun i _ => by rw [Int.mul_left_comm]
  rw [e2]
  have e3 : cg p (sm d fun k => bz v k * sm n fun i => bz f (2 + i) * bz g (1 + i * 64 + k * 8 + y)) (sm d fun k => bz v k * bz (bas k) y) := cg_sm fun k hk => cg_mul cg.rfl' (by
    have := hU k hk y hy
    rwa [sm_congr fun l _ => by rw [← Nat.add_assoc]] at this)
  refine e3.trans (cg_of_eq ?_)
  rcases Nat.lt_or_ge y d with h | h
  · have e4 : (sm d fun k => bz v k * bz (bas k) y) = sm d fun k => bz (bas y) k * bz v k := by
      refine sm_congr fun k _ => ?_
      rw [Int.mul_comm]
      congr 1
      by_cases e : k = y
      · subst e; rfl
      · rw [bz_eq0.2 (show bas k y = 0 by unfold bas; rw [if_neg (Ne.symm e)]), bz_eq0.2 (show bas y k = 0 by unfold bas; rw [if_neg e])]
    rw [e4, sm_bas h]
  · rw [bz_eq0.2 (hv.2 y h)]
    exact sm_zero fun k hk => by rw [bz_eq0.2 (show bas k y = 0 by unfold bas; rw [if_neg (by omega)]), Int.mul_zero]
/-- one behind the other -/
theorem ma_two (hp : 1 ≤ p) (hp2 : p ≤ 256) (hn : n ≤ 8) (hd : d ≤ 8) {i j : Nat} (hA : ∀ k, k < d → MA p n d g f i j k) {v : By} : maV p d g i (maV p d g j v) = cmF n p (fun l => maV p d g l v) (sh f (10 + i * 64 + j * 8)) := by
  refine (ma_vp hp hp2).ext (cmF_vp hp hp2) fun y hy => ?_
  have e1 : cg p (bz (maV p d g i (maV p d g j v)) y) (sm d fun l => (sm d fun k => bz v k * bz g (1 + j * 64 + k * 8 + l)) * bz g (1 + i * 64 + l * 8 + y)) :=
    (cg_vec hp hp2 hy).trans (cg_sm fun l hl => cg_mul (cg_vec hp hp2 (by omega)) cg.rfl')
  have e2 : (sm d fun l => (sm d fun k => bz v k * bz g (1 + j * 64 + k * 8 + l)) * bz g (1 + i * 64 + l * 8 + y)) = sm d fun k => bz v k * sm d fun l => bz g (1 + j * 64 + k * 8 + l) * bz g (1 + i * 64 + l * 8 + y) := by
    rw [sm_congr fun l _ => (sm_mul_r (bz g (1 + i * 64 + l * 8 + y))).symm, sm_swap]
    refine sm_congr fun k _ => ?_
    rw [← sm_mul]
    exact sm_congr fun l _ => Int.mul_assoc _ _ _
  have e3 : cg p (sm d fun k => bz v k * sm d fun l => bz g (1 + j * 64 + k * 8 + l) * bz g (1 + i * 64 + l * 8 + y)) (sm d fun k => bz v k * sm n fun l => bz f (10 + i * 64 + j * 8 + l) * bz g (1 + l * 64 + k * 8 + y)) := cg_sm fun k hk => cg_mul cg.rfl' (cg.symm (by
    have := hA k hk y hy
    rwa [sm_congr fun l _ => by rw [← Nat.add_assoc], sm_congr (n := d) fun l _ => by rw [← Nat.add_assoc]] at this))
  have e4 : (sm d fun k => bz v k * sm n fun l => bz f (10 + i * 64 + j * 8 + l) * bz g (1 + l * 64 + k * 8 + y)) = sm n fun l => bz f (10 + i * 64 + j * 8 + l) * sm d fun k => bz v k * bz g (1 + l * 64 + k * 8 + y) := by
    rw [sm_congr fun k _ => (sm_mul (bz v k)).symm, sm_swap]
    refine sm_congr fun l _ => ?_
    rw [← sm_mul]
    exact sm_congr fun k _ => by rw [Int.mul_left_comm]
  refine e1.trans ((cg_of_eq e2).trans (e3.trans ((cg_of_eq e4).trans (cg.symm ((cg_vec hp hp2 hy).trans ?_)))))
  exact cg_sm fun l _ => cg_mul cg.rfl' (cg_vec hp hp2 hy)
theorem led_one {v : By} : ledL p n d g [v] = (List.range n).map fun i => maV p d g i v := by
  unfold ledL
  simp only [List.map_cons, List.map_nil]
  induction List.range n with
  | nil => rfl
  | cons a l ih => simp [ih]
theorem led_at {v : By} {i : Nat} (hi : i < n) : (ledL p n d g [v]).getD i z0 = maV p d g i v := by
  rw [led_one]; simp [List.getD_eq_getElem?_getD, hi]
theorem sp_cm (hp : 1 ≤ p) (hp2 : p ≤ 256) {v x : By} : Sp' 8 p (ledL p n d g [v]) (cmF n p (fun l => maV p d g l v) x) := by
  have := cmF_sp (p := p) hp hp2 (A := ledL p n d g [v]) (x := x) (n := n) (by rw [ledL_len]; simp)
  rwa [cmF_congr fun i hi y _ => by rw [led_at hi]] at this
/-- what v leads to is led into itself -/
theorem led_own (hp : 1 ≤ p) (hp2 : p ≤ 256) (hM : Mod p n d g f) (hn : n ≤ 8) {v : By} (hv : Vp d p v) : Sp' 8 p (ledL p n d g [v]) v ∧ ∀ i, i < n → ∀ u, Sp' 8 p (ledL p n d g [v]) u → Sp' 8 p (ledL p n d g [v]) (maV p d g i u) := by
  have hd : d ≤ 8 := by have := hM.1.1.2.2; omega
  constructor
  · have e := ma_unit hp hp2 hn hd (fun k hk => hM.2.1 k (by simpa using hk)) hv
    have := sp_cm (n := n) (d := d) (g := g) hp hp2 (v := v) (x := sh f 2)
    rw [← e] at this
    exact this
  · intro i hi u hu
    induction hu with
    | z => rw [ma_z]; exact .z
    | a q1 q2 ih =>
      rename_i u w k
      rw [ma_add hp hp2 hd]
      refine ih.add hp hp2 ?_
      rw [led_one] at q2
      obtain ⟨j, hj, rfl⟩ := List.mem_map.1 q2
      rw [ma_two hp hp2 hn hd (f := f) fun k hk => hM.2.2 i j hi (List.mem_range.1 hj) k (by simpa using hk)]
      exact sp_cm hp hp2
/-- a list that has v, is led into itself and lies in what v leads to -/
theorem sub_done (hp : Pr p) (hM : Mod p n d g f) (hn : n ≤ 8) {v : By} (hv : Vp d p v) {S : List By} (hS : RR 8 p S) (h1 : Sp' 8 p S v) (h2 : ∀ u ∈ S, Sp' 8 p (ledL p n d g [v]) u) (h3 : ∀ u ∈ ledL p n d g S, Sp' 8 p S u) : S = redL p (ledL p n d g [v]) := by
  have hp1 : 1 ≤ p := by have := hp.1; omega
  have hp2 : p ≤ 256 := by have := hp.2.1; omega
  have hd : d ≤ 8 := by have := hM.1.1.2.2; omega
  obtain ⟨r1, r2⟩ := redL_rr hp (ledL_vp (n := n) (d := d) (g := g) (L := [v]) hp1 hp2)
  refine hS.unique hp1 hp2 r1 (SpE.trans (SpE.of hp1 hp2 h2 fun r hr => ?_) r2.symm)
  rw [led_one] at hr
  obtain ⟨i, hi, rfl⟩ := List.mem_map.1 hr
  have hi := List.mem_range.1 hi
  clear h2
  revert h1
  generalize v = u
  intro h1
  induction h1 with
  | z => rw [ma_z]; exact .z
  | a q1 q2 ih =>
    rename_i u w k
    rw [ma_add hp1 hp2 hd]
    refine ih.add hp1 hp2 (h3 _ ?_)
    exact List.mem_flatMap.2 ⟨i, List.mem_range.2 hi, List.mem_map_of_mem q2⟩
end
theorem nodup_sub : ∀ {A B : List Nat}, A.Nodup → (∀ x ∈ A, x ∈ B) → A.length ≤ B.length ∧ (A.length = B.length → ∀ x ∈ B, x ∈ A)
  | [], B, _, _ => ⟨Nat.zero_le _, fun h x hx => by
    have : B = [] := List.length_eq_zero_iff.1 h.symm
    subst this; cases hx⟩
  | a :: A, B, hn, hs => by
    obtain ⟨h1, h2⟩ := List.nodup_cons.1 hn
    have ha : a ∈ B := hs a (by simp)
    have hle := List.length_erase_of_mem ha
    have hpos : 0 < B.length := List.length_pos_of_mem ha
    obtain ⟨q1, q2⟩ := nodup_sub (A := A) (B := B.erase a) h2 fun x hx => (List.mem_erase_of_ne (by rintro rfl; exact h1 hx)).2 (hs x (by simp [hx]))
    refine ⟨by simp only [List.length_cons]; omega, fun h x hx => ?_⟩
    by_cases e : x = a
    · subst e; simp
    · exact List.mem_cons_of_mem _ (q2 (by simp only [List.length_cons] at h; omega) x ((List.mem_erase_of_ne e).2 hx))
section
variable {p : Int}
/-- a space of the same size that lies in another one -/
theorem RR.same (hp1 : 1 ≤ p) (hp2 : p ≤ 256) {A B : List By} (hA : RR 8 p A) (hB : RR 8 p B) (h : ∀ u ∈ A, Sp' 8 p B u) : A.length ≤ B.length ∧ (A.length = B.length → SpE 8 p A B) := by
  have nA : (A.map (fstW 8)).Nodup := by
    rw [List.nodup_iff_pairwise_ne, List.pairwise_map]
    exact hA.sorted.imp fun h => Nat.ne_of_lt h
  have sub : ∀ x ∈ A.map (fstW 8), x ∈ B.map (fstW 8) := by
    intro x hx
    obtain ⟨u, hu, rfl⟩ := List.mem_map.1 hx
    obtain ⟨b, hb, e⟩ := hB.lead hp1 hp2 (h u hu) (hA.nz hu)
    exact List.mem_map.2 ⟨b, hb, e⟩
  obtain ⟨q1, q2⟩ := nodup_sub nA sub
  simp only [List.length_map] at q1 q2
  refine ⟨q1, fun e => SpE.of hp1 hp2 h fun b hb => ?_⟩
  have hbv := hB.vp b hb
  refine (hA.in_iff hp1 hp2 hbv).2 ?_
  apply Classical.byContradiction
  intro hn
  obtain ⟨s, m1, m2, m3⟩ := byW_sp hp1 hp2 (L := A) (M := A) (v := b) (fun _ h => h) hbv
  have hr : Sp' 8 p B (byW 8 p b A) := by
    rw [m3]
    exact (Sp'.mem hp1 hp2 hb hbv).add hp1 hp2 (m1.sub hp1 hp2 h)
  obtain ⟨c, hc, e2⟩ := hB.lead hp1 hp2 hr hn
  have hcA := q2 e _ (List.mem_map.2 ⟨c, hc, rfl⟩)
  obtain ⟨a, ha, e3⟩ := List.mem_map.1 hcA
  have h0 := hA.left hp1 hp2 hbv a ha
  have hl : fstW 8 (byW 8 p b A) < 8 := by rw [← e2, ← e3]; exact hA.fs a ha
  have := fstW_ne (W := 8) hl
  rw [e3, e2] at h0
  exact this h0
end
end Hf
namespace Hf
open Go Classical
variable {P : Program} {ρ : Nat → FuncId}
noncomputable def submV (p n d : Int) (g f v : By) : List By := if SQ p n d g f [v] then redL p (ledL p n.toNat d.toNat g [v]) else []
theorem submV_len {p n d : Int} {g f v : By} : (submV p n d g f v).length ≤ 8 := by
  unfold submV
  split
  · rename_i h
    have hp := h.1.1.1.1.1
    exact (redL_rr hp (ledL_vp (by have := hp.1; omega) (by have := hp.2.1; omega))).1.len
  · simp
theorem s_SubmoduleOf_ok (B : Bs P ρ) (E : F_s_SubmoduleOf P ρ) {H : List Blk} {p n d : Int} {f g v : By} (hz : ∀ x, 8 ≤ x → v x = 0) :
    CallR P ρ 381 [.ag [p, n] 1106 f, .ag [d] 513 g, .ag [] 8 v] H (fun u G => ∃ b, u = .tup [b, .i .i64 (oc (SQ p n d g f [v]) 1)] ∧ Ext H G ∧ VS G b (submV p n d g f v)) := by
  refine call_of_q B.fn B.mo E.1 rfl (fun hAr hHp => ?_) rfl
  refine ⟨_, rfl, ?_⟩
  refine ⟨_, rfl, ?_⟩
  refine ⟨_, rfl, ?_⟩
  refine .inl ⟨_, _, _, _, app_old (app_old get_new), ⟨rfl, by omega⟩, ?_⟩
  refine .inl ⟨_, _, _, _, app_old get_new, ⟨rfl, by omega⟩, ?_⟩
  refine ⟨_, _, _, _, v, get_new, ⟨by simp, by omega⟩, fun x _ => congrArg _ (Nat.zero_add x).symm, ?_⟩
  refine ⟨_, rfl, ?_⟩
  refine ⟨_, s_l06Vectors_ok B E.2.1 (L := [v]) VS.one (by simp), ?_⟩
  rintro _ _ ⟨rfl, rfl⟩
  refine ⟨fun h17 => ?_, fun h17 => ?_⟩
  · replace h17 := bne_t h17
    refine ⟨rfl, .sn, rfl, Ext.app.trans (Ext.app.trans (Ext.app.trans Ext.app)), .inl ⟨rfl, ?_⟩⟩
    unfold submV; rw [if_neg fun q : SQ p n d g f [v] => h17 (oc_t q)]
  · replace h17 := bne_f h17
    have hq : SQ p n d g f [v] := oc_0 h17
    obtain ⟨n, rfl⟩ : ∃ m : Nat, n = (m : Int) := ⟨n.toNat, by have := hq.1.1.1.1.2.1; omega⟩
    obtain ⟨d, rfl⟩ : ∃ m : Nat, d = (m : Int) := ⟨d.toNat, by have := hq.1.2.1.1.2.1; omega⟩
    have hpr := hq.1.1.1.1.1
    have hp2 := hpr.1
    have hp3 := hpr.2.1
    have hn8 : n ≤ 8 := by have := hq.1.1.1.1.2.2; omega
    have hd8 : d ≤ 8 := by have := hq.1.2.1.1.2.2; omega
    refine ⟨_, rfl, ?_⟩
    refine ⟨At, (fun a3 a4 a5 (i0 : Nat) (x0 : At) => [(3, a3), (4, a4), (5, a5), (9, .one x0), (10, .one (.i .i64 ((i0 : Nat) : Int)))]) _ _ _ , fun (i0 : Nat) (x0 : At) (G0 : List Blk) => (VS G0 x0 (redL p ((List.range i0).map fun i => maV p d g i v)) ∧ Ext (H ++ [⟨false, .by [p, (n : Int)] 1106 f⟩] ++ [⟨false, .by [(d : Int)] 513 g⟩] ++ [⟨false, .by [] 8 v⟩]) G0), n, ⟨_, ⟨(VW.nil (m := 0) (Nat.zero_le _)).vs, Ext.app.trans Ext.app⟩, ⟨rfl, rfl, rfl, rfl, rfl, trivial⟩⟩, ?_⟩
    rintro i0 x0 G0 hi0 ⟨hV0, hE0⟩
    have hb3 := hE0 _ _ (app_old (app_old get_new))
    have hb4 := hE0 _ _ (app_old get_new)
    have hb5 := hE0 _ _ get_new
    refine ⟨_, _, hb3, rfl, ?_⟩
    refine ⟨fun h23 => ?_, fun h23 => ?_⟩
    · replace h23 := of_decide_eq_true h23
      refine ⟨_, _, hb3, rfl, ?_⟩
      refine ⟨_, _, hb3, rfl, ?_⟩
      refine ⟨_, _, hb4, rfl, ?_⟩
      refine ⟨i0, _, rfl, by omega, rfl, ?_⟩
      refine ⟨_, _, _, _, (fun y => g (1 + i0 * 64 + y)), hb4, ⟨by simp, by omega⟩, fun x hx => rfl, ?_⟩
      refine ⟨_, _, _, _, v, hb5, ⟨by simp, by omega⟩, fun x _ => congrArg _ (Nat.zero_add x).symm, ?_⟩
      refine ⟨_, s_l01Apply_ok B E.2.2.1 (by omega) (by omega) hd8, rfl, ?_⟩
      rw [ma_eq]
      have hrv : ∀ u ∈ (List.range i0).map (fun i => maV p d g i v), Vp 8 p u := fun u h => by
        obtain ⟨i, -, rfl⟩ := List.mem_map.1 h
        exact ma_vp (by omega) (by omega)
      have hrr := (redL_rr hpr hrv).1
      have hrl := hrr.len
      refine ⟨_, s_l01Put_ok B E.2.2.2 (by omega) (by omega) hV0 hrr.fs (by omega), ?_⟩
      rintro _ G39 ⟨b39, rfl, hE39, hV39⟩
      refine ⟨((i0 + 1 : Nat) : Int), w64_id _ (by omega) (by omega), ?_⟩
      refine ⟨by omega, _, ?_, ⟨rfl, rfl, rfl, rfl, rfl, trivial⟩⟩
      dsimp only
      rw [List.range_succ, List.map_append, List.map_cons, List.map_nil, redL_snoc]
      exact ⟨hV39, hE0.trans hE39⟩
    · replace h23 := of_decide_eq_false h23
      have e0 : n = i0 := by omega
      subst e0
      refine ⟨rfl, x0, by rw [oc_t hq]; rfl, Ext.app.trans (Ext.app.trans (Ext.app.trans hE0)), ?_⟩
      unfold submV; rw [if_pos hq, Int.toNat_natCast, Int.toNat_natCast, led_one]
      exact hV0

theorem i_SubmoduleOf_ok (B : Bs P ρ) (E : F_i_SubmoduleOf P ρ) {H : List Blk} {p n d : Int} {f g v : By} (hz : ∀ x, 8 ≤ x → v x = 0) :
    CallR P ρ 382 [.ag [p, n] 1106 f, .ag [d] 513 g, .ag [] 8 v] H (fun u G => ∃ b, u = .tup [b, .i .i64 (oc (SQ p n d g f [v]) 1)] ∧ Ext H G ∧ VM H.length G b (submV p n d g f v)) := by
  refine call_of_q B.fn B.mo E.1 rfl (fun hAr hHp => ?_) rfl
  refine ⟨_, rfl, ?_⟩
  refine ⟨_, rfl, ?_⟩
  refine ⟨_, rfl, ?_⟩
  refine ⟨_, rfl, ?_⟩
  refine ⟨_, i_modulesCode1_at B E.2.1 (p := p) (n := n) (d := d) (f := f) (g := g) (app_old (app_old (app_old get_new))) get_new (app_old (app_old get_new)), ?_⟩
  rintro _ _ ⟨rfl, rfl⟩
  refine ⟨_, _, _, _, v, app_old get_new, ⟨by simp, by omega⟩, fun x _ => congrArg _ (Nat.zero_add x).symm, ?_⟩
  refine ⟨_, rfl, ?_⟩
  refine ⟨_, i_Module_vectorsCode_ok B E.2.2.1 (L := [v]) (d := d) (g := g) (p := p) (n := n) (f := f) (app_old (app_old (app_old get_new))) (app_old (app_old (app_old (app_old get_new)))) VS.one (by simp), ?_⟩
  rintro _ _ ⟨rfl, rfl⟩
  refine ⟨_, rfl, ?_⟩
  refine ⟨_, first2_at B E.2.2.2.1 get_new, ?_⟩
  rintro _ _ ⟨rfl, rfl⟩
  rw [sq_fz]
  refine ⟨fun h20 => ?_, fun h20 => ?_⟩
  · replace h20 := bne_t h20
    refine ⟨rfl, .sn, rfl, Ext.app.trans (Ext.app.trans (Ext.app.trans (Ext.app.trans (Ext.app.trans Ext.app)))), .inl ⟨rfl, ?_⟩⟩
    unfold submV; rw [if_neg fun q : SQ p n d g f [v] => h20 (oc_t q)]
  · replace h20 := bne_f h20
    have hq : SQ p n d g f [v] := oc_0 h20
    obtain ⟨n, rfl⟩ : ∃ m : Nat, n = (m : Int) := ⟨n.toNat, by have := hq.1.1.1.1.2.1; omega⟩
    obtain ⟨d, rfl⟩ : ∃ m : Nat, d = (m : Int) := ⟨d.toNat, by have := hq.1.2.1.1.2.1; omega⟩
    have hpr := hq.1.1.1.1.1
    have hp2 := hpr.1
    have hp3 := hpr.2.1
    have hn8 : n ≤ 8 := by have := hq.1.1.1.1.2.2; omega
    have hd8 : d ≤ 8 := by have := hq.1.2.1.1.2.2; omega
    have hvp : Vp d p v := hq.vp (by simpa using hz) v (by simp)
    have hM : Mod p n (d : Int) g f := hq.1.2
    have hown := led_own (by omega) (by omega) hM hn8 hvp
    have hvp8 : ∀ u ∈ [v], Vp 8 p u := by simpa using hvp.mono hd8
    obtain ⟨hr0, hs0⟩ := redL_rr hpr hvp8
    refine ⟨_, _, app_old (app_old (app_old (app_old (app_old get_new)))), rfl, ?_⟩
    refine ⟨_, _, _, _, v, app_old (app_old (app_old get_new)), ⟨by simp, by omega⟩, fun x _ => congrArg _ (Nat.zero_add x).symm, ?_⟩
    refine ⟨_, rfl, ?_⟩
    refine ⟨_, i_reduced_ok B E.2.2.2.2.1 (L := [v]) hpr VS.one hvp8 (by simp), ?_⟩
    rintro _ G26 ⟨b26, rfl, hE26, hV26⟩
    have hX : Ext (H ++ [⟨false, .by [p, (n : Int)] 1106 f⟩] ++ [⟨false, .by [(d : Int)] 513 g⟩] ++ [⟨false, .by [] 8 v⟩]) G26 := Ext.app.trans (Ext.app.trans (Ext.app.trans (Ext.app.trans hE26)))
    refine ⟨At × List By, (fun a3 a4 (i0 : Nat) (x0 : At × List By) => match x0 with | ⟨x, S⟩ => [(3, a3), (4, a4), (9, .one x)]) _ _ , fun (i0 : Nat) (x0 : At × List By) (G0 : List Blk) => match x0 with | ⟨x, S⟩ => (VW H.length G0 x S ∧ RR 8 p S ∧ Sp' 8 p S v ∧ (∀ u ∈ S, Sp' 8 p (ledL p n d g [v]) u) ∧ i0 ≤ S.length ∧ Ext (H ++ [⟨false, .by [p, (n : Int)] 1106 f⟩] ++ [⟨false, .by [(d : Int)] 513 g⟩] ++ [⟨false, .by [] 8 v⟩]) G0), 8, ⟨(_, redL p [v]), ?_, ⟨rfl, rfl, rfl, trivial⟩⟩, ?_⟩
    · refine ⟨hV26.mono (by simp), hr0, (hs0 v).2 (.mem (by omega) (by omega) (by simp) (hvp.mono hd8)), fun u hu => ?_, Nat.zero_le _, hX⟩
      have := (hs0 u).1 (.mem (by omega) (by omega) hu (hr0.vp u hu))
      exact this.sub (by omega) (by omega) fun w hw => by
        obtain rfl : w = v := by simpa using hw
        exact hown.1
    rintro i0 ⟨x, S⟩ G0 hi0 ⟨hV0, hS, hSv, hSl, hSi, hE0⟩
    have hb3 := hE0 _ _ (app_old (app_old get_new))
    have hb4 := hE0 _ _ (app_old get_new)
    have hSd : ∀ u ∈ S, Vp d p u := fun u hu => ((hSl u hu).w1 (by omega) (by omega) hd8 fun w hw => by
      obtain ⟨i, hi, hw⟩ := List.mem_flatMap.1 hw
      obtain ⟨t, -, rfl⟩ := List.mem_map.1 hw
      exact ma_vd (by omega) (by omega) hM.1.2 (by have := List.mem_range.1 hi; omega) hd8).vp (by omega) (by omega)
    have hSlen := hS.len
    have hvm : ∀ u ∈ ledL p n d g S ++ S, Vp 8 p u := fun u hu => by
      rcases List.mem_append.1 hu with h | h
      · exact ledL_vp (by omega) (by omega) u h
      · exact hS.vp u h
    have hll : (ledL p n d g S).length ≤ 64 := by rw [ledL_len]; exact Nat.mul_le_mul hn8 hSlen
    obtain ⟨hr1, hs1⟩ := redL_rr hpr hvm
    have hsame := hS.same (by omega) (by omega) hr1 fun u hu => (hs1 u).2 (.mem (by omega) (by omega) (List.mem_append_right _ hu) (hS.vp u hu))
    refine ⟨_, _, hb3, rfl, ?_⟩
    refine ⟨_, i_Module_led_ok B E.2.2.2.2.2 (by omega) (by omega) hn8 hd8 hb4 hb3 hV0.vs (fun u hu j h1 h2 => bz_eq0.2 ((hSd u hu).2 j h1)) (by omega), ?_⟩
    rintro _ G30 ⟨b30, rfl, hE30, hV30⟩
    refine ⟨⟨kept1 hb3 (hE30 _ _ hb3), trivial⟩, ?_⟩
    refine ⟨_, vw_app hV30 (hV0.vs.ext hE30) (by omega) hE30.len, ?_⟩
    rintro a32 G32 ⟨hv32, hu32⟩
    have hE32 := Upto.ext hE30 hu32 (Nat.le_refl _)
    refine ⟨⟨kept1 (hE30 _ _ hb3) (hE32 _ _ hb3), trivial⟩, ?_⟩
    refine ⟨_, i_reduced_ok B E.2.2.2.2.1 hpr hv32.vs hvm (by rw [List.length_append]; omega), ?_⟩
    rintro _ G33 ⟨b33, rfl, hE33, hV33⟩
    refine ⟨_, (hV33.vs).len, ?_⟩
    refine ⟨_, (hV0.vs).len, ?_⟩
    refine ⟨fun h38 => ?_, fun h38 => ?_⟩
    · replace h38 := eq_of_beq h38
      have hEE := hE32.trans hE33
      refine ⟨rfl, x, by rw [oc_t hq]; rfl, Ext.app.trans (Ext.app.trans (Ext.app.trans (hE0.trans hEE))), .inr ?_⟩
      have hsp := hsame.2 (by omega)
      have e : S = redL p (ledL p n d g [v]) := sub_done hpr hM hn8 hvp hS hSv hSl fun u hu => (hsp u).2 ((hs1 u).2 (.mem (by omega) (by omega) (List.mem_append_left _ hu) (ledL_vp (by omega) (by omega) u hu)))
      unfold submV; rw [if_pos hq, Int.toNat_natCast, Int.toNat_natCast, ← e]
      exact hV0.ext hEE
    · replace h38 := ne_of_beq_false h38
      refine ⟨by have := hr1.len; have := hsame.1; omega, (_, redL p (ledL p n d g S ++ S)), ?_, ⟨rfl, rfl, rfl, trivial⟩⟩
      have hEE := hE32.trans hE33
      have h1 := hsame.1
      refine ⟨hV33.mono (Nat.le_trans (Ext.app.trans (Ext.app.trans (Ext.app.trans hE0))).len hE32.len), hr1, (hs1 v).2 (hSv.sub (by omega) (by omega) fun u hu => .mem (by omega) (by omega) (List.mem_append_right _ hu) (hS.vp u hu)), fun u hu => ?_, by omega, hE0.trans hEE⟩
      have q := (hs1 u).1 (.mem (by omega) (by omega) hu (hr1.vp u hu))
      refine q.sub (by omega) (by omega) fun w hw => ?_
      rcases List.mem_append.1 hw with hw | hw
      · obtain ⟨i, hi, hw⟩ := List.mem_flatMap.1 hw
        obtain ⟨t, ht, rfl⟩ := List.mem_map.1 hw
        exact hown.2 i (List.mem_range.1 hi) t (hSl t ht)
      · exact hSl w hw

theorem l_FnExactSubmoduleOf_z_ok (B : Bs P ρ) (E : F_l_FnExactSubmoduleOf P ρ) {p n d : Int} {f g v : By} (hz : ∀ x, 8 ≤ x → v x = 0) :
    CallOK P ρ 383 [.ag [p, n] 1106 f, .ag [d] 513 g, .ag [] 8 v] [] (.one (.b true)) [] := by
  refine (CallR.pure (call_of_q B.fn B.mo E.1 rfl (fun _ _ => ?_) rfl) rfl).ok
  have hlen := submV_len (p := p) (n := n) (d := d) (g := g) (f := f) (v := v)
  refine ⟨_, rfl, ?_⟩
  refine ⟨_, rfl, ?_⟩
  refine ⟨_, rfl, ?_⟩
  have hEx : Ext ([] ++ [(⟨false, .by [p, n] 1106 f⟩ : Blk)] ++ [(⟨false, .by [d] 513 g⟩ : Blk)] ++ [(⟨false, .by [] 8 v⟩ : Blk)]) ([] ++ [(⟨false, .by [p, n] 1106 f⟩ : Blk)] ++ [(⟨false, .by [d] 513 g⟩ : Blk)] ++ [(⟨false, .by [] 8 v⟩ : Blk)]) := Ext.refl
  refine .inl ⟨_, _, _, _, (hEx _ _ rfl), ⟨rfl, by omega⟩, ?_⟩
  refine ⟨_, l_toHopf_ok B E.2.1 , rfl, ?_⟩
  refine .inl ⟨_, _, _, _, (hEx _ _ rfl), ⟨rfl, by omega⟩, ?_⟩
  refine ⟨_, l_toModule_ok B E.2.2.1 , rfl, ?_⟩
  refine ⟨_, _, _, _, v, (hEx _ _ rfl), ⟨by simp, by omega⟩, fun x _ => congrArg _ (Nat.zero_add x).symm, ?_⟩
  refine ⟨_, l_toVector_ok B E.2.2.2.1 , rfl, ?_⟩
  refine ⟨_, s_SubmoduleOf_ok B E.2.2.2.2.1 hz, ?_⟩
  rintro _ G1 ⟨b1, rfl, hE1, hV1⟩
  have hEx := hEx.trans hE1
  have hEx1 := hEx
  refine .inl ⟨_, _, _, _, (hEx _ _ rfl), ⟨rfl, by omega⟩, ?_⟩
  refine ⟨_, l_toHopf_ok B E.2.1 , rfl, ?_⟩
  refine .inl ⟨_, _, _, _, (hEx _ _ rfl), ⟨rfl, by omega⟩, ?_⟩
  refine ⟨_, l_toModule_ok B E.2.2.1 , rfl, ?_⟩
  refine ⟨_, _, _, _, v, (hEx _ _ rfl), ⟨by simp, by omega⟩, fun x _ => congrArg _ (Nat.zero_add x).symm, ?_⟩
  refine ⟨_, l_toVector_ok B E.2.2.2.1 , rfl, ?_⟩
  refine ⟨_, i_SubmoduleOf_ok B E.2.2.2.2.2.1 hz, ?_⟩
  rintro _ G2 ⟨b2, rfl, hE2, hV2⟩
  have hEx := hEx.trans hE2
  refine ⟨_, l_eqVectorS_ok B E.2.2.2.2.2.2.1 hV2.vs (hV1.ext hE2) (by omega), ?_⟩
  rintro _ _ ⟨rfl, rfl⟩
  refine brB_f ?_
  refine brB_f ?_
  refine brB_f ?_
  refine brB_f ?_
  refine brB_f' (by simp) ?_
  refine ⟨_, l_markVectorS_ok B E.2.2.2.2.2.2.2.1 (m := G1.length) (k := 101) hV2 (by omega) (by omega) (by omega), ?_⟩
  rintro _ G3 ⟨rfl, hV3, hU3⟩
  have hE3 : Ext G1 G3 := Upto.ext hE2 hU3 (Nat.le_refl _)
  have hEx := hEx1.trans hE3
  refine ⟨_, l_heldVectorS_ok B E.2.2.2.2.2.2.2.2 (k := 101) hV3.vs (by omega) (by omega) (by omega), ?_⟩
  rintro _ _ ⟨rfl, rfl⟩
  refine brB_f' (decide_eq_false (by omega)) ?_
  refine brB_f' (by simp) ?_
  refine .inl ⟨_, _, _, _, (hEx _ _ rfl), ⟨rfl, by omega⟩, ?_⟩
  refine ⟨_, l_toHopf_ok B E.2.1 , rfl, ?_⟩
  refine .inl ⟨_, _, _, _, (hEx _ _ rfl), ⟨rfl, by omega⟩, ?_⟩
  refine ⟨_, l_toModule_ok B E.2.2.1 , rfl, ?_⟩
  refine ⟨_, _, _, _, v, (hEx _ _ rfl), ⟨by simp, by omega⟩, fun x _ => congrArg _ (Nat.zero_add x).symm, ?_⟩
  refine ⟨_, l_toVector_ok B E.2.2.2.1 , rfl, ?_⟩
  refine ⟨_, i_SubmoduleOf_ok B E.2.2.2.2.2.1 hz, ?_⟩
  rintro _ G4 ⟨b4, rfl, hE4, hV4⟩
  have hEx := hEx.trans hE4
  refine ⟨_, l_eqVectorS_ok B E.2.2.2.2.2.2.1 hV4.vs (hV1.ext (hE3.trans hE4)) (by omega), ?_⟩
  rintro _ _ ⟨rfl, rfl⟩
  refine brB_f ?_
  refine brB_f ?_
  refine brB_f ?_
  refine brB_f ?_
  refine brB_f' (by simp) ?_
  refine ⟨_, l_heldVectorS_ok B E.2.2.2.2.2.2.2.2 (k := 101) (hV3.vs.ext hE4) (by omega) (by omega) (by omega), ?_⟩
  rintro _ _ ⟨rfl, rfl⟩
  refine brB_f' (decide_eq_false (by omega)) ?_
  refine brB_f' (by simp) ?_
  exact ⟨rfl, rfl, Ext.nil⟩

theorem l_FnExactSubmoduleOf_ok (B : Bs P ρ) (E : F_l_FnExactSubmoduleOf P ρ) {p n d : Int} {f g v : By} :
    CallOK P ρ 383 [.ag [p, n] 1106 f, .ag [d] 513 g, .ag [] 8 v] [] (.one (.b true)) [] :=
  (l_FnExactSubmoduleOf_z_ok B E (v := cut 8 v) fun x hx => cut_ge hx).conv ⟨eqA_rfl, eqA_rfl, ⟨_, rfl, fun x _ hx => cut_lt hx⟩, trivial⟩ eqS_rfl trivial
end Hf
