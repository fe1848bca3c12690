/- Contracts of the functions that the law reaches. -/
import Derived.Test.YtobbbolgodmnoaaGreatC2
set_option linter.unusedVariables false
set_option linter.unusedSimpArgs false
namespace Hf
open Go Classical
section
variable {W : Nat} {p : Int}
theorem clq_ok (hp : Pr p) {v : By} {c : Nat} (hc : c < W) (hv : Vp W p v) (h : v c ≠ 0) :
    Vp W p (clq W p v c) ∧ clq W p v c c = 1 ∧ (∀ y, v y = 0 → clq W p v c y = 0) ∧ clq W p v c = addW W p z0 v (invI p (v c)) ∧ v = addW W p z0 (clq W p v c) (bz v c) := by
  have h2 := hp.1
  have h3 := hp.2.1
  have hp1 : 1 ≤ p := by omega
  have hp2 : p ≤ 256 := by omega
  obtain ⟨i1, i2⟩ := inv_ok hp h (hv.1 c)
  have hI : invI p (v c) = ((invN p (v c) : Nat) : Int) := if_pos i1
  have e : clq W p v c = addW W p z0 v (invI p (v c)) := vec_congr fun y hy => cg_of_eq (by rw [bz_z0, Int.zero_add])
  have hb : ∀ y, y < W → bz (clq W p v c) y = invI p (v c) * bz v y % p := by
    intro y hy
    rw [e, bz_add hp1 hp2 hy, bz_z0, Int.zero_add]
  have h1 : bz (clq W p v c) c = 1 := by
    rw [hb c hc, hI]; exact i2
  have hvp : Vp W p (clq W p v c) := by rw [e]; exact Vp.add hp1 hp2
  refine ⟨hvp, bz_inj h1, ?_, e, ?_⟩
  · intro y hy
    by_cases hw : y < W
    · apply bz_eq0.1
      rw [hb y hw, bz_eq0.2 hy, Int.mul_zero]; exact Int.zero_emod p
    · exact hvp.2 y (by omega)
  · refine hv.ext (Vp.add hp1 hp2) fun x hx => cg.symm ((cg_add' hp1 hp2 hx).trans ?_)
    rw [bz_z0, Int.zero_add, hb x hx]
    refine (cg_mul cg.rfl' cg_mod).trans ?_
    have h5 : cg p (invI p (v c) * bz v c) 1 := by
      unfold cg
      rw [show invI p (v c) * bz v c % p = 1 from by rw [hI]; exact i2, Int.emod_eq_of_lt (by omega) (by omega)]
    refine cg.trans (cg_of_eq ?_) ((cg_mul h5 cg.rfl').trans (cg_of_eq (Int.one_mul (bz v x))))
    grind
theorem clj_add (hp : 1 ≤ p) (hp2 : p ≤ 256) {q v : By} {c : Nat} (hv : Vp W p v) : clj W p q v c = addW W p v q (-(bz v c)) := by
  unfold clj
  split
  · rename_i h
    rw [bz_eq0.2 h, Int.neg_zero, add_0 hp hp2 hv]
  · rfl
theorem clj_at (hp : 1 ≤ p) (hp2 : p ≤ 256) {q v : By} {c y : Nat} (hv : Vp W p v) (hq : q y = 0) : clj W p q v c y = v y := by
  rw [clj_add hp hp2 hv]
  by_cases hy : y < W
  · apply bz_inj
    show bz _ y = bz v y
    rw [bz_add hp hp2 hy, bz_eq0.2 hq, Int.mul_zero, Int.add_zero]
    have := hv.1 y
    exact Int.emod_eq_of_lt (by unfold bz; omega) this
  · rw [(Vp.add hp hp2).2 y (by omega), hv.2 y (by omega)]
theorem clj_0 (hp : 2 ≤ p) (hp2 : p ≤ 256) {q v : By} {c : Nat} (hc : c < W) (hv : Vp W p v) (hq : q c = 1) : clj W p q v c c = 0 := by
  rw [clj_add (by omega) hp2 hv]
  apply bz_eq0.1
  rw [bz_add (by omega) hp2 hc, show bz q c = 1 from one_bz hq, Int.mul_one, Int.add_right_neg]
  exact Int.zero_emod p

/-- what holds ahead of column i -/
structure SolP (W : Nat) (p : Int) (R L : List By) (C : List Nat) (i : Nat) : Prop where
  len : L.length = R.length
  vp : ∀ r ∈ L, Vp W p r
  sp : SpE W p L R
  cl : C.length ≤ L.length
  ci : ∀ a, a < C.length → C.getD a 0 < i
  cs : ∀ a b, a < b → b < C.length → C.getD a 0 < C.getD b 0
  one : ∀ a, a < C.length → L.getD a z0 (C.getD a 0) = 1
  lo : ∀ a, a < C.length → ∀ y, y < C.getD a 0 → L.getD a z0 y = 0
  z : ∀ a, a < C.length → ∀ b, b < L.length → b ≠ a → L.getD b z0 (C.getD a 0) = 0
  r : ∀ b, C.length ≤ b → b < L.length → ∀ y, y < i → L.getD b z0 y = 0

theorem SolP.stay {R L : List By} {C : List Nat} {i : Nat} (h : SolP W p R L C i) (h0 : ∀ j, j < L.length - C.length → L.getD (C.length + j) z0 i = 0) : SolP W p R L C (i + 1) := by
  refine ⟨h.len, h.vp, h.sp, h.cl, fun a ha => by have := h.ci a ha; omega, h.cs, h.one, h.lo, h.z, fun b hb hb2 y hy => ?_⟩
  rcases Nat.eq_or_lt_of_le (Nat.lt_succ_iff.1 hy) with e | e
  · subst e
    have := h0 (b - C.length) (by omega)
    rwa [show C.length + (b - C.length) = b by omega] at this
  · exact h.r b hb hb2 y e

theorem swL_mem {α : Type} {z : α} {L : List α} {i j : Nat} (hi : i < L.length) (hj : j < L.length) {x : α} : x ∈ swL z L i j ↔ x ∈ L := (swL_perm hi hj).mem_iff

theorem getD_app1 {C : List Nat} {c a : Nat} (h : a < C.length) : (C ++ [c]).getD a 0 = C.getD a 0 := by
  simp only [List.getD_eq_getElem?_getD]; rw [List.getElem?_append_left h]
theorem getD_app2 {C : List Nat} {c : Nat} : (C ++ [c]).getD C.length 0 = c := by
  simp only [List.getD_eq_getElem?_getD]; rw [List.getElem?_append_right (Nat.le_refl _)]; simp

theorem SolP.step (hp : Pr p) {R L : List By} {C : List Nat} {i k : Nat} (hi : i < W) (h : SolP W p R L C i) (hk : k < L.length - C.length) (hn : L.getD (C.length + k) z0 i ≠ 0) :
    SolP W p R (clr W p (swL z0 L C.length (C.length + k)) C.length i) (C ++ [i]) (i + 1) := by
  have h2 := hp.1
  have h3 := hp.2.1
  have hp1 : 1 ≤ p := by omega
  have hp2 : p ≤ 256 := by omega
  have hd : C.length < L.length := by omega
  have hdk : C.length + k < L.length := by omega
  generalize hL1 : swL z0 L C.length (C.length + k) = L1
  have hlen1 : L1.length = L.length := by rw [← hL1, swL_len]
  have hat : ∀ x, L1.getD x z0 = if x = C.length + k then L.getD C.length z0 else if x = C.length then L.getD (C.length + k) z0 else L.getD x z0 := by
    intro x; rw [← hL1, swL_at hd hdk]
  have hvp1 : ∀ r ∈ L1, Vp W p r := fun r hr => h.vp r ((swL_mem hd hdk).1 (by rw [hL1]; exact hr))
  have hd1 : L1.getD C.length z0 = L.getD (C.length + k) z0 := by
    rw [hat]; split
    · rename_i e; rw [← e]
    · rw [if_pos rfl]
  -- rows of the new list that came from behind have zeros ahead of i
  have hr1 : ∀ b, C.length ≤ b → b < L.length → ∀ y, y < i → L1.getD b z0 y = 0 := by
    intro b hb hb2 y hy
    rw [hat]
    split
    · exact h.r _ (Nat.le_refl _) hd y hy
    · split
      · exact h.r _ (by omega) hdk y hy
      · exact h.r b hb hb2 y hy
  have hfr : ∀ b, b < C.length → L1.getD b z0 = L.getD b z0 := by
    intro b hb
    rw [hat, if_neg (by omega), if_neg (by omega)]
  have hz1 : ∀ a, a < C.length → ∀ b, b < L.length → b ≠ a → L1.getD b z0 (C.getD a 0) = 0 := by
    intro a ha b hb hn
    rcases Nat.lt_or_ge b C.length with h' | h'
    · rw [hfr b h']; exact h.z a ha b hb hn
    · exact hr1 b h' hb _ (h.ci a ha)
  have hvd : Vp W p (L1.getD C.length z0) := hvp1 _ (getD_mem (by omega))
  have hnz : L1.getD C.length z0 i ≠ 0 := by rw [hd1]; exact hn
  obtain ⟨q1, q2, q3, q4, q5⟩ := clq_ok hp hi hvd hnz
  generalize hq : clq W p (L1.getD C.length z0) i = q at q1 q2 q3 q4 q5
  have hq0 : ∀ y, y < i → q y = 0 := fun y hy => q3 y (hr1 _ (Nat.le_refl _) hd y hy)
  have hN : ∀ j, j < L.length → (clr W p L1 C.length i).getD j z0 = if j = C.length then q else clj W p q (L1.getD j z0) i := by
    intro j hj
    rw [clr_at (by omega)]
    unfold clR
    rw [hq]
  have hvj : ∀ j, j < L.length → Vp W p (L1.getD j z0) := fun j hj => hvp1 _ (getD_mem (by omega))
  have hvN : ∀ j, j < L.length → Vp W p ((clr W p L1 C.length i).getD j z0) := by
    intro j hj
    rw [hN j hj]
    split
    · exact q1
    · rw [clj_add hp1 hp2 (hvj j hj)]; exact Vp.add hp1 hp2
  have hmem : ∀ r ∈ clr W p L1 C.length i, ∃ j, j < L.length ∧ r = (clr W p L1 C.length i).getD j z0 := by
    intro r hr
    obtain ⟨j, hj, rfl⟩ := List.mem_iff_getElem.1 hr
    rw [clr_len, hlen1] at hj
    exact ⟨j, hj, by simp [List.getD_eq_getElem?_getD, clr_len, hlen1, hj]⟩
  have hmem1 : ∀ r ∈ L1, ∃ j, j < L.length ∧ r = L1.getD j z0 := by
    intro r hr
    obtain ⟨j, hj, rfl⟩ := List.mem_iff_getElem.1 hr
    exact ⟨j, by omega, by simp [List.getD_eq_getElem?_getD, hj]⟩
  have hin : ∀ j, j < L.length → (clr W p L1 C.length i).getD j z0 ∈ clr W p L1 C.length i := fun j hj => getD_mem (by rw [clr_len]; omega)
  have hsq : Sp' W p L1 q := by rw [q4]; exact .a .z (getD_mem (by omega))
  have hsq' : Sp' W p (clr W p L1 C.length i) q := by
    have := hin _ hd
    rw [hN _ hd, if_pos rfl] at this
    exact .mem hp1 hp2 this q1
  refine ⟨by rw [clr_len, hlen1]; exact h.len, ?_, ?_, ?_, ?_, ?_, ?_, ?_, ?_, ?_⟩
  · intro r hr
    obtain ⟨j, hj, rfl⟩ := hmem r hr
    exact hvN j hj
  · refine SpE.trans (SpE.of hp1 hp2 (M := L1) ?_ ?_) (SpE.trans (SpE.of hp1 hp2 ?_ ?_) h.sp)
    · intro r hr
      obtain ⟨j, hj, rfl⟩ := hmem r hr
      rw [hN j hj]
      split
      · exact hsq
      · rw [clj_add hp1 hp2 (hvj j hj)]
        exact (Sp'.mem hp1 hp2 (getD_mem (by omega)) (hvj j hj)).add hp1 hp2 hsq
    · intro r hr
      obtain ⟨j, hj, rfl⟩ := hmem1 r hr
      by_cases e : j = C.length
      · rw [e, q5]
        exact Sp'.z.add hp1 hp2 hsq'
      · have h1 := Sp'.mem hp1 hp2 (hin j hj) (hvN j hj)
        have h4 := h1.add hp1 hp2 (k := bz (L1.getD j z0) i) hsq'
        rw [hN j hj, if_neg e, clj_add hp1 hp2 (hvj j hj)] at h4
        have e2 : addW W p (addW W p (L1.getD j z0) q (-(bz (L1.getD j z0) i))) q (bz (L1.getD j z0) i) = L1.getD j z0 := by
          refine (Vp.add hp1 hp2).ext (hvj j hj) fun x hx => ?_
          refine (cg_add' hp1 hp2 hx).trans ((cg_add (cg_add' hp1 hp2 hx) cg.rfl').trans (cg_of_eq ?_))
          grind
        rwa [e2] at h4
    · intro r hr
      have := (swL_mem (z := z0) hd hdk).1 (by rw [hL1]; exact hr)
      exact .mem hp1 hp2 this (h.vp r this)
    · intro r hr
      have := (swL_mem (z := z0) hd hdk).2 hr
      rw [hL1] at this
      exact .mem hp1 hp2 this (hvp1 r this)
  · rw [clr_len, hlen1]; simp; omega
  · intro a ha
    rw [List.length_append, List.length_singleton] at ha
    rcases Nat.lt_or_ge a C.length with h' | h'
    · rw [getD_app1 h']; have := h.ci a h'; omega
    · obtain rfl : a = C.length := by omega
      rw [getD_app2]; omega
  · intro a b hab hb
    rw [List.length_append, List.length_singleton] at hb
    rcases Nat.lt_or_ge b C.length with h' | h'
    · rw [getD_app1 h', getD_app1 (by omega)]; exact h.cs a b hab h'
    · obtain rfl : b = C.length := by omega
      rw [getD_app2, getD_app1 hab]; exact h.ci a hab
  · intro a ha
    rw [List.length_append, List.length_singleton] at ha
    rw [hN a (by omega)]
    rcases Nat.lt_or_ge a C.length with h' | h'
    · rw [if_neg (by omega), getD_app1 h', clj_at hp1 hp2 (hvj a (by omega)) (hq0 _ (h.ci a h')), hfr a h']
      exact h.one a h'
    · obtain rfl : a = C.length := by omega
      rw [if_pos rfl, getD_app2]; exact q2
  · intro a ha y hy
    rw [List.length_append, List.length_singleton] at ha
    rw [hN a (by omega)]
    rcases Nat.lt_or_ge a C.length with h' | h'
    · rw [getD_app1 h'] at hy
      rw [if_neg (by omega), clj_at hp1 hp2 (hvj a (by omega)) (hq0 _ (by have := h.ci a h'; omega)), hfr a h']
      exact h.lo a h' y hy
    · obtain rfl : a = C.length := by omega
      rw [getD_app2] at hy
      rw [if_pos rfl]; exact hq0 y hy
  · intro a ha b hb hne
    rw [List.length_append, List.length_singleton] at ha
    rw [clr_len, hlen1] at hb
    rw [hN b hb]
    rcases Nat.lt_or_ge a C.length with h' | h'
    · rw [getD_app1 h']
      split
      · exact hq0 _ (h.ci a h')
      · rw [clj_at hp1 hp2 (hvj b hb) (hq0 _ (h.ci a h'))]
        exact hz1 a h' b hb hne
    · obtain rfl : a = C.length := by omega
      rw [getD_app2, if_neg hne]
      exact clj_0 h2 hp2 hi (hvj b hb) q2
  · intro b hb hb2 y hy
    rw [List.length_append, List.length_singleton] at hb
    rw [clr_len, hlen1] at hb2
    rw [hN b hb2, if_neg (by omega)]
    rcases Nat.eq_or_lt_of_le (Nat.lt_succ_iff.1 hy) with e | e
    · rw [e]; exact clj_0 h2 hp2 hi (hvj b hb2) q2
    · rw [clj_at hp1 hp2 (hvj b hb2) (hq0 y e)]
      exact hr1 b (by omega) hb2 y e

theorem solP (hp : Pr p) {R : List By} (hR : ∀ r ∈ R, Vp W p r) : ∀ {i : Nat}, i ≤ W → ∃ C : List Nat, (solT W p R i).2 = C.map (fun c : Nat => (c : Int)) ∧ SolP W p R (solT W p R i).1 C i
  | 0, _ => ⟨[], rfl, rfl, hR, SpE.rfl', by simp, by simp, by simp, by simp, by simp, by simp, fun b hb hb2 y hy => by omega⟩
  | i + 1, hi => by
    obtain ⟨C, hC, h⟩ := @solP hp R hR i (by omega)
    rw [solT_succ]
    have hl : (solT W p R i).2.length = C.length := by rw [hC]; simp
    unfold solS
    rw [hl]
    rcases @firstQ_or (fun j => (solT W p R i).1.getD (C.length + j) z0 i != 0) ((solT W p R i).1.length - C.length) with ⟨e, h0⟩ | ⟨k, hk, e, h0, -⟩
    · rw [e, if_pos (by omega)]
      exact ⟨C, hC, h.stay fun j hj => by simpa using h0 j hj⟩
    · rw [e, if_neg (by omega), Int.toNat_natCast]
      refine ⟨C ++ [i], by rw [hC]; simp, h.step hp hi hk (by simpa using h0)⟩

/-- the rows done are reduced -/
theorem SolP.rr {R L : List By} {C : List Nat} {i : Nat} (hiW : i ≤ W) (h : SolP W p R L C i) : RR W p (L.take C.length) ∧ ∀ a, a < C.length → fstW W (L.getD a z0) = C.getD a 0 := by
  have hf : ∀ a, a < C.length → fstW W (L.getD a z0) = C.getD a 0 := fun a ha =>
    fstW_eq (by have := h.ci a ha; omega) (by rw [h.one a ha]; decide) (h.lo a ha)
  have hmem : ∀ r ∈ L.take C.length, ∃ a, a < C.length ∧ r = L.getD a z0 := by
    intro r hr
    obtain ⟨a, ha, rfl⟩ := List.mem_iff_getElem.1 hr
    rw [List.length_take] at ha
    exact ⟨a, by omega, by simp [List.getD_eq_getElem?_getD, show a < L.length by omega]⟩
  refine ⟨⟨?_, ?_, ?_⟩, hf⟩
  · intro r hr; exact h.vp r (List.mem_of_mem_take hr)
  · intro r hr
    obtain ⟨a, ha, rfl⟩ := hmem r hr
    rw [hf a ha]
    exact ⟨by have := h.ci a ha; omega, h.one a ha⟩
  · rw [List.pairwise_iff_getElem]
    intro a b ha hb hab
    rw [List.length_take] at ha hb
    have ea : (L.take C.length)[a] = L.getD a z0 := by simp [List.getD_eq_getElem?_getD, show a < L.length by omega]
    have eb : (L.take C.length)[b] = L.getD b z0 := by simp [List.getD_eq_getElem?_getD, show b < L.length by omega]
    rw [ea, eb, hf a (by omega), hf b (by omega)]
    exact ⟨h.cs a b hab (by omega), h.z b (by omega) a (by omega) (by omega)⟩
end
end Hf
namespace Hf
open Go Classical
section
variable {W W' m : Nat} {p : Int}
theorem Vp.mono (hW : W ≤ W') {v : By} (h : Vp W p v) : Vp W' p v := ⟨h.1, fun x hx => h.2 x (by omega)⟩
theorem addW_w (hW : W ≤ W') {u w : By} {k : Int} (hu : Vp W p u) (hw : Vp W p w) : addW W' p u w k = addW W p u w k :=
  (vec_more hW fun y hy _ => by rw [bz_eq0.2 (hu.2 y hy), bz_eq0.2 (hw.2 y hy)]; simp).symm
theorem Sp'.w1 (hp : 1 ≤ p) (hp2 : p ≤ 256) (hW : W ≤ W') {L : List By} (hL : ∀ v ∈ L, Vp W p v) {v : By} (h : Sp' W' p L v) : Sp' W p L v := by
  induction h with
  | z => exact .z
  | a h1 h2 ih => rw [addW_w hW (ih.vp hp hp2) (hL _ h2)]; exact .a ih h2
theorem Sp'.w2 (hp : 1 ≤ p) (hp2 : p ≤ 256) (hW : W ≤ W') {L : List By} (hL : ∀ v ∈ L, Vp W p v) {v : By} (h : Sp' W p L v) : Sp' W' p L v := by
  induction h with
  | z => exact .z
  | a h1 h2 ih => rw [← addW_w hW (h1.vp hp hp2) (hL _ h2)]; exact .a ih h2
theorem fstW_w (hW : W ≤ W') {v : By} (hv : ∀ x, W ≤ x → v x = 0) (h : v ≠ z0) : fstW W' v = fstW W v := by
  have h1 := fst_nz hv h
  exact fstW_eq (by omega) (fstW_ne h1) fun y hy => fstW_lt hy
theorem RR.w (hp : 1 ≤ p) (hW : W ≤ W') {L : List By} (hL : ∀ v ∈ L, Vp W p v) (h : RR W' p L) : RR W p L := by
  have hf : ∀ v ∈ L, fstW W' v = fstW W v := fun v hv => fstW_w hW (hL v hv).2 (h.nz hv)
  refine ⟨hL, fun r hr => ?_, ?_⟩
  · have := h.ld r hr
    rw [hf r hr] at this
    exact ⟨fst_nz (hL r hr).2 (h.nz hr), this.2⟩
  · refine List.Pairwise.imp_of_mem ?_ h.st
    intro a b ha hb hab
    rw [hf a ha, hf b hb] at hab
    exact hab
/-- a system whose right sides are 0 -/
theorem sol_rr (hp : Pr p) {R : List By} (hR : ∀ v ∈ R, Vp m p v) : ∃ C : List Nat, (solT (m + 1) p R m).2 = C.map (fun c : Nat => (c : Int)) ∧ SolP (m + 1) p R (solT (m + 1) p R m).1 C m ∧ (∀ v ∈ (solT (m + 1) p R m).1, Vp m p v) ∧ (∀ b, C.length ≤ b → (solT (m + 1) p R m).1.getD b z0 = z0) ∧
    RR m p ((solT (m + 1) p R m).1.take C.length) ∧ SpE m p ((solT (m + 1) p R m).1.take C.length) R ∧ ∀ a, a < C.length → fstW m ((solT (m + 1) p R m).1.getD a z0) = C.getD a 0 := by
  have h2 := hp.1
  have h3 := hp.2.1
  have hp1 : 1 ≤ p := by omega
  have hp2 : p ≤ 256 := by omega
  obtain ⟨C, hC, h⟩ := solP (W := m + 1) hp (R := R) (fun r hr => (hR r hr).mono (by omega)) (i := m) (by omega)
  have hv : ∀ v ∈ (solT (m + 1) p R m).1, Vp m p v := by
    intro v hv
    have h1 := (h.sp v).1 (.mem hp1 hp2 hv (h.vp v hv))
    exact (h1.w1 hp1 hp2 (by omega) hR).vp hp1 hp2
  have hz : ∀ b, C.length ≤ b → (solT (m + 1) p R m).1.getD b z0 = z0 := by
    intro b hb
    rcases Nat.lt_or_ge b (solT (m + 1) p R m).1.length with hb2 | hb2
    · funext y
      rcases Nat.lt_or_ge y m with hy | hy
      · exact h.r b hb hb2 y hy
      · exact (hv _ (getD_mem hb2)).2 y hy
    · rw [List.getD_eq_getElem?_getD, List.getElem?_eq_none hb2]; rfl
  obtain ⟨r1, r2⟩ := h.rr (by omega)
  have hvt : ∀ v ∈ (solT (m + 1) p R m).1.take C.length, Vp m p v := fun v hv' => hv v (List.mem_of_mem_take hv')
  have rrm := r1.w hp1 (by omega : m ≤ m + 1) hvt
  refine ⟨C, hC, h, hv, hz, rrm, SpE.of hp1 hp2 ?_ ?_, ?_⟩
  · intro r hr
    have hr' := List.mem_of_mem_take hr
    exact ((h.sp r).1 (.mem hp1 hp2 hr' (h.vp r hr'))).w1 hp1 hp2 (by omega) hR
  · intro r hr
    have h4 := ((h.sp r).2 (.mem hp1 hp2 hr ((hR r hr).mono (by omega)))).w1 hp1 hp2 (by omega) hv
    refine h4.sub hp1 hp2 ?_
    intro q hq
    obtain ⟨j, hj, rfl⟩ := List.mem_iff_getElem.1 hq
    have ej : (solT (m + 1) p R m).1[j] = (solT (m + 1) p R m).1.getD j z0 := by simp [List.getD_eq_getElem?_getD, hj]
    rcases Nat.lt_or_ge j C.length with h' | h'
    · have hm : (solT (m + 1) p R m).1[j] ∈ (solT (m + 1) p R m).1.take C.length := by
        rw [List.mem_take_iff_getElem]
        exact ⟨j, by omega, rfl⟩
      exact .mem hp1 hp2 hm (hvt _ hm)
    · rw [ej, hz j h']; exact .z
  · intro a ha
    have := r2 a ha
    have hm : (solT (m + 1) p R m).1.getD a z0 ∈ (solT (m + 1) p R m).1.take C.length := by
      rw [List.mem_take_iff_getElem]
      have := h.cl
      exact ⟨a, by omega, by simp [List.getD_eq_getElem?_getD, show a < (solT (m + 1) p R m).1.length by omega]⟩
    rw [← fstW_w (by omega : m ≤ m + 1) (hvt _ hm).2 (rrm.nz hm)]
    exact this
theorem sol_red (hp : Pr p) {L : List By} (hL : ∀ v ∈ L, Vp 8 p v) : (solT 9 p L 8).1.take (solT 9 p L 8).2.length = redL p L := by
  have h2 := hp.1
  have h3 := hp.2.1
  obtain ⟨C, hC, -, -, -, h4, h5, -⟩ := sol_rr (m := 8) hp hL
  obtain ⟨r1, r2⟩ := redL_rr hp hL
  have hl : (solT 9 p L 8).2.length = C.length := by
    have := congrArg List.length hC
    simpa using this
  rw [hl]
  exact h4.unique (by omega) (by omega) r1 (h5.trans r2.symm)
end
/-! ### a new row -/
/-- a row that may be written on behind: its block is none of the first m -/
def RowC (m : Nat) (H : List Blk) (n : Nat) (a : At) (v : By) : Prop := ∃ k cap N f, a = .sl k 0 n cap ∧ H[k]? = some ⟨false, .by [] N f⟩ ∧ (cap ≤ N ∧ n ≤ cap ∧ m ≤ k) ∧ ∀ x, x < n → f x = v x
theorem RowC.row {m : Nat} {H : List Blk} {n : Nat} {a : At} {v : By} (h : RowC m H n a v) : RowB H n a v := by
  obtain ⟨k, cap, N, f, h1, h2, h3, h4⟩ := h
  exact ⟨k, cap, N, f, h1, h2, by omega, h4⟩
theorem RowC.ge {m : Nat} {H : List Blk} {n : Nat} {a : At} {v : By} (h : RowC m H n a v) : m ≤ blkOf a := by
  obtain ⟨k, cap, N, f, rfl, h2, h3, h4⟩ := h
  exact h3.2.2
theorem RowC.mono {m m' : Nat} {H : List Blk} {n : Nat} {a : At} {v : By} (h : RowC m H n a v) (hm : m' ≤ m) : RowC m' H n a v := by
  obtain ⟨k, cap, N, f, h1, h2, h3, h4⟩ := h
  exact ⟨k, cap, N, f, h1, h2, by omega, h4⟩
theorem RowC.ext {m : Nat} {H H' : List Blk} {n : Nat} {a : At} {v : By} (h : RowC m H n a v) (e : Ext H H') : RowC m H' n a v := by
  obtain ⟨k, cap, N, f, h1, h2, h3, h4⟩ := h
  exact ⟨k, cap, N, f, h1, e _ _ h2, h3, h4⟩
theorem rowc_app {m : Nat} {H : List Blk} {n M : Nat} {a b : At} {v g : By} (h : RowC m H n a v) (hb : rdB H 1 b M g) (hl : n + M ≤ 1000000) (hm : m ≤ H.length) :
    apB 1 1 H a b fun a' H' => RowC m H' (n + M) a' (fun x => if x < n then v x else g (x - n)) ∧ Upto m H H' ∧ H.length ≤ H'.length := by
  obtain ⟨k, cap, N, f, rfl, hk, ⟨h1, h2, h3⟩, h4⟩ := h
  refine ⟨M, g, N, f, hb, hk, ⟨by omega, h2, by omega, by omega⟩, fun hc => ⟨⟨k, cap, N, _, by simp, set_same hk, ⟨h1, hc, h3⟩, fun x hx => ?_⟩, fun j B hj e => set_other e (by omega), by simp⟩,
    fun hc cap' hcap => ⟨⟨H.length, cap', _, _, rfl, get_new, ⟨by omega, hcap, hm⟩, fun x hx => ?_⟩, fun j B hj e => app_old e, by simp⟩⟩
  · simp only [spl, Nat.zero_add, Nat.mul_one]
    by_cases hx' : x < n
    · rw [if_neg (by omega), if_pos hx']; exact h4 x hx'
    · rw [if_pos (by omega), if_neg hx']
  · simp only [apf, Nat.mul_one]
    by_cases hx' : x < n
    · rw [if_pos (by omega), if_pos hx', ← h4 x hx']; simp [sh]
    · rw [if_neg (by omega), if_pos (by omega), if_neg hx']
/-- a system with one more row -/
theorem sy_add {m0 : Nat} {G0 G6 G7 : List Blk} {s : Nat} {p n0 : Int} {m : Nat} {R : List By} {T : List Int} {ra pa ra' x : At} {As : List At} {v : By} (hs : G0[s]? = some (sysB p n0 m ra pa)) (hra : Spn G0 ra As) (hR : Rows G0 (m + 1) As R) (hpa : Spn G0 pa (T.map (At.i .i64)))
    (hnd : (OwnT s ra As pa).Nodup) (hge : ∀ k ∈ OwnT s ra As pa, m0 ≤ k) (hm : m0 ≤ G0.length) (e : Ext G0 G6) (hx : RowC G0.length G6 (m + 1) x v) (hsp : Spn G7 ra' (As ++ [x])) (hf : Fr (spB ra) G6 G7) (hb : ∀ k ∈ spB ra', k ∈ spB ra ∨ k = G6.length) :
    G7[s]? = some (sysB p n0 m ra pa) ∧ SY m0 (G7.set s (sysB p n0 m ra' pa)) s p n0 m (R ++ [v]) T ∧ Fr (s :: spB ra) G0 (G7.set s (sysB p n0 m ra' pa)) := by
  have hlt : ∀ k ∈ OwnT s ra As pa, k < G0.length := by
    intro k hk
    simp only [OwnT, List.mem_cons, List.mem_append] at hk
    rcases hk with rfl | hk | hk | hk
    · exact lt_of hs
    · exact hpa.lt.2 k hk
    · exact hra.lt.2 k hk
    · exact hR.blt k hk
  have hxg := hx.ge
  have hxl : blkOf x < G6.length := by
    obtain ⟨k, cap, N, f, rfl, h2, -⟩ := hx
    exact lt_of h2
  have hel := e.len
  have hnr : ∀ k, k = s ∨ k ∈ spB pa ∨ k ∈ As.map blkOf ∨ k = blkOf x → k ∉ spB ra := by
    intro k hk hq
    have hq' := hlt k (by simp [OwnT, hq])
    have nd := hnd
    simp only [OwnT, List.nodup_cons, List.nodup_append, List.mem_cons, List.mem_append, not_or] at nd
    grind
  have hs7 := hf _ _ (hnr s (.inl rfl)) (e _ _ hs)
  have f1 : Fr [s] G7 (G7.set s (sysB p n0 m ra' pa)) := fun k B hk e => set_other e (by intro q; exact hk (by simp [q]))
  have hn' := spB_nd ra'
  have nd' : (OwnT s ra' (As ++ [x]) pa).Nodup ∧ ∀ k ∈ OwnT s ra' (As ++ [x]) pa, m0 ≤ k := by
    have nd := hnd
    have ge := hge
    have hl := hlt
    unfold OwnT at nd ge hl ⊢
    rw [List.map_append]
    simp only [List.nodup_cons, List.nodup_append, List.mem_cons, List.mem_append, not_or, List.map_cons, List.map_nil, List.not_mem_nil, or_false] at nd ge hl ⊢
    constructor <;> grind
  have hns : ∀ k, k ∈ spB pa ∨ k ∈ spB ra' ∨ k ∈ (As ++ [x]).map blkOf → k ∉ [s] := by
    intro k hk hq
    have nd := nd'.1
    simp only [OwnT, List.nodup_cons, List.mem_append, not_or] at nd
    simp at hq
    subst hq
    rcases hk with hk | hk | hk
    · exact nd.1.1 hk
    · exact nd.1.2.1 hk
    · exact nd.1.2.2 hk
  refine ⟨hs7, ⟨ra', As ++ [x], pa, set_same hs7, hsp.fr f1 fun k hk => hns k (.inr (.inl hk)), ?_, ?_, nd'.1, nd'.2⟩, ?_⟩
  · have h1 := ((hR.fr (l := []) e.fr (by simp)).fr hf fun k hk => hnr k (by simp only [hk]; simp)).fr f1 fun k hk => hns k (.inr (.inr (by rw [List.map_append]; exact List.mem_append_left _ hk)))
    have h2 := ((hx.row.fr hf (hnr _ (by simp))).fr f1 (hns _ (.inr (.inr (by simp)))))
    have hA := hR.1
    refine ⟨by simp [hA], fun i hi => ?_⟩
    rw [List.length_append, List.length_singleton] at hi
    by_cases hi' : i < As.length
    · have e1 : (As ++ [x]).getD i .sn = As.getD i .sn := by simp only [List.getD_eq_getElem?_getD]; rw [List.getElem?_append_left hi']
      rw [e1, getD_app, if_pos (by omega)]
      exact h1.2 i hi'
    · obtain rfl : i = As.length := by omega
      have e1 : (As ++ [x]).getD As.length .sn = x := by simp only [List.getD_eq_getElem?_getD]; rw [List.getElem?_append_right (Nat.le_refl _)]; simp
      rw [e1, getD_app, if_neg (by omega), hA, Nat.sub_self]
      exact h2
  · exact ((hpa.fr (l := []) e.fr (by simp)).fr hf fun k hk => hnr k (by simp [hk])).fr f1 fun k hk => hns k (by simp [hk])
  · intro k B hk e'
    simp only [List.mem_cons, not_or] at hk
    exact f1 _ _ (by simpa using hk.1) (hf _ _ hk.2 (e _ _ e'))
theorem SY.len {m0 : Nat} {H : List Blk} {s m : Nat} {p n0 : Int} {R : List By} {T : List Int} (h : SY m0 H s p n0 m R T) : s < H.length := by
  obtain ⟨ra, As, pa, h, -⟩ := h; exact lt_of h
end Hf
namespace Hf
open Go Classical
variable {P : Program} {ρ : Nat → FuncId}
theorem i_system_solve_ok (B : Bs P ρ) (E : F_i_system_solve P ρ) {m0 : Nat} {H : List Blk} {s m : Nat} {p n0 : Int} {R : List By} {T0 : List Int} (hp : 1 ≤ p) (hp2 : p ≤ 256) (hm : m ≤ 100000) (hS : SY m0 H s p n0 m R T0) (hlen : R.length ≤ 1000000) (hm0 : m0 ≤ H.length) :
    CallR P ρ 287 [.pt s 0] H (fun u G => u = .one (.b (solOK (m + 1) p R m)) ∧ SY m0 G s p n0 m ((solT (m + 1) p R m).1.take (solT (m + 1) p R m).2.length) (solT (m + 1) p R m).2 ∧ Upto m0 H G) := by
  obtain ⟨ra0, As0, pa0, hs0, hra0, hR0, hpa0, hnd0, hge0⟩ := hS
  refine call_of_q B.fn B.mo E.1 rfl (fun hAr hHp => ?_) (by simp [At.lt, lt_of hs0])
  refine ⟨H.length, rfl, ?_⟩
  refine ⟨_, _, get_new, rfl, ?_⟩
  refine ⟨_, _, _, app_old hs0, cput_rw (by simp) rfl, eqBk_rfl, ?_⟩
  refine ⟨_, rfl, ?_⟩
  refine ⟨_, _, _, get_new, cput_vr rfl, eqBk_rfl, ?_⟩
  obtain ⟨hI0, hK0, hU0⟩ := solve_start (B := ⟨false, .vr (.i .i64 ((0 : Nat) : Int))⟩) hs0 hra0 hR0 hpa0 hnd0 hge0 hm0
  refine ⟨At × List At × At × Nat × Nat, (fun a1 (i0 : Nat) (x0 : At × List At × At × Nat × Nat) => match x0 with | ⟨ra, As, pa, cb, d⟩ => [(1, a1), (3, .one (.i .i64 ((d : Nat) : Int))), (4, .one (.pt cb 0))]) _ , fun (i0 : Nat) (x0 : At × List At × At × Nat × Nat) (G0 : List Blk) => match x0 with | ⟨ra, As, pa, cb, d⟩ => (SolI m0 H.length s p n0 m (solT (m + 1) p R i0).1 (solT (m + 1) p R i0).2 G0 ra As pa ∧ G0[cb]? = some ⟨false, .vr (.i .i64 ((i0 : Nat) : Int))⟩ ∧ cb ∉ H.length :: OwnT s ra As pa ∧ m0 ≤ cb ∧ d = (solT (m + 1) p R i0).2.length ∧ Upto m0 H G0), m, ⟨⟨ra0, As0, .sn, _, 0⟩, ?_, ⟨rfl, rfl, rfl, trivial⟩⟩, ?_⟩
  · rw [app_set0]
    refine ⟨hI0, get_new, fun h => ?_, by simp; omega, rfl, hU0⟩
    have := hK0 _ h
    simp at this
  rintro i0 ⟨ra, As, pa, cb, d⟩ G0 hi0 ⟨hI, hcb, hcn, hc0, hd, hU⟩
  have hl := @solT_len (m + 1) p R i0
  have hAl := hI.frows.1
  refine ⟨_, _, hcb, rfl, ?_⟩   -- 10 .ld1 ['.t', 4]
  refine ⟨_, _, hI.fkb, rfl, ?_⟩   -- 11 .ld1 ['.t', 1]
  refine ⟨_, _, hI.fs, rfl, ?_⟩   -- 14 .ld1 ['.t', 13]
  refine ⟨fun h16 => ?_, fun h16 => ?_⟩
  · replace h16 := of_decide_eq_true h16
    refine brB_t ?_
    refine ⟨_, _, hI.fkb, rfl, ?_⟩   -- 18 .ld1 ['.t', 1]
    refine brB_t ?_
    refine brB_t ?_
    refine brB_t ?_
    refine ⟨_, _, hI.fs, rfl, ?_⟩   -- 21 .ld1 ['.t', 20]
    refine brB_t ?_
    refine ⟨_, (hI.fra).len, ?_⟩   -- 22 .len ['.t', 21]
    refine brB_t ?_
    refine brB_t ?_
    refine ⟨fun h24 => ?_, fun h24 => ?_⟩
    · replace h24 := of_decide_eq_true h24
      subst hd
      have hd0 : (solT (m + 1) p R i0).2.length < R.length := by omega
      refine ⟨_, _, hI.fkb, rfl, ?_⟩   -- 27 .ld1 ['.t', 1]
      refine ⟨_, _, hI.fs, rfl, ?_⟩
      obtain ⟨kr, cr, lr, rfl, hkr, ⟨hr1, hr2⟩, hr3⟩ := hI.fra.sl (by omega)
      obtain ⟨z, hz⟩ : ∃ z, firstQ (fun i => (solT (m + 1) p R i0).1.getD ((solT (m + 1) p R i0).2.length + i) z0 i0 != 0) (R.length - (solT (m + 1) p R i0).2.length) 0 = z := ⟨_, rfl⟩
      have hdl : (As.drop (solT (m + 1) p R i0).2.length).length = R.length - (solT (m + 1) p R i0).2.length := by simp; omega
      refine ⟨_, _, rfl, rfl, ⟨by omega, by omega⟩, ?_⟩   -- 32 .slc ['.t', 30]
      refine ⟨_, x_IndexFunc_R_ok B E.2.2.1 (q := fun i => (solT (m + 1) p R i0).1.getD ((solT (m + 1) p R i0).2.length + i) z0 i0 != 0) (z := z) (by rw [hdl]; exact hz) (rdR_drop hkr ⟨hr1, hr2⟩ hr3 (by omega) _) (by simp [At.lt, lt_of hkr]) (by simp [At.lt, lt_of hcb]) (by omega) (fun i hi => by rw [drop_getD]; exact i_system_solve_1_ok B E.2.1 (hI.frows.at _ (by omega)) hcb (by omega)), ?_⟩   -- 34 .call 277
      rintro _ _ ⟨rfl, rfl⟩
      refine ⟨fun h36 => ?_, fun h36 => ?_⟩
      · replace h36 := of_decide_eq_true h36
        have hS : solT (m + 1) p R (i0 + 1) = solT (m + 1) p R i0 := by
          rw [solT_succ]; unfold solS
          rw [hl.1, hz, if_pos h36]
        refine ⟨_, _, hcb, rfl, ?_⟩   -- 83 .ld1 ['.t', 4]
        refine ⟨_, rfl, ?_⟩
        refine ⟨_, _, _, get_new, cput_vr rfl, eqBk_rfl, ?_⟩
        refine ⟨_, _, set_same get_new, rfl, ?_⟩
        refine ⟨((i0 + 1 : Nat) : Int), w64_id _ (by omega) (by omega), ?_⟩
        refine ⟨_, _, _, set_same get_new, cput_vr rfl, eqBk_rfl, ?_⟩
        refine ⟨by omega, (.sl kr 0 As.length cr, As, pa, _, _), ?_, ⟨rfl, rfl, rfl, trivial⟩⟩
        dsimp only
        rw [app_set0, app_set0, hS]
        exact ⟨hI.ext Ext.app, get_new, fun h => absurd (hI.lt _ h) (by omega), by have := (hI.lt _ (List.mem_cons_self ..)); omega, rfl, hU.trans (Ext.app).upto⟩
      · replace h36 := of_decide_eq_false h36
        obtain ⟨k, hk, rfl⟩ : ∃ k, k < R.length - (solT (m + 1) p R i0).2.length ∧ z = (k : Int) := by
          rcases @firstQ_or (fun i => (solT (m + 1) p R i0).1.getD ((solT (m + 1) p R i0).2.length + i) z0 i0 != 0) (R.length - (solT (m + 1) p R i0).2.length) with ⟨e, -⟩ | ⟨k, hk, e, -⟩
          · omega
          · exact ⟨k, hk, by omega⟩
        have hS : solT (m + 1) p R (i0 + 1) = (clr (m + 1) p (swL z0 (solT (m + 1) p R i0).1 (solT (m + 1) p R i0).2.length ((solT (m + 1) p R i0).2.length + k)) (solT (m + 1) p R i0).2.length i0, (solT (m + 1) p R i0).2 ++ [(i0 : Int)]) := by
          rw [solT_succ]; unfold solS
          rw [hl.1, hz, if_neg h36, Int.toNat_natCast]
        refine ⟨_, _, hI.fkb, rfl, ?_⟩   -- 37 .ld1 ['.t', 1]
        refine ⟨_, _, hI.fs, rfl, ?_⟩   -- 40 .ld1 ['.t', 39]
        refine ⟨_, _, hI.fkb, rfl, ?_⟩   -- 42 .ld1 ['.t', 1]
        refine ⟨_, _, hI.fs, rfl, ?_⟩   -- 45 .ld1 ['.t', 44]
        refine ⟨(((solT (m + 1) p R i0).2.length + k : Nat) : Int), w64_id _ (by omega) (by omega), ?_⟩
        refine ⟨_, _, hI.fkb, rfl, ?_⟩   -- 49 .ld1 ['.t', 1]
        refine ⟨_, _, hI.fs, rfl, ?_⟩   -- 52 .ld1 ['.t', 51]
        refine ⟨(((solT (m + 1) p R i0).2.length + k : Nat) : Int), w64_id _ (by omega) (by omega), ?_⟩
        obtain ⟨k56, o56, n56, c56, q56, ea56, hl56, hq56, r56, l56, hk56, hi56⟩ := rdR_at (hI.fra.rd) (((solT (m + 1) p R i0).2.length + k)) (by omega)   -- 56 .ids ['.t', 52]
        refine ⟨k56, o56, n56, c56, ((solT (m + 1) p R i0).2.length + k), q56, ea56, rfl, hl56, hq56, ?_⟩
        refine ⟨_, _, hk56, hi56, ?_⟩   -- 57 .ld1 ['.t', 56]
        refine ⟨_, _, hI.fkb, rfl, ?_⟩   -- 58 .ld1 ['.t', 1]
        refine ⟨_, _, hI.fs, rfl, ?_⟩   -- 61 .ld1 ['.t', 60]
        obtain ⟨k63, o63, n63, c63, q63, ea63, hl63, hq63, r63, l63, hk63, hi63⟩ := rdR_at (hI.fra.rd) (((solT (m + 1) p R i0).2.length)) (by omega)   -- 63 .ids ['.t', 61]
        refine ⟨k63, o63, n63, c63, ((solT (m + 1) p R i0).2.length), q63, ea63, rfl, hl63, hq63, ?_⟩
        refine ⟨_, _, hk63, hi63, ?_⟩   -- 64 .ld1 ['.t', 63]
        have hca := (hI.frows.at ((solT (m + 1) p R i0).2.length + k) (by omega)).cell
        have hcb2 := (hI.frows.at (solT (m + 1) p R i0).2.length (by omega)).cell
        obtain ⟨k65, o65, n65, c65, q65, C65, ea65, hl65, hq65, hk65, hs65⟩ := Spn.st (hI.fra) (((solT (m + 1) p R i0).2.length)) (by omega)   -- 65 .ids ['.t', 40]
        refine ⟨k65, o65, n65, c65, ((solT (m + 1) p R i0).2.length), q65, ea65, rfl, hl65, hq65, ?_⟩
        refine ⟨_, _, _, hk65, (hs65 _ hca).1, eqBk_rfl, ?_⟩   -- W65 .st1 ['.t', 65]
        obtain ⟨-, hsp1, hf1⟩ := hs65 _ hca
        obtain ⟨k66, o66, n66, c66, q66, C66, ea66, hl66, hq66, hk66, hs66⟩ := Spn.st (hsp1) (((solT (m + 1) p R i0).2.length + k)) (by rw [List.length_set]; omega)   -- 66 .ids ['.t', 45]
        refine ⟨k66, o66, n66, c66, ((solT (m + 1) p R i0).2.length + k), q66, ea66, rfl, hl66, hq66, ?_⟩
        refine ⟨_, _, _, hk66, (hs66 _ hcb2).1, eqBk_rfl, ?_⟩   -- W66 .st1 ['.t', 66]
        obtain ⟨-, hsp2, hf2⟩ := hs66 _ hcb2
        have hI2 := hI.sw (i := (solT (m + 1) p R i0).2.length) (j := (solT (m + 1) p R i0).2.length + k) (by omega) (by omega) (hf1.trans hf2) hsp2
        have hcb3 := (hf1.trans hf2) _ _ (fun h => hcn (by simp [OwnT, h])) hcb
        refine ⟨_, _, hI2.fkb, rfl, ?_⟩
        refine ⟨_, _, hcb3, rfl, ?_⟩
        refine ⟨_, i_system_clear_ok B E.2.2.2.1 (d := (solT (m + 1) p R i0).2.length) (c := i0) hp hp2 hm hI2.fs hI2.fra hI2.frows (by have := hI2.nd; unfold OwnT at this; simp only [List.nodup_cons, List.nodup_append] at this; exact this.2.2.2.1.2.1) (by have := hI2.nd; unfold OwnT at this; simp only [List.nodup_cons, List.nodup_append, List.mem_append, not_or] at this; exact this.2.1.2.2) (fun k hk hq => by have := hI2.nd; unfold OwnT at this; simp only [List.nodup_cons, List.nodup_append] at this; exact this.2.2.2.1.2.2 k hk k hq rfl) (by rw [swL_len]; omega) (by rw [swL_len]; omega) (by omega), ?_⟩   -- 70 .call 280
        rintro _ G3 ⟨hc1, hc2⟩
        have hI3 := hI2.cl hc2 hc1
        have hcn2 : cb ∉ (swL At.sn As (solT (m + 1) p R i0).2.length ((solT (m + 1) p R i0).2.length + k)).map blkOf := by
          intro h
          refine hcn ?_
          have := ((swL_perm (z := At.sn) (L := As) (i := (solT (m + 1) p R i0).2.length) (j := (solT (m + 1) p R i0).2.length + k) (by omega) (by omega)).map blkOf).mem_iff.1 h
          unfold OwnT
          simp only [List.mem_cons, List.mem_append]
          exact .inr (.inr (.inr (.inr this)))
        have hcb4 := hc2 _ _ hcn2 hcb3
        refine ⟨_, _, hI3.fkb, rfl, ?_⟩
        refine ⟨_, _, hI3.fkb, rfl, ?_⟩
        refine ⟨_, _, hI3.fs, rfl, ?_⟩
        refine ⟨_, _, hcb4, rfl, ?_⟩
        refine ⟨_, rfl, ⟨kept1 hI3.fs (app_old hI3.fs), kept1 hI3.fkb (app_old hI3.fkb), kept1 hI3.fkb (app_old hI3.fkb), trivial⟩, ?_⟩
        refine ⟨_, spn_app (x := .i .i64 (i0 : Int)) (hI3.ext Ext.app).fpa ⟨false, _, get_new, by simp, rfl⟩ (by simp; omega) (by omega), ?_⟩   -- 78 .apr ['.i', 0]
        rintro a78 G78 ⟨hp78, hf78, hb78, hl78⟩
        have hx3 : ∀ k, k = H.length ∨ k = s → k ∉ spB pa := by
          intro k hk hq
          have nd := hI3.nd
          simp only [OwnT, List.nodup_cons, List.nodup_append, List.mem_cons, List.mem_append, not_or] at nd
          grind
        have hkb78 := hf78 _ _ (hx3 _ (.inl rfl)) (app_old hI3.fkb)
        have hs78 := hf78 _ _ (hx3 _ (.inr rfl)) (app_old hI3.fs)
        refine ⟨⟨kept1 (app_old hI3.fs) hs78, kept1 (app_old hI3.fkb) hkb78, kept1 (app_old hI3.fkb) hkb78, trivial⟩, ?_⟩
        have hI4 := hI3.pl (T' := (solT (m + 1) p R i0).2 ++ [(i0 : Int)]) Ext.app hf78 (by rw [List.map_append]; exact hp78) (app_hb hb78) (by have := hI3.lt _ (List.mem_cons_self ..); omega)
        have hcb5 : cb ∉ spB pa ∧ cb ≠ s := by constructor <;> (intro h; exact hcn (by simp [OwnT, h]))
        have hcb6 := hf78 _ _ hcb5.1 (app_old hcb4)
        refine ⟨_, _, _, hs78, cput_rw (by simp) hp78.cell, eqBk_rfl, ?_⟩
        refine ⟨((((solT (m + 1) p R i0).2.length + 1 : Nat)) : Int), w64_id _ (by omega) (by omega), ?_⟩
        refine ⟨_, _, set_other hcb6 (Ne.symm hcb5.2), rfl, ?_⟩
        refine ⟨_, rfl, ?_⟩
        refine ⟨_, _, _, get_new, cput_vr rfl, eqBk_rfl, ?_⟩
        refine ⟨_, _, set_same get_new, rfl, ?_⟩
        refine ⟨((i0 + 1 : Nat) : Int), w64_id _ (by omega) (by omega), ?_⟩
        refine ⟨_, _, _, set_same get_new, cput_vr rfl, eqBk_rfl, ?_⟩
        refine ⟨by omega, (.sl kr 0 As.length cr, swL At.sn As (solT (m + 1) p R i0).2.length ((solT (m + 1) p R i0).2.length + k), a78, _, _), ?_, ⟨rfl, rfl, rfl, trivial⟩⟩
        dsimp only
        rw [app_set0, app_set0, hS]
        refine ⟨hI4.ext Ext.app, get_new, fun h => Nat.lt_irrefl _ (hI4.lt _ h), Nat.le_trans (hI4.ge _ (List.mem_cons_self ..)) (Nat.le_of_lt (hI4.lt _ (List.mem_cons_self ..))), by simp, ?_⟩
        have ge := hI.ge
        have ge3 := hI3.ge
        refine hU.trans (((hf1.trans hf2).upto fun k hk => ge k (by simp only [OwnT, List.mem_cons, List.mem_append]; simp [hk])).trans ((hc2.upto fun k hk => ge3 k (by simp only [OwnT, List.mem_cons, List.mem_append]; simp [hk])).trans ((Ext.app (G := _)).upto.trans ((hf78.upto fun k hk => ge3 k (by simp only [OwnT, List.mem_cons, List.mem_append]; simp [hk])).trans (Upto.trans (H1 := _) (fun k B hk e => set_other e ?_) (Ext.app (G := _)).upto)))))
        have := ge s (by simp [OwnT]); omega
    · replace h24 := of_decide_eq_false h24
      have hfin : solT (m + 1) p R m = solT (m + 1) p R i0 := by
        have := @solT_full (m + 1) p R i0 (m - i0) (by omega)
        rwa [show i0 + (m - i0) = m by omega] at this
      refine ⟨_, _, hI.fkb, rfl, ?_⟩
      refine ⟨_, _, hI.fs, rfl, ?_⟩
      have hR0l : As.length = R.length := by omega
      subst hd
      rcases hI.fra with ⟨rfl, rfl⟩ | ⟨kr, cr, lr, rfl, hkr, ⟨hr1, hr2⟩, hr3⟩
      · have hd0 : (solT (m + 1) p R i0).2.length = 0 := by have : ([] : List At).length = R.length := hR0l; simp at this; omega
        refine ⟨⟨by rw [hd0]; rfl, rfl⟩, ?_⟩
        refine ⟨_, _, hI.fkb, rfl, ?_⟩
        refine ⟨_, _, hI.fkb, rfl, ?_⟩
        refine ⟨_, _, hI.fs, rfl, ?_⟩
        refine ⟨⟨rfl, by rw [hd0]; rfl⟩, ?_⟩
        obtain ⟨hD, hf9⟩ := hI.done (d := 0) (ra' := .sn) (by omega) rfl (.inl ⟨rfl, rfl⟩)
        refine ⟨_, _, _, hI.fs, cput_rw (by simp) rfl, eqBk_rfl, ?_⟩
        obtain ⟨z, hz⟩ : ∃ z, firstQ (fun i => (solT (m + 1) p R i0).1.getD ((solT (m + 1) p R i0).2.length + i) z0 m != 0) (R.length - (solT (m + 1) p R i0).2.length) 0 = z := ⟨_, rfl⟩
        have hkb9 := hf9 _ _ (by have nd := hI.nd; simp [OwnT] at nd ⊢; grind) hI.fkb
        have hs9 : ∀ ra', (List.set _ s (sysB p n0 m ra' pa))[s]? = some (sysB p n0 m ra' pa) := fun ra' => set_same hI.fs
        refine ⟨_, x_ContainsFunc_R_ok B E.2.2.2.2.2 (a := .sn) (As := []) (q := fun i => (solT (m + 1) p R i0).1.getD ((solT (m + 1) p R i0).2.length + i) z0 m != 0) (z := z) (by rw [← hz, ← hR0l, hd0]; rfl) rfl rfl (by have := lt_of hI.fkb; simp [At.lt]; omega) (by simp) (fun i hi => by simp at hi), ?_⟩   -- 101 .call 281
        rintro _ _ ⟨rfl, rfl⟩
        refine ⟨rfl, by unfold solOK; rw [hfin, hz]; rfl, ?_, ?_⟩
        · rw [hfin]; first | exact hD | (rw [hd0]; exact hD)
        · exact hU.trans (hf9.upto fun k hk => by have := hI.ge s (by simp [OwnT]); simp at hk; omega)
      · refine ⟨_, As.length, rfl, rfl, ⟨by omega, by omega⟩, ?_⟩
        refine ⟨_, _, hI.fkb, rfl, ?_⟩
        refine ⟨_, _, hI.fkb, rfl, ?_⟩
        refine ⟨_, _, hI.fs, rfl, ?_⟩
        refine ⟨0, _, rfl, rfl, ⟨by omega, by omega⟩, ?_⟩
        obtain ⟨hD, hf9⟩ := hI.done (d := (solT (m + 1) p R i0).2.length) (ra' := .sl kr (if cr = 0 then 0 else 0 + 0 * 1) ((solT (m + 1) p R i0).2.length - 0) (cr - 0)) (by omega) rfl (by refine spn_take ?_ ⟨hr1, hr2⟩ hr3 (by omega); exact set_other hkr (by intro q; have nd := hI.nd; subst q; simp [OwnT, spB] at nd))
        refine ⟨_, _, _, hI.fs, cput_rw (by simp) rfl, eqBk_rfl, ?_⟩
        obtain ⟨z, hz⟩ : ∃ z, firstQ (fun i => (solT (m + 1) p R i0).1.getD ((solT (m + 1) p R i0).2.length + i) z0 m != 0) (R.length - (solT (m + 1) p R i0).2.length) 0 = z := ⟨_, rfl⟩
        have hkb9 := hf9 _ _ (by have nd := hI.nd; simp [OwnT] at nd ⊢; grind) hI.fkb
        have hkr9 : kr ∉ [s] := by have nd := hI.nd; simp [OwnT, spB] at nd ⊢; grind
        have hrow9 : ∀ i, i < As.length → blkOf (As.getD i .sn) ∉ [s] := by
          intro i hi
          have nd := hI.nd
          have := map_getD hi
          simp only [OwnT, List.nodup_cons, List.nodup_append, List.mem_cons, List.mem_append, not_or, List.not_mem_nil, or_false] at nd ⊢
          intro q
          grind
        refine ⟨_, x_ContainsFunc_R_ok B E.2.2.2.2.2 (As := As.drop (solT (m + 1) p R i0).2.length) (q := fun i => (solT (m + 1) p R i0).1.getD ((solT (m + 1) p R i0).2.length + i) z0 m != 0) (z := z) (by rw [← hz, List.length_drop, hR0l]) (rdR_drop (hf9 _ _ hkr9 hkr) ⟨hr1, hr2⟩ hr3 (by omega) _) (by simp [At.lt]; have := lt_of hkr; omega) (by have := lt_of hI.fkb; simp [At.lt]; omega) (by rw [List.length_drop]; omega) (fun i hi => by rw [List.length_drop] at hi; rw [drop_getD]; exact i_system_solve_2_ok B E.2.2.2.2.1 ((hI.frows.at _ (by omega)).fr hf9 (hrow9 _ (by omega))) hkb9 (set_same hI.fs)), ?_⟩   -- 101 .call 281
        rintro _ _ ⟨rfl, rfl⟩
        refine ⟨rfl, by unfold solOK; rw [hfin, hz]; rfl, ?_, ?_⟩
        · rw [hfin]; first | exact hD | (rw [hd0]; exact hD)
        · exact hU.trans (hf9.upto fun k hk => by have := hI.ge s (by simp [OwnT]); simp at hk; omega)
  · replace h16 := of_decide_eq_false h16
    have e0 : i0 = m := by omega
    have hfin : solT (m + 1) p R m = solT (m + 1) p R i0 := by rw [e0]
    refine brB_f ?_
    refine brB_f ?_
    refine brB_f ?_
    refine brB_f ?_
    refine brB_f ?_
    refine brB_f ?_
    refine brB_f ?_
    refine brB_f ?_
    refine ⟨_, _, hI.fkb, rfl, ?_⟩
    refine ⟨_, _, hI.fs, rfl, ?_⟩
    have hR0l : As.length = R.length := by omega
    subst hd
    rcases hI.fra with ⟨rfl, rfl⟩ | ⟨kr, cr, lr, rfl, hkr, ⟨hr1, hr2⟩, hr3⟩
    · have hd0 : (solT (m + 1) p R i0).2.length = 0 := by have : ([] : List At).length = R.length := hR0l; simp at this; omega
      refine ⟨⟨by rw [hd0]; rfl, rfl⟩, ?_⟩
      refine ⟨_, _, hI.fkb, rfl, ?_⟩
      refine ⟨_, _, hI.fkb, rfl, ?_⟩
      refine ⟨_, _, hI.fs, rfl, ?_⟩
      refine ⟨⟨rfl, by rw [hd0]; rfl⟩, ?_⟩
      obtain ⟨hD, hf9⟩ := hI.done (d := 0) (ra' := .sn) (by omega) rfl (.inl ⟨rfl, rfl⟩)
      refine ⟨_, _, _, hI.fs, cput_rw (by simp) rfl, eqBk_rfl, ?_⟩
      obtain ⟨z, hz⟩ : ∃ z, firstQ (fun i => (solT (m + 1) p R i0).1.getD ((solT (m + 1) p R i0).2.length + i) z0 m != 0) (R.length - (solT (m + 1) p R i0).2.length) 0 = z := ⟨_, rfl⟩
      have hkb9 := hf9 _ _ (by have nd := hI.nd; simp [OwnT] at nd ⊢; grind) hI.fkb
      have hs9 : ∀ ra', (List.set _ s (sysB p n0 m ra' pa))[s]? = some (sysB p n0 m ra' pa) := fun ra' => set_same hI.fs
      refine ⟨_, x_ContainsFunc_R_ok B E.2.2.2.2.2 (a := .sn) (As := []) (q := fun i => (solT (m + 1) p R i0).1.getD ((solT (m + 1) p R i0).2.length + i) z0 m != 0) (z := z) (by rw [← hz, ← hR0l, hd0]; rfl) rfl rfl (by have := lt_of hI.fkb; simp [At.lt]; omega) (by simp) (fun i hi => by simp at hi), ?_⟩   -- 101 .call 281
      rintro _ _ ⟨rfl, rfl⟩
      refine ⟨rfl, by unfold solOK; rw [hfin, hz]; rfl, ?_, ?_⟩
      · rw [hfin]; first | exact hD | (rw [hd0]; exact hD)
      · exact hU.trans (hf9.upto fun k hk => by have := hI.ge s (by simp [OwnT]); simp at hk; omega)
    · refine ⟨_, As.length, rfl, rfl, ⟨by omega, by omega⟩, ?_⟩
      refine ⟨_, _, hI.fkb, rfl, ?_⟩
      refine ⟨_, _, hI.fkb, rfl, ?_⟩
      refine ⟨_, _, hI.fs, rfl, ?_⟩
      refine ⟨0, _, rfl, rfl, ⟨by omega, by omega⟩, ?_⟩
      obtain ⟨hD, hf9⟩ := hI.done (d := (solT (m + 1) p R i0).2.length) (ra' := .sl kr (if cr = 0 then 0 else 0 + 0 * 1) ((solT (m + 1) p R i0).2.length - 0) (cr - 0)) (by omega) rfl (by refine spn_take ?_ ⟨hr1, hr2⟩ hr3 (by omega); exact set_other hkr (by intro q; have nd := hI.nd; subst q; simp [OwnT, spB] at nd))
      refine ⟨_, _, _, hI.fs, cput_rw (by simp) rfl, eqBk_rfl, ?_⟩
      obtain ⟨z, hz⟩ : ∃ z, firstQ (fun i => (solT (m + 1) p R i0).1.getD ((solT (m + 1) p R i0).2.length + i) z0 m != 0) (R.length - (solT (m + 1) p R i0).2.length) 0 = z := ⟨_, rfl⟩
      have hkb9 := hf9 _ _ (by have nd := hI.nd; simp [OwnT] at nd ⊢; grind) hI.fkb
      have hkr9 : kr ∉ [s] := by have nd := hI.nd; simp [OwnT, spB] at nd ⊢; grind
      have hrow9 : ∀ i, i < As.length → blkOf (As.getD i .sn) ∉ [s] := by
        intro i hi
        have nd := hI.nd
        have := map_getD hi
        simp only [OwnT, List.nodup_cons, List.nodup_append, List.mem_cons, List.mem_append, not_or, List.not_mem_nil, or_false] at nd ⊢
        intro q
        grind
      refine ⟨_, x_ContainsFunc_R_ok B E.2.2.2.2.2 (As := As.drop (solT (m + 1) p R i0).2.length) (q := fun i => (solT (m + 1) p R i0).1.getD ((solT (m + 1) p R i0).2.length + i) z0 m != 0) (z := z) (by rw [← hz, List.length_drop, hR0l]) (rdR_drop (hf9 _ _ hkr9 hkr) ⟨hr1, hr2⟩ hr3 (by omega) _) (by simp [At.lt]; have := lt_of hkr; omega) (by have := lt_of hI.fkb; simp [At.lt]; omega) (by rw [List.length_drop]; omega) (fun i hi => by rw [List.length_drop] at hi; rw [drop_getD]; exact i_system_solve_2_ok B E.2.2.2.2.1 ((hI.frows.at _ (by omega)).fr hf9 (hrow9 _ (by omega))) hkb9 (set_same hI.fs)), ?_⟩   -- 101 .call 281
      rintro _ _ ⟨rfl, rfl⟩
      refine ⟨rfl, by unfold solOK; rw [hfin, hz]; rfl, ?_, ?_⟩
      · rw [hfin]; first | exact hD | (rw [hd0]; exact hD)
      · exact hU.trans (hf9.upto fun k hk => by have := hI.ge s (by simp [OwnT]); simp at hk; omega)

end Hf
namespace Hf
open Go Classical
variable {P : Program} {ρ : Nat → FuncId}
/-! ### the rows of a matrix -/
def rw8 (g : By) (i : Nat) : By := fun x => if x < 8 then g (i * 8 + x) else 0
def rows8 (g : By) : List By := (List.range 8).map (rw8 g)
theorem rows8_at {g : By} {i : Nat} (h : i < 8) : (rows8 g).getD i z0 = rw8 g i := by simp [rows8, List.getD_eq_getElem?_getD, h]
theorem VS.ag {H : List Blk} {k : Nat} {r : Bool} {g : By} (h : H[k]? = some ⟨r, .by [] 64 g⟩) : VS H (.sl k 0 8 8) (rows8 g) := by
  refine .inr ⟨k, 0, 8, r, 64, g, by simp [rows8], h, by simp [rows8], fun i x hi hx => ?_⟩
  have hi : i < 8 := by simpa [rows8] using hi
  rw [rows8_at hi, rw8, if_pos hx, Nat.zero_add]
theorem VW.one {H : List Blk} {m : Nat} {v : By} (hm : m ≤ H.length) : VW m (H ++ [⟨false, .by [] (1 * 8) (spl (fun _ => 0) (0 * 8) 8 v)⟩]) (.sl H.length 0 1 1) [v] := by
  refine ⟨H.length, 0, 1, _, _, rfl, get_new, ⟨by omega, by simp, hm⟩, fun i x h hx => ?_⟩
  obtain rfl : i = 0 := by simpa using h
  simp [spl, hx]
/-- a slice that may be nil -/
def VM (m : Nat) (H : List Blk) (a : At) (L : List By) : Prop := (a = .sn ∧ L = []) ∨ VW m H a L
theorem VM.vs {m : Nat} {H : List Blk} {a : At} {L : List By} (h : VM m H a L) : VS H a L := by
  rcases h with h | h
  · exact .inl h
  · exact h.vs
theorem VM.vw {m : Nat} {H : List Blk} {a : At} {L : List By} (h : VM m H a L) (hl : 0 < L.length) : VW m H a L := by
  rcases h with ⟨-, rfl⟩ | h
  · simp at hl
  · exact h
theorem VM.nil {m : Nat} {H : List Blk} : VM m H .sn [] := .inl ⟨rfl, rfl⟩
theorem VM.mono {m m' : Nat} {H : List Blk} {a : At} {L : List By} (h : VM m H a L) (hm : m' ≤ m) : VM m' H a L := h.imp id fun h => h.mono hm
theorem VM.ext {m : Nat} {H H' : List Blk} {a : At} {L : List By} (h : VM m H a L) (e : Ext H H') : VM m H' a L := h.imp id fun h => h.ext e
theorem VS.upto {m : Nat} {H H' : List Blk} {a : At} {L : List By} (h : VS H a L) (hm : H.length ≤ m) (e : Upto m H H') : VS H' a L := h.ext fun k B hk => e k B (by have := lt_of hk; omega) hk

theorem brB_f' {b : Bool} {K : Bool → Prop} (hb : b = false) (h : K false) : brB b K := by subst hb; exact brB_f h
/-! ### marks -/
def mkL (k : Int) (n : Nat) : List By := (List.range n).map fun i => fun x => byt (k + ((i * 8 + x : Nat) : Int))
theorem mkL_len {k : Int} {n : Nat} : (mkL k n).length = n := by simp [mkL]
theorem mkL_at {k : Int} {n i : Nat} (h : i < n) : (mkL k n).getD i z0 = fun x => byt (k + ((i * 8 + x : Nat) : Int)) := by simp [mkL, List.getD_eq_getElem?_getD, h]
/-- a list whose first i vectors, and the first j entries of the next, are marked -/
def mkP (k : Int) (L : List By) (t : Nat) : List By := (List.range L.length).map fun i => fun x => if i * 8 + x < t ∧ x < 8 then byt (k + ((i * 8 + x : Nat) : Int)) else (L.getD i z0) x
theorem mkP_len {k : Int} {L : List By} {t : Nat} : (mkP k L t).length = L.length := by simp [mkP]
theorem mkP_at {k : Int} {L : List By} {t i : Nat} (h : i < L.length) : (mkP k L t).getD i z0 = fun x => if i * 8 + x < t ∧ x < 8 then byt (k + ((i * 8 + x : Nat) : Int)) else (L.getD i z0) x := by simp [mkP, List.getD_eq_getElem?_getD, h]
theorem VW.congr {m : Nat} {H : List Blk} {a : At} {L L' : List By} (h : VW m H a L) (hl : L'.length = L.length) (e : ∀ i x, i < L.length → x < 8 → (L.getD i z0) x = (L'.getD i z0) x) : VW m H a L' := by
  obtain ⟨k, off, cap, N, f, rfl, h2, h3, h4⟩ := h
  exact ⟨k, off, cap, N, f, by rw [hl], h2, by rw [hl]; exact h3, fun i x hi hx => by rw [hl] at hi; rw [h4 i x hi hx]; exact e i x hi hx⟩
/-- an entry is written -/
theorem VW.st {m : Nat} {H : List Blk} {a : At} {L : List By} (h : VW m H a L) (i : Nat) (hi : i < L.length) :
    ∃ k off len cap q c, a = .sl k off len cap ∧ i < len ∧ off + i * 8 = q ∧ H[k]? = some ⟨false, c⟩ ∧ ∀ x b, x < 8 → cput c (q + x) (.u b) = some (bput c (q + x) b) ∧
      (∀ L', L'.length = L.length → (∀ j y, j < L.length → y < 8 → (L'.getD j z0) y = if j = i ∧ y = x then b else (L.getD j z0) y) → VW m (H.set k ⟨false, bput c (q + x) b⟩) a L') ∧ Upto m H (H.set k ⟨false, bput c (q + x) b⟩) := by
  obtain ⟨k, off, cap, N, f, rfl, h2, h3, h4⟩ := h
  refine ⟨k, off, L.length, cap, off + i * 8, _, rfl, hi, rfl, h2, fun x b hx => ⟨cput_u (by simp) (by omega), fun L' hl he => ⟨k, off, cap, N, upd f (off + i * 8 + x) b, by rw [hl], set_same h2, by rw [hl]; exact h3, fun j y hj hy => ?_⟩, fun j B hj e => set_other e (by omega)⟩⟩
  rw [hl] at hj
  rw [he j y hj hy]
  unfold upd
  by_cases e : j = i ∧ y = x
  · rw [if_pos e, if_pos (by omega)]
  · rw [if_neg e, if_neg (by omega)]
    exact h4 j y hj hy
end Hf
namespace Hf
open Go Classical
variable {P : Program} {ρ : Nat → FuncId}
theorem l_eqVectorS_ok (B : Bs P ρ) (E : F_l_eqVectorS P ρ) {H : List Blk} {a b : At} {L : List By} (hA : VS H a L) (hB : VS H b L) (hlen : L.length ≤ 1000000) :
    CallR P ρ 247 [a, b] H (fun u G => u = .one (.b true) ∧ G = H) := by
  refine call_of_q B.fn B.mo E.1 rfl (fun hAr hHp => ?_) (by simp only [List.all_cons, List.all_nil, hA.lt, hB.lt]; rfl)
  refine ⟨_, (hA).len, ?_⟩   -- 7 .len ['.t', 6]
  refine ⟨_, (hB).len, ?_⟩   -- 9 .len ['.t', 8]
  refine brB_f' (by simp) ?_
  refine ⟨Unit, (fun a0 a1 (i0 : Nat) (x0 : Unit) => [(0, a0), (1, a1), (5, .one (.i .i64 ((i0 : Nat) : Int)))]) _ _ , fun (i0 : Nat) (x0 : Unit) (G0 : List Blk) => (G0 = H), L.length, ⟨(), rfl, ⟨rfl, rfl, rfl, trivial⟩⟩, ?_⟩
  rintro i0 _ G0 hi0 rfl
  refine ⟨_, (hA).len, ?_⟩   -- 13 .len ['.t', 12]
  refine ⟨fun h14 => ?_, fun h14 => ?_⟩
  · replace h14 := of_decide_eq_true h14
    obtain ⟨k19, o19, n19, c19, q19, ea19, hl19, hq19, r19, N19, f19, hk19, hN19, hf19⟩ := (hA).at i0 (by omega)   -- 19 .ids ['.t', 17]
    refine ⟨k19, o19, n19, c19, i0, q19, ea19, rfl, hl19, hq19, ?_⟩
    refine ⟨_, _, _, _, _, hk19, ⟨by simp, hN19⟩, hf19, ?_⟩   -- 20 .lda ['.t', 19]
    obtain ⟨k23, o23, n23, c23, q23, ea23, hl23, hq23, r23, N23, f23, hk23, hN23, hf23⟩ := (hB).at i0 (by omega)   -- 23 .ids ['.t', 21]
    refine ⟨k23, o23, n23, c23, i0, q23, ea23, rfl, hl23, hq23, ?_⟩
    refine ⟨_, _, _, _, _, hk23, ⟨by simp, hN23⟩, hf23, ?_⟩   -- 24 .lda ['.t', 23]
    refine ⟨_, l_eqVector_ok B E.2 , rfl, ?_⟩   -- 25 .calp 19
    refine brB_f ?_
    refine ⟨((i0 + 1 : Nat) : Int), w64_id _ (by omega) (by omega), ?_⟩   -- 16 .bin
    exact ⟨by omega, (), rfl, ⟨rfl, rfl, rfl, trivial⟩⟩
  · replace h14 := of_decide_eq_false h14
    have e0 : L.length = i0 := by omega
    subst e0
    exact ⟨rfl, rfl, rfl⟩

theorem l_markVectorS_ok (B : Bs P ρ) (E : F_l_markVectorS P ρ) {H : List Blk} {m : Nat} {a : At} {L : List By} {k : Int} (hA : VM m H a L) (hlen : L.length ≤ 1000) (hk : 0 ≤ k) (hk2 : k ≤ 1000) :
    CallR P ρ 248 [a, .i .i64 k] H (fun u G => u = .one (.i .i64 (k + ((L.length * 8 : Nat) : Int))) ∧ VM m G a (mkL k L.length) ∧ Upto m H G) := by
  refine call_of_q B.fn B.mo E rfl (fun hAr hHp => ?_) (by simp only [List.all_cons, List.all_nil, hA.vs.lt]; rfl)
  refine ⟨Int, (fun a0 (i0 : Nat) (x0 : Int) => [(0, a0), (1, .one (.i .i64 x0)), (5, .one (.i .i64 ((i0 : Nat) : Int)))]) _ , fun (i0 : Nat) (x0 : Int) (G0 : List Blk) => (x0 = k + ((i0 * 8 : Nat) : Int) ∧ VM m G0 a (mkP k L (i0 * 8)) ∧ Upto m H G0), L.length, ⟨k, ?_, ⟨rfl, rfl, rfl, trivial⟩⟩, ?_⟩
  · refine ⟨by omega, ?_, Upto.refl⟩
    rcases hA with ⟨rfl, rfl⟩ | hA
    · exact .inl ⟨rfl, rfl⟩
    · exact .inr (hA.congr mkP_len fun i x hi hx => by rw [mkP_at hi]; simp)
  rintro i0 x0 G0 hi0 ⟨hx0, hV0, hU0⟩
  refine ⟨L.length, by rw [hV0.vs.len, mkP_len], ?_⟩
  refine ⟨fun h10 => ?_, fun h10 => ?_⟩
  · replace h10 := of_decide_eq_true h10
    refine ⟨Int, (fun a0 a5 (i1 : Nat) (x1 : Int) => [(0, a0), (1, .one (.i .i64 x1)), (5, a5), (6, .one (.i .i64 ((i1 : Nat) : Int)))]) _ _ , fun (i1 : Nat) (x1 : Int) (G1 : List Blk) => (x1 = k + ((i0 * 8 + i1 : Nat) : Int) ∧ VW m G1 a (mkP k L (i0 * 8 + i1)) ∧ Upto m H G1), 8, ⟨_, ⟨by omega, hV0.vw (by rw [mkP_len]; omega), hU0⟩, ⟨rfl, rfl, rfl, rfl, trivial⟩⟩, ?_⟩
    rintro i1 x1 G1 hi1 ⟨hx1, hV1, hU1⟩
    refine ⟨fun h14 => ?_, fun h14 => ?_⟩
    · replace h14 := of_decide_eq_true h14
      obtain ⟨k22, o22, n22, c22, q22, C22, ea22, hl22, hq22, hk22, hs22⟩ := VW.st (hV1) i0 (by rw [mkP_len]; omega)   -- 22 .ids ['.t', 17]
      refine ⟨k22, o22, n22, c22, i0, q22, ea22, rfl, hl22, hq22, ?_⟩
      refine ⟨i1, q22 + i1, rfl, by omega, by omega, ?_⟩
      refine ⟨_, _, _, hk22, (hs22 i1 _ (by omega)).1, eqBk_rfl, ?_⟩
      refine ⟨_, w64_id _ (by omega) (by omega), ?_⟩   -- 25 .bin
      refine ⟨((i1 + 1 : Nat) : Int), w64_id _ (by omega) (by omega), ?_⟩   -- 16 .bin
      refine ⟨by omega, _, ?_, ⟨rfl, rfl, rfl, rfl, trivial⟩⟩
      obtain ⟨-, hc, hu⟩ := hs22 i1 (byt x1) (by omega)
      refine ⟨by omega, hc _ (by rw [mkP_len, mkP_len]) ?_, hU1.trans hu⟩
      intro j y hj hy
      rw [mkP_len] at hj
      rw [mkP_at hj, mkP_at hj]
      dsimp only
      by_cases e : j = i0 ∧ y = i1
      · obtain ⟨rfl, rfl⟩ := e
        rw [if_pos ⟨Nat.lt_succ_self _, hy⟩, if_pos ⟨rfl, rfl⟩, hx1]
      · by_cases h : j * 8 + y < i0 * 8 + i1
        · rw [if_pos ⟨Nat.lt_succ_of_lt h, hy⟩, if_neg e, if_pos ⟨h, hy⟩]
        · rw [if_neg (fun q => by have := q.1; omega), if_neg e, if_neg (fun q => h q.1)]
    · replace h14 := of_decide_eq_false h14
      have e1 : 8 = i1 := by omega
      subst e1
      refine ⟨((i0 + 1 : Nat) : Int), w64_id _ (by omega) (by omega), ?_⟩   -- 12 .bin
      refine ⟨by omega, _, ?_, ⟨rfl, rfl, rfl, trivial⟩⟩
      refine ⟨by omega, ?_, hU1⟩
      rw [show (i0 + 1) * 8 = i0 * 8 + 8 by omega]
      exact .inr hV1
  · replace h10 := of_decide_eq_false h10
    have e0 : L.length = i0 := by omega
    subst e0
    refine ⟨rfl, by rw [hx0]; rfl, ?_, hU0⟩
    have e : mkP k L (L.length * 8) = mkP k L (L.length * 8) := rfl
    rcases hV0 with ⟨h1, h2⟩ | hV0
    · have h3 := congrArg List.length h2
      rw [mkP_len] at h3
      exact .inl ⟨h1, by rw [h3]; rfl⟩
    · exact .inr (hV0.congr (by rw [mkL_len, mkP_len]) fun i x hi hx => by rw [mkP_len] at hi; rw [mkP_at hi, mkL_at hi]; dsimp only; rw [if_pos ⟨by omega, hx⟩])

theorem l_heldVectorS_ok (B : Bs P ρ) (E : F_l_heldVectorS P ρ) {H : List Blk} {a : At} {n : Nat} {k : Int} (hA : VS H a (mkL k n)) (hlen : n ≤ 1000) (hk : 0 ≤ k) (hk2 : k ≤ 1000) :
    CallR P ρ 249 [a, .i .i64 k] H (fun u G => u = .one (.i .i64 (k + ((n * 8 : Nat) : Int))) ∧ G = H) := by
  refine call_of_q B.fn B.mo E rfl (fun hAr hHp => ?_) (by simp only [List.all_cons, List.all_nil, hA.lt]; rfl)
  refine ⟨Int, (fun a0 (i0 : Nat) (x0 : Int) => [(0, a0), (1, .one (.i .i64 x0)), (5, .one (.i .i64 ((i0 : Nat) : Int)))]) _ , fun (i0 : Nat) (x0 : Int) (G0 : List Blk) => (x0 = k + ((i0 * 8 : Nat) : Int) ∧ G0 = H), n, ⟨k, ⟨by omega, rfl⟩, ⟨rfl, rfl, rfl, trivial⟩⟩, ?_⟩
  rintro i0 x0 G0 hi0 ⟨hx0, rfl⟩
  refine ⟨n, by rw [hA.len, mkL_len], ?_⟩
  refine ⟨fun h10 => ?_, fun h10 => ?_⟩
  · replace h10 := of_decide_eq_true h10
    refine ⟨Int, (fun a0 a5 (i1 : Nat) (x1 : Int) => [(0, a0), (1, .one (.i .i64 x1)), (5, a5), (6, .one (.i .i64 ((i1 : Nat) : Int)))]) _ _ , fun (i1 : Nat) (x1 : Int) (G1 : List Blk) => (x1 = k + ((i0 * 8 + i1 : Nat) : Int) ∧ G1 = G0), 8, ⟨_, ⟨by omega, rfl⟩, ⟨rfl, rfl, rfl, rfl, trivial⟩⟩, ?_⟩
    rintro i1 x1 G1 hi1 ⟨hx1, rfl⟩
    refine ⟨fun h14 => ?_, fun h14 => ?_⟩
    · replace h14 := of_decide_eq_true h14
      obtain ⟨k20, o20, n20, c20, q20, ea20, hl20, hq20, r20, N20, f20, hk20, hN20, hf20⟩ := hA.at i0 (by rw [mkL_len]; omega)
      refine ⟨k20, o20, n20, c20, i0, q20, ea20, rfl, hl20, hq20, ?_⟩
      refine ⟨i1, q20 + i1, rfl, by omega, by omega, ?_⟩
      refine ⟨_, .u (byt x1), hk20, ?_, ?_⟩
      · rw [cat_u (by omega), ← hf20 i1 (by omega), mkL_at (by omega), hx1]
      refine brB_f' (by simp) ?_
      refine ⟨_, w64_id _ (by omega) (by omega), ?_⟩   -- 27 .bin
      refine ⟨((i1 + 1 : Nat) : Int), w64_id _ (by omega) (by omega), ?_⟩   -- 16 .bin
      exact ⟨by omega, _, ⟨by omega, rfl⟩, ⟨rfl, rfl, rfl, rfl, trivial⟩⟩
    · replace h14 := of_decide_eq_false h14
      have e1 : 8 = i1 := by omega
      subst e1
      refine ⟨((i0 + 1 : Nat) : Int), w64_id _ (by omega) (by omega), ?_⟩   -- 12 .bin
      exact ⟨by omega, _, ⟨by omega, rfl⟩, ⟨rfl, rfl, rfl, trivial⟩⟩
  · replace h10 := of_decide_eq_false h10
    have e0 : n = i0 := by omega
    subst e0
    refine ⟨rfl, by rw [hx0]; rfl, rfl⟩

end Hf
namespace Hf
open Go Classical
variable {P : Program} {ρ : Nat → FuncId}
theorem x_Clone_B_ok (B : Bs P ρ) (E : F_x_Clone_B P ρ) {H : List Blk} {k off n cap : Nat} {r : Bool} {N : Nat} {f : By} (hk : H[k]? = some ⟨r, .by [] N f⟩) (hN : off + n ≤ N) (hn : n ≤ 1000) :
    CallR P ρ 289 [.sl k off n cap] H (fun u G => ∃ b, u = .one b ∧ RowC H.length G n b (fun x => f (off + x)) ∧ Ext H G) := by
  refine call_of_q B.fn B.mo E rfl (fun hAr hHp => ?_) (by simp [At.lt, lt_of hk])
  refine brB_f ?_
  refine ⟨[], _, rfl, rfl, ?_⟩   -- 5 .bsy ('L', [])
  refine ⟨_, rowc_app (n := 0) (v := z0) (M := n) (g := fun x => f (off + x)) ⟨_, _, _, _, rfl, get_new, ⟨Nat.le_refl _, Nat.le_refl _, Nat.le_refl _⟩, fun x hx => by omega⟩ ⟨rfl, r, N, f, app_old hk, by omega, fun x hx => rfl⟩ (by omega) (by simp), ?_⟩   -- 7 .apb 1
  rintro a7 G7 ⟨hv7, hu7, hl7⟩
  refine ⟨rfl, a7, rfl, ?_, ?_⟩
  · obtain ⟨k', cap', N', f', h1, h2, h3, h4⟩ := hv7
    refine ⟨k', cap', N', f', by rw [h1, Nat.zero_add], h2, by omega, fun x hx => ?_⟩
    have := h4 x (by omega)
    rw [this]; simp
  · exact Upto.ext Ext.app hu7 (Nat.le_refl _)

theorem i_reduced_ok (B : Bs P ρ) (E : F_i_reduced P ρ) {H : List Blk} {p : Int} {a : At} {L : List By} (hp : Pr p) (hL : VS H a L) (hv : ∀ v ∈ L, Vp 8 p v) (hlen : L.length ≤ 100000) :
    CallR P ρ 267 [.i .i64 p, a] H (fun u G => ∃ b, u = .one b ∧ Ext H G ∧ VW H.length G b (redL p L)) := by
  have hp2 := hp.1
  have hp3 := hp.2.1
  refine call_of_q B.fn B.mo E.1 rfl (fun hAr hHp => ?_) (by simp only [List.all_cons, List.all_nil, hL.lt]; rfl)
  refine ⟨_, i_newSystem_ok B E.2.1 , ?_⟩   -- 12 .call 271
  rintro _ _ ⟨rfl, rfl⟩
  refine ⟨_, (hL).len, ?_⟩   -- 14 .len ['.t', 13]
  refine ⟨Unit, (fun a5 a13 a14 (i0 : Nat) (x0 : Unit) => [(5, a5), (13, a13), (14, a14), (15, .one (.i .i64 ((i0 : Nat) : Int)))]) _ _ _ , fun (i0 : Nat) (x0 : Unit) (G0 : List Blk) => (SY H.length G0 H.length p 0 8 (L.take i0) [] ∧ Ext H G0), L.length, ⟨(), ?_, ⟨rfl, rfl, rfl, rfl, trivial⟩⟩, ?_⟩
  · refine ⟨⟨.sn, [], .sn, get_new, .inl ⟨rfl, rfl⟩, ⟨rfl, fun i h => by simp at h⟩, .inl ⟨rfl, rfl⟩, by simp [OwnT, spB], by simp [OwnT, spB]⟩, Ext.app⟩
  rintro i0 _ G0 hi0 ⟨hS0, hE0⟩
  refine ⟨fun h16 => ?_, fun h16 => ?_⟩
  · replace h16 := of_decide_eq_true h16
    obtain ⟨k17, o17, n17, c17, q17, ea17, hl17, hq17, r17, N17, f17, hk17, hN17, hf17⟩ := (hL.ext hE0).at i0 (by omega)   -- 17 .ids ['.t', 13]
    refine ⟨k17, o17, n17, c17, i0, q17, ea17, rfl, hl17, hq17, ?_⟩
    refine ⟨_, _, _, _, _, hk17, ⟨by simp, hN17⟩, hf17, ?_⟩   -- 18 .lda ['.t', 17]
    refine ⟨_, rfl, ?_⟩
    refine ⟨_, _, _, get_new, cputs_by (by simp) (by omega), eqBk_rfl, ?_⟩
    obtain ⟨ra, As, pa, hs, hra, hR, hpa, hnd, hge⟩ := hS0
    have hlt0 := lt_of hs
    rw [app_set0]
    refine ⟨_, _, app_old hs, rfl, ?_⟩
    refine ⟨0, 8, rfl, rfl, ⟨by omega, by omega, by omega⟩, ?_⟩
    refine ⟨?_, ?_⟩
    · skip
      refine ⟨_, x_Clone_B_ok B E.2.2.1 (k := G0.length) (off := 0 + 0 * 1) (n := 8 - 0) get_new (by omega) (by omega), ?_⟩   -- 25 .call 289
      rintro _ G25 ⟨b25, rfl, hc25, hE25⟩
      refine ⟨⟨kept1 (app_old hs) (hE25 _ _ (app_old hs)), trivial⟩, ?_⟩
      refine ⟨[0], _, rfl, rfl, ?_⟩   -- 26 .bsy ('L', [['.c', ['.u', 0]]])
      refine ⟨⟨kept1 (hE25 _ _ (app_old hs)) (app_old (hE25 _ _ (app_old hs))), trivial⟩, ?_⟩
      refine ⟨_, rowc_app (m := G0.length) (g := fun _ => 0) (M := 1) ((hc25.mono (by simp)).ext Ext.app) ⟨rfl, _, _, _, get_new, by simp, fun x hx => by have e : x = 0 := (by omega); subst e; rfl⟩ (by omega) (by have := hE25.len; simp at this ⊢; omega), ?_⟩   -- 27 .apb 1
      rintro a27 G27 ⟨hv27, hu27, hl27⟩
      have hE27 : Ext G0 G27 := Upto.ext (Ext.app.trans (hE25.trans Ext.app)) hu27 (Nat.le_refl _)
      refine ⟨⟨kept1 (B := sysB p 0 8 ra pa) (by first | exact hE25 _ _ (app_old (app_old hs)) | exact app_old (hE25 _ _ (app_old hs))) (hE27 _ _ hs), trivial⟩, ?_⟩
      obtain ⟨k27, cap27, N27, f27, rfl, hk27, hc27, hf27⟩ := hv27
      have hx27 : RowC G0.length G27 9 (.sl k27 0 (8 - 0 + 1) cap27) (L.getD i0 z0) := ⟨k27, cap27, N27, f27, rfl, hk27, hc27, fun x hx => by
        rw [hf27 x (by omega)]
        dsimp only
        by_cases h8 : x < 8
        · rw [if_pos (by omega)]; simp [spl, h8]
        · rw [if_neg (by omega)]; exact ((hv _ (getD_mem (L := L) (i := i0) (by omega))).2 x (by omega)).symm⟩
      refine ⟨_, rfl, ?_⟩   -- 28 .bsa
      refine ⟨⟨kept1 (hE27 _ _ hs) (app_old (hE27 _ _ hs)), trivial⟩, ?_⟩
      refine ⟨_, spn_app (x := .sl k27 0 (8 - 0 + 1) cap27) (hra.fr (l := []) (hE27.trans Ext.app).fr (by simp)) ⟨false, _, get_new, by simp, rfl⟩ (by have := hR.1; simp at this; omega) (by omega), ?_⟩   -- 29 .apr .sn
      rintro a29 G29 ⟨hp29, hf29, hb29, hl29⟩
      obtain ⟨hs29, hS29, hF29⟩ := sy_add hs hra hR hpa hnd hge hE0.len (hE27.trans Ext.app) (hx27.ext Ext.app) hp29 hf29 (app_hb hb29)
      refine ⟨_, _, _, hs29, cput_rw (by simp) hp29.cell, eqBk_rfl, ?_⟩
      refine ⟨((i0 + 1 : Nat) : Int), w64_id _ (by omega) (by omega), ?_⟩   -- 32 .bin
      refine ⟨by omega, (), ?_, ⟨rfl, rfl, rfl, rfl, trivial⟩⟩
      refine ⟨?_, ?_⟩
      · have e : L.take (i0 + 1) = L.take i0 ++ [L.getD i0 z0] := by rw [List.take_add_one]; simp [show i0 < L.length by omega]
        rw [e]; exact hS29
      · exact Upto.ext hE0 (hF29.upto fun k hk => hge k (by simp only [List.mem_cons] at hk; rcases hk with h | h <;> simp [OwnT, h])) (Nat.le_refl _)
    · skip
      refine ⟨[0], _, rfl, rfl, ?_⟩   -- 26 .bsy ('L', [['.c', ['.u', 0]]])
      refine ⟨⟨kept1 (app_old hs) (app_old (app_old hs)), trivial⟩, ?_⟩
      refine ⟨_, x_Clone_B_ok B E.2.2.1 (k := G0.length) (off := 0 + 0 * 1) (n := 8 - 0) (app_old get_new) (by omega) (by omega), ?_⟩   -- 25 .call 289
      rintro _ G25 ⟨b25, rfl, hc25, hE25⟩
      refine ⟨⟨kept1 (app_old (app_old hs)) (hE25 _ _ (app_old (app_old hs))), trivial⟩, ?_⟩
      refine ⟨_, rowc_app (m := G0.length) (g := fun _ => 0) (M := 1) (hc25.mono (by simp)) ⟨rfl, _, _, _, hE25 _ _ get_new, by simp, fun x hx => by have e : x = 0 := (by omega); subst e; rfl⟩ (by omega) (by have := hE25.len; simp at this ⊢; omega), ?_⟩   -- 27 .apb 1
      rintro a27 G27 ⟨hv27, hu27, hl27⟩
      have hE27 : Ext G0 G27 := Upto.ext (Ext.app.trans (Ext.app.trans hE25)) hu27 (Nat.le_refl _)
      refine ⟨⟨kept1 (B := sysB p 0 8 ra pa) (by first | exact hE25 _ _ (app_old (app_old hs)) | exact app_old (hE25 _ _ (app_old hs))) (hE27 _ _ hs), trivial⟩, ?_⟩
      obtain ⟨k27, cap27, N27, f27, rfl, hk27, hc27, hf27⟩ := hv27
      have hx27 : RowC G0.length G27 9 (.sl k27 0 (8 - 0 + 1) cap27) (L.getD i0 z0) := ⟨k27, cap27, N27, f27, rfl, hk27, hc27, fun x hx => by
        rw [hf27 x (by omega)]
        dsimp only
        by_cases h8 : x < 8
        · rw [if_pos (by omega)]; simp [spl, h8]
        · rw [if_neg (by omega)]; exact ((hv _ (getD_mem (L := L) (i := i0) (by omega))).2 x (by omega)).symm⟩
      refine ⟨_, rfl, ?_⟩   -- 28 .bsa
      refine ⟨⟨kept1 (hE27 _ _ hs) (app_old (hE27 _ _ hs)), trivial⟩, ?_⟩
      refine ⟨_, spn_app (x := .sl k27 0 (8 - 0 + 1) cap27) (hra.fr (l := []) (hE27.trans Ext.app).fr (by simp)) ⟨false, _, get_new, by simp, rfl⟩ (by have := hR.1; simp at this; omega) (by omega), ?_⟩   -- 29 .apr .sn
      rintro a29 G29 ⟨hp29, hf29, hb29, hl29⟩
      obtain ⟨hs29, hS29, hF29⟩ := sy_add hs hra hR hpa hnd hge hE0.len (hE27.trans Ext.app) (hx27.ext Ext.app) hp29 hf29 (app_hb hb29)
      refine ⟨_, _, _, hs29, cput_rw (by simp) hp29.cell, eqBk_rfl, ?_⟩
      refine ⟨((i0 + 1 : Nat) : Int), w64_id _ (by omega) (by omega), ?_⟩   -- 32 .bin
      refine ⟨by omega, (), ?_, ⟨rfl, rfl, rfl, rfl, trivial⟩⟩
      refine ⟨?_, ?_⟩
      · have e : L.take (i0 + 1) = L.take i0 ++ [L.getD i0 z0] := by rw [List.take_add_one]; simp [show i0 < L.length by omega]
        rw [e]; exact hS29
      · exact Upto.ext hE0 (hF29.upto fun k hk => hge k (by simp only [List.mem_cons] at hk; rcases hk with h | h <;> simp [OwnT, h])) (Nat.le_refl _)
  · replace h16 := of_decide_eq_false h16
    have e0 : L.length = i0 := by omega
    subst e0
    refine ⟨_, i_system_solve_ok B E.2.2.2 (p := p) (n0 := 0) (m0 := H.length) (m := 8) (R := L) (T0 := []) (by omega) (by omega) (by omega) (by rw [List.take_length] at hS0; exact hS0) (by omega) hE0.len, ?_⟩   -- 34 .call 287
    rintro _ G34 ⟨rfl, hS34, hU34⟩
    have hred := sol_red hp hv
    rw [hred] at hS34
    obtain ⟨ra, As, pa, hs, hra, hR, hpa, hnd, hge⟩ := hS34
    have hAl := hR.1
    have hE34 := Upto.ext hE0 hU34 (Nat.le_refl _)
    have hrl := (redL_rr hp hv).1.len
    refine ⟨_, rfl, ?_⟩
    refine ⟨_, _, app_old hs, rfl, ?_⟩
    refine ⟨_, (hra).len, ?_⟩   -- 40 .len ['.t', 39]
    refine ⟨At, (fun a39 a40 (i1 : Nat) (x1 : At) => [(8, .one x1), (39, a39), (40, a40), (41, .one (.i .i64 ((i1 : Nat) : Int)))]) _ _ , fun (i1 : Nat) (x1 : At) (G1 : List Blk) => (VW G34.length G1 x1 ((redL p L).take i1) ∧ Upto G34.length G34 G1), As.length, ⟨_, ⟨VW.nil (Nat.le_refl _), Ext.app.upto⟩, ⟨rfl, rfl, rfl, rfl, trivial⟩⟩, ?_⟩
    rintro i1 x1 G1 hi1 ⟨hW1, hU1⟩
    have hE1 : Ext G34 G1 := fun k B e => hU1 k B (lt_of e) e
    refine ⟨fun h42 => ?_, fun h42 => ?_⟩
    · replace h42 := of_decide_eq_true h42
      obtain ⟨k43, o43, n43, c43, q43, ea43, hl43, hq43, r43, l43, hk43, hi43⟩ := rdR_at ((hra.fr (l := []) hE1.fr (by simp)).rd) i1 (by omega)   -- 43 .ids ['.t', 39]
      refine ⟨k43, o43, n43, c43, i1, q43, ea43, rfl, hl43, hq43, ?_⟩
      obtain ⟨kr, cr, Nr, fr, ea, hkr, hNr, hfr⟩ := (hR.fr (l := []) hE1.fr (by simp)).at i1 (by omega)
      rw [ea] at hi43
      refine ⟨_, _, hk43, hi43, ?_⟩   -- 44 .ld1 ['.t', 43]
      refine ⟨0, 8, rfl, rfl, ⟨by omega, by omega⟩, ?_⟩
      refine ⟨by omega, ?_⟩   -- 48 .sap ['.t', 47]
      have ho : (if cr = 0 then 0 else 0 + 0 * 1) = 0 := by split <;> rfl
      have hg49 : ∀ x, x < 8 → (redL p L).getD i1 z0 x = fr ((if cr = 0 then 0 else 0 + 0 * 1) + x) := by
        intro x hx
        rw [ho, Nat.zero_add]; exact (hfr x (by omega)).symm
      have hb49 : (if cr = 0 then 0 else 0 + 0 * 1) + 8 ≤ Nr := by rw [ho]; omega
      refine ⟨_, _, _, _, (redL p L).getD i1 z0, hkr, ⟨Nat.zero_le _, hb49⟩, hg49, ?_⟩
      refine ⟨_, rfl, ?_⟩   -- 50 .bsb
      refine ⟨_, vw_app (hW1.ext Ext.app) (VS.one (v := (redL p L).getD i1 z0)) (by simp; omega) (by have := hE1.len; simp; omega), ?_⟩   -- 51 .apb 8
      rintro a51 G51 ⟨hv51, hu51⟩
      refine ⟨((i1 + 1 : Nat) : Int), w64_id _ (by omega) (by omega), ?_⟩   -- 52 .bin
      refine ⟨by omega, _, ?_, ⟨rfl, rfl, rfl, rfl, trivial⟩⟩
      have e : (redL p L).take (i1 + 1) = (redL p L).take i1 ++ [(redL p L).getD i1 z0] := by rw [List.take_add_one]; simp [show i1 < (redL p L).length by omega]
      dsimp only; rw [e]
      exact ⟨hv51, hU1.trans ((Ext.app (G := _)).upto.trans hu51)⟩
    · replace h42 := of_decide_eq_false h42
      have e1 : As.length = i1 := by omega
      subst e1
      refine ⟨rfl, x1, rfl, ?_, ?_⟩
      · exact hE34.trans hE1
      · have := hW1.mono hE34.len
        rw [hAl, List.take_length] at this
        exact this

end Hf
namespace Hf
open Go Classical
variable {P : Program} {ρ : Nat → FuncId}
/-- an equation as a row -/
def eqR (m : Nat) (p : Int) (L : List Int) (z : Int) : By := fun x => if x = m then byt (z % p) else if x < L.length then byt (L.getD x 0 % p) else 0
theorem i_system_add_ok (B : Bs P ρ) (E : F_i_system_add P ρ) {m0 : Nat} {H : List Blk} {s m : Nat} {p n0 z : Int} {R : List By} {T L : List Int} {a : At} (hp : 1 ≤ p) (hp2 : p ≤ 256) (hm : m ≤ 100000) (hS : SY m0 H s p n0 m R T) (hA : VI H a L) (hL : L.length ≤ m) (hlt : a.lt H.length = true) (hlen : R.length ≤ 100000) (hm0 : m0 ≤ H.length) :
    CallR P ρ 286 [.pt s 0, a, .i .i64 z] H (fun u G => SY m0 G s p n0 m (R ++ [eqR m p L z]) T ∧ Upto m0 H G) := by
  obtain ⟨ra, As, pa, hs, hra, hR, hpa, hnd, hge⟩ := hS
  refine call_of_q B.fn B.mo E.1 rfl (fun hAr hHp => ?_) (by simp only [List.all_cons, List.all_nil, hlt]; simp [At.lt, lt_of hs])
  refine ⟨_, _, hs, rfl, ?_⟩
  refine ⟨((m + 1 : Nat) : Int), w64_id _ (by omega) (by omega), ?_⟩
  refine ⟨m + 1, _, ⟨rfl, by omega, by omega⟩, rfl, ?_⟩
  refine ⟨_, (hA).len, ?_⟩   -- 16 .len ['.t', 15]
  refine ⟨Unit, (fun a0 a2 a6 a15 a16 (i0 : Nat) (x0 : Unit) => [(0, a0), (2, a2), (6, a6), (15, a15), (16, a16), (17, .one (.i .i64 ((i0 : Nat) : Int)))]) _ _ _ _ _ , fun (i0 : Nat) (x0 : Unit) (G0 : List Blk) => (∃ w, G0 = H ++ [⟨false, .by [] ((m + 1) * 1) w⟩] ∧ ∀ x, x < m + 1 → w x = if x < i0 then byt (L.getD x 0 % p) else 0), L.length, ⟨(), ⟨_, rfl, fun x hx => by simp⟩, ⟨rfl, rfl, rfl, rfl, rfl, rfl, trivial⟩⟩, ?_⟩
  rintro i0 _ G0 hi0 ⟨w, rfl, hw⟩
  refine ⟨fun h18 => ?_, fun h18 => ?_⟩
  · replace h18 := of_decide_eq_true h18
    obtain ⟨k20, o20, n20, c20, q20, ea20, hl20, hq20, r20, l20, hk20, hi20⟩ := VI.at (hA.ext Ext.app) i0 (by omega)   -- 20 .ids ['.t', 15]
    refine ⟨k20, o20, n20, c20, i0, q20, ea20, rfl, hl20, hq20, ?_⟩
    refine ⟨_, _, hk20, hi20, ?_⟩   -- 21 .ld1 ['.t', 20]
    refine .inr ⟨_, _, [_, _], app_old hs, ⟨rfl, rfl⟩, ?_⟩   -- 27 .lda ['.t', 26]
    refine ⟨_, i_field_mod_ok B E.2 hp (by omega), rfl, ?_⟩   -- 29 .calp 74
    refine ⟨_, _, _, _, i0, i0, rfl, rfl, by omega, by omega, ?_⟩
    refine ⟨_, _, _, get_new, cput_u (by simp) (by omega), eqBk_rfl, ?_⟩
    refine ⟨((i0 + 1 : Nat) : Int), w64_id _ (by omega) (by omega), ?_⟩   -- 31 .bin
    refine ⟨by omega, (), ?_, ⟨rfl, rfl, rfl, rfl, rfl, rfl, trivial⟩⟩
    refine ⟨_, app_set0, fun x hx => ?_⟩
    by_cases e : x = i0
    · subst e
      rw [upd_same, if_pos (Nat.lt_succ_self _)]
    · rw [upd_ne _ _ _ _ e, hw x hx]
      by_cases h : x < i0
      · rw [if_pos h, if_pos (by omega)]
      · rw [if_neg h, if_neg (by omega)]
  · replace h18 := of_decide_eq_false h18
    have e0 : L.length = i0 := by omega
    subst e0
    refine ⟨_, _, app_old hs, rfl, ?_⟩
    refine .inr ⟨_, _, [_, _], app_old hs, ⟨rfl, rfl⟩, ?_⟩   -- 40 .lda ['.t', 39]
    refine ⟨_, i_field_mod_ok B E.2 hp (by omega), rfl, ?_⟩   -- 42 .calp 74
    refine ⟨_, _, _, _, m, m, rfl, rfl, by omega, by omega, ?_⟩
    refine ⟨_, _, _, get_new, cput_u (by simp) (by omega), eqBk_rfl, ?_⟩
    rw [app_set0]
    have hx : RowC H.length (H ++ [⟨false, .by [] ((m + 1) * 1) (upd w m (byt (z % p)))⟩]) (m + 1) (.sl H.length 0 (m + 1) (m + 1)) (eqR m p L z) := by
      refine ⟨H.length, m + 1, _, _, rfl, get_new, by omega, fun x hx => ?_⟩
      unfold eqR
      by_cases e : x = m
      · rw [e, upd_same, if_pos rfl]
      · rw [upd_ne _ _ _ _ e, hw x hx, if_neg e]
    refine ⟨_, _, app_old hs, rfl, ?_⟩
    refine ⟨_, rfl, ?_⟩
    refine ⟨_, spn_app (x := .sl H.length 0 (m + 1) (m + 1)) (hra.fr (l := []) (Ext.app.trans Ext.app).fr (by simp)) ⟨false, _, get_new, by simp, rfl⟩ (by have := hR.1; omega) (by omega), ?_⟩   -- 51 .apr .sn
    rintro a51 G51 ⟨hp51, hf51, hb51, hl51⟩
    obtain ⟨hs51, hS51, hF51⟩ := sy_add hs hra hR hpa hnd hge hm0 (Ext.app.trans Ext.app) (hx.ext Ext.app) hp51 hf51 (app_hb hb51)
    refine ⟨_, _, _, hs51, cput_rw (by simp) hp51.cell, eqBk_rfl, ?_⟩
    exact ⟨rfl, hS51, hF51.upto fun k hk => hge k (by simp only [List.mem_cons] at hk; rcases hk with h | h <;> simp [OwnT, h])⟩

/-- a free place's solution -/
def nulV (p : Int) (R : List By) (x : Nat) : By := R.foldl (fun v r => upd v (fst8 r) (byt ((-(bz r x)) % p))) (bas x)
def nulP (R : List By) (x : Nat) : Bool := R.any fun r => fst8 r == x
def nulL (p : Int) (n : Nat) (R : List By) : List By := ((List.range n).filter fun x => !nulP R x).map (nulV p R)
theorem nulL_succ {p : Int} {n : Nat} {R : List By} : nulL p (n + 1) R = if nulP R n = true then nulL p n R else nulL p n R ++ [nulV p R n] := by
  unfold nulL
  rw [List.range_succ, List.filter_append, List.map_append]
  by_cases h : nulP R n = true
  · rw [if_pos h]; simp [h]
  · rw [if_neg h]; simp [h]
theorem nulL_len {p : Int} {R : List By} : ∀ {n : Nat}, (nulL p n R).length ≤ n
  | 0 => by simp [nulL]
  | n + 1 => by
    have := @nulL_len p R n
    rw [nulL_succ]
    split
    · omega
    · simp only [List.length_append, List.length_singleton]; omega
theorem nulV_take {p : Int} {R : List By} {x i : Nat} (h : i < R.length) : (R.take (i + 1)).foldl (fun v r => upd v (fst8 r) (byt ((-(bz r x)) % p))) (bas x) = upd ((R.take i).foldl (fun v r => upd v (fst8 r) (byt ((-(bz r x)) % p))) (bas x)) (fst8 (R.getD i z0)) (byt ((-(bz (R.getD i z0) x)) % p)) := by
  rw [List.take_add_one, List.foldl_append]
  simp [h]
theorem nulV_vp {p : Int} (hp : 2 ≤ p) (hp2 : p ≤ 256) {x : Nat} (hx : x < 8) : ∀ {R : List By} {v : By}, Vp 8 p v → (∀ r ∈ R, fst8 r < 8) → Vp 8 p (R.foldl (fun v r => upd v (fst8 r) (byt ((-(bz r x)) % p))) v)
  | [], v, hv, _ => hv
  | r :: R, v, hv, h => by
    rw [List.foldl_cons]
    refine nulV_vp hp hp2 hx ⟨fun y => ?_, fun y hy => ?_⟩ fun q hq => h q (by simp [hq])
    · by_cases e : y = fst8 r
      · rw [show bz (upd v (fst8 r) (byt ((-(bz r x)) % p))) y = (((byt ((-(bz r x)) % p)).toNat : Nat) : Int) by unfold bz; rw [e, upd_same]]
        have h1 := Int.emod_nonneg (-(bz r x)) (show p ≠ 0 by omega)
        have h2 := Int.emod_lt_of_pos (-(bz r x)) (show 0 < p by omega)
        rw [bz_byt _ (by omega) (by omega)]; exact h2
      · rw [show bz (upd v (fst8 r) (byt ((-(bz r x)) % p))) y = bz v y by unfold bz; rw [upd_ne _ _ _ _ e]]; exact hv.1 y
    · rw [upd_ne _ _ _ _ (by have := h r (by simp); omega)]; exact hv.2 y hy
theorem nulL_vp {p : Int} (hp : 2 ≤ p) (hp2 : p ≤ 256) {n : Nat} (hn : n ≤ 8) {R : List By} (h : ∀ r ∈ R, fst8 r < 8) : ∀ v ∈ nulL p n R, Vp 8 p v := by
  intro v hv
  unfold nulL at hv
  obtain ⟨x, hx, rfl⟩ := List.mem_map.1 hv
  have hx := List.mem_range.1 (List.mem_filter.1 hx).1
  refine nulV_vp hp hp2 (by omega) ⟨fun y => ?_, fun y hy => ?_⟩ h
  · unfold bz bas; split <;> simp <;> omega
  · unfold bas; rw [if_neg (by omega)]
theorem nulP_T {R : List By} {C : List Nat} {T : List Int} (hT : T = C.map (fun c : Nat => (c : Int))) (hC : C.length = R.length) (hf : ∀ a, a < C.length → fst8 (R.getD a z0) = C.getD a 0) (x : Nat) :
    decide (firstQ (fun j => ((x : Nat) : Int) == T.getD j 0) T.length 0 ≥ 0) = nulP R x := by
  have hTa : ∀ a, a < C.length → T.getD a 0 = ((C.getD a 0 : Nat) : Int) := by
    intro a ha
    rw [hT, List.getD_eq_getElem?_getD, List.getElem?_map, List.getElem?_eq_getElem ha, List.getD_eq_getElem?_getD, List.getElem?_eq_getElem ha]; rfl
  have hl : T.length = C.length := by rw [hT]; simp
  rw [hl]
  rcases @firstQ_or (fun j => ((x : Nat) : Int) == T.getD j 0) C.length with ⟨e, h⟩ | ⟨k, hk, e, h, -⟩
  · rw [e]
    symm
    rw [show decide ((-1 : Int) ≥ 0) = false from rfl]
    unfold nulP
    rw [List.any_eq_false]
    intro r hr hq
    obtain ⟨a, ha, rfl⟩ := List.mem_iff_getElem.1 hr
    have h1 := h a (by omega)
    have h2 := hf a (by omega)
    rw [List.getD_eq_getElem?_getD, List.getElem?_eq_getElem ha] at h2
    simp only [Option.getD_some] at h2
    rw [hTa a (by omega), ← h2] at h1
    simp at h1 hq
    omega
  · rw [e]
    symm
    rw [show decide ((k : Int) ≥ 0) = true from decide_eq_true (by omega)]
    unfold nulP
    rw [List.any_eq_true]
    refine ⟨R.getD k z0, getD_mem (by omega), ?_⟩
    rw [hf k hk]
    rw [hTa k hk] at h
    simp at h ⊢
    omega
theorem i_system_spaces_ok (B : Bs P ρ) (E : F_i_system_spaces P ρ) {m0 : Nat} {H : List Blk} {s m : Nat} {p n0 : Int} {R : List By} {T : List Int} {C : List Nat} (hp : Pr p) (hm : m ≤ 8) (hS : SY m0 H s p n0 m R T) (hT : T = C.map (fun c : Nat => (c : Int))) (hC : C.length = R.length) (hf : ∀ a, a < C.length → fst8 (R.getD a z0) = C.getD a 0) (hc8 : ∀ a, a < C.length → C.getD a 0 < 8) (hlen : R.length ≤ 100000) :
    CallR P ρ 288 [.pt s 0] H (fun u G => ∃ b, u = .one b ∧ Ext H G ∧ VW H.length G b (redL p (nulL p m R))) := by
  obtain ⟨ra, As, pa, hs, hra, hR, hpa, hnd, hge⟩ := hS
  have hp2 := hp.1
  have hp3 := hp.2.1
  have hAl := hR.1
  have hTl : T.length = C.length := by rw [hT]; simp
  have hTa : ∀ a, a < C.length → T.getD a 0 = ((C.getD a 0 : Nat) : Int) := by
    intro a ha
    rw [hT, List.getD_eq_getElem?_getD, List.getElem?_map, List.getElem?_eq_getElem ha, List.getD_eq_getElem?_getD, List.getElem?_eq_getElem ha]; rfl
  have hf8 : ∀ r ∈ R, fst8 r < 8 := by
    intro r hr
    obtain ⟨a, ha, rfl⟩ := List.mem_iff_getElem.1 hr
    have h2 := hf a (by omega)
    rw [List.getD_eq_getElem?_getD, List.getElem?_eq_getElem ha] at h2
    simp only [Option.getD_some] at h2
    rw [h2]; exact hc8 a (by omega)
  refine call_of_q B.fn B.mo E.1 rfl (fun hAr hHp => ?_) (by simp [At.lt, lt_of hs])
  refine ⟨_, rfl, ?_⟩
  refine ⟨_, _, app_old hs, rfl, ?_⟩
  refine ⟨At, (fun a0 a12 (i0 : Nat) (x0 : At) => [(0, a0), (3, .one x0), (12, a12), (13, .one (.i .i64 ((i0 : Nat) : Int)))]) _ _ , fun (i0 : Nat) (x0 : At) (G0 : List Blk) => (VW H.length G0 x0 (nulL p i0 R) ∧ Ext H G0), m, ⟨_, ⟨VW.nil (Nat.le_refl _), Ext.app⟩, ⟨rfl, rfl, rfl, rfl, trivial⟩⟩, ?_⟩
  rintro i0 x0 G0 hi0 ⟨hV0, hE0⟩
  have hs0 := hE0 _ _ hs
  refine ⟨fun h14 => ?_, fun h14 => ?_⟩
  · replace h14 := of_decide_eq_true h14
    refine ⟨_, _, hs0, rfl, ?_⟩
    refine ⟨_, x_Contains_I_ok B E.2.1 (L := T) (hpa.fr (l := []) hE0.fr (by simp)).rd (hpa.fr (l := []) hE0.fr (by simp)).lt.1 (by omega), ?_⟩   -- 21 .call 278
    rintro _ G0 ⟨rfl, rfl⟩
    rw [nulP_T hT hC hf i0]
    refine ⟨fun h21 => ?_, fun h21 => ?_⟩
    · skip
      have hsc := @nulL_succ p i0 R
      rw [if_pos h21] at hsc
      refine ⟨((i0 + 1 : Nat) : Int), w64_id _ (by omega) (by omega), ?_⟩   -- 58 .bin
      exact ⟨by omega, _, ⟨by rw [hsc]; exact hV0, hE0⟩, ⟨rfl, rfl, rfl, rfl, trivial⟩⟩
    · skip
      have hsc := @nulL_succ p i0 R
      rw [if_neg (by rw [h21]; simp)] at hsc
      refine ⟨_, i_basis_ok B E.2.2.1 (by omega), rfl, ?_⟩   -- 23 .calp 61
      refine ⟨_, rfl, ?_⟩
      refine ⟨_, _, _, get_new, cputs_by (by simp) (by omega), eqBk_rfl, ?_⟩
      rw [app_set0]
      refine ⟨_, _, app_old hs0, rfl, ?_⟩
      refine ⟨_, (hpa).len, ?_⟩   -- 28 .len ['.t', 27]
      refine ⟨Unit, (fun a0 a3 a4 a5 a12 a13 a27 a28 (i1 : Nat) (x1 : Unit) => [(0, a0), (3, a3), (4, a4), (5, a5), (12, a12), (13, a13), (27, a27), (28, a28), (29, .one (.i .i64 ((i1 : Nat) : Int)))]) _ _ _ _ _ _ _ _ , fun (i1 : Nat) (x1 : Unit) (G1 : List Blk) => (∃ w, G1 = G0 ++ [⟨false, .by [] 8 w⟩] ∧ ∀ y, y < 8 → w y = ((R.take i1).foldl (fun v r => upd v (fst8 r) (byt ((-(bz r i0)) % p))) (bas i0)) y), (T.map (At.i .i64)).length, ⟨(), ⟨_, rfl, fun y hy => by simp [spl, hy]⟩, ⟨rfl, rfl, rfl, rfl, rfl, rfl, rfl, rfl, rfl, trivial⟩⟩, ?_⟩
      rintro i1 _ G1 hi1 ⟨w, rfl, hw⟩
      have hTm : (T.map (At.i .i64)).length = T.length := by simp
      refine ⟨fun h30 => ?_, fun h30 => ?_⟩
      · replace h30 := of_decide_eq_true h30
        obtain ⟨k32, o32, n32, c32, q32, ea32, hl32, hq32, r32, l32, hk32, hi32⟩ := VI.at ((hpa.fr (l := []) (hE0.trans Ext.app).fr (by simp)).rd) i1 (by omega)   -- 32 .ids ['.t', 27]
        refine ⟨k32, o32, n32, c32, i1, q32, ea32, rfl, hl32, hq32, ?_⟩
        refine ⟨_, _, hk32, hi32, ?_⟩   -- 33 .ld1 ['.t', 32]
        refine .inr ⟨_, _, [_, _], app_old hs0, ⟨rfl, rfl⟩, ?_⟩   -- 38 .lda ['.t', 37]
        refine ⟨_, _, app_old hs0, rfl, ?_⟩
        obtain ⟨k44, o44, n44, c44, q44, ea44, hl44, hq44, r44, l44, hk44, hi44⟩ := rdR_at ((hra.fr (l := []) (hE0.trans Ext.app).fr (by simp)).rd) i1 (by omega)   -- 44 .ids ['.t', 42]
        refine ⟨k44, o44, n44, c44, i1, q44, ea44, rfl, hl44, hq44, ?_⟩
        refine ⟨_, _, hk44, hi44, ?_⟩   -- 45 .ld1 ['.t', 44]
        have hrow : RowB (G0 ++ [⟨false, .by [] 8 w⟩]) (m + 1) (As.getD i1 .sn) (R.getD i1 z0) := ((hR.fr (l := []) (hE0.trans Ext.app).fr (by simp))).at i1 (by omega)
        obtain ⟨k47, o47, n47, c47, q47, ea47, hl47, hq47, r47, l47, hk47, hi47⟩ := RowB.at (hrow) i0 (by omega)   -- 47 .ids ['.t', 45]
        refine ⟨k47, o47, n47, c47, i0, q47, ea47, rfl, hl47, hq47, ?_⟩
        refine ⟨_, _, hk47, hi47, ?_⟩   -- 48 .ld1 ['.t', 47]
        have hxb := toNat_le (R.getD i1 z0 i0)
        refine ⟨_, w64_id _ (by omega) (by omega), ?_⟩   -- 50 .ng
        refine ⟨_, i_field_mod_ok B E.2.2.2.1 (by omega) (by omega), rfl, ?_⟩   -- 51 .calp 74
        refine ⟨C.getD i1 0, _, hTa i1 (by omega), hc8 i1 (by omega), rfl, ?_⟩
        refine ⟨_, _, _, get_new, cput_u (by simp) (by have := hc8 i1 (by omega); omega), eqBk_rfl, ?_⟩
        refine ⟨((i1 + 1 : Nat) : Int), w64_id _ (by omega) (by omega), ?_⟩   -- 53 .bin
        refine ⟨by omega, (), ?_, ⟨rfl, rfl, rfl, rfl, rfl, rfl, rfl, rfl, rfl, trivial⟩⟩
        refine ⟨_, app_set0, fun y hy => ?_⟩
        rw [nulV_take (by omega), hf i1 (by omega), show 0 + C.getD i1 0 * 1 = C.getD i1 0 by omega]
        by_cases e : y = C.getD i1 0
        · subst e
          rw [upd_same, upd_same]; rfl
        · rw [upd_ne _ _ _ _ e, upd_ne _ _ _ _ e, hw y hy]
      · replace h30 := of_decide_eq_false h30
        have e1 : (T.map (At.i .i64)).length = i1 := by omega
        subst e1
        refine ⟨_, _, _, _, nulV p R i0, get_new, ⟨by simp, by omega⟩, fun x hx => ?_, ?_⟩
        · rw [Nat.zero_add, hw x hx, hTm, hTl, hC, List.take_length]; rfl
        refine ⟨_, rfl, ?_⟩   -- 56 .bsb
        refine ⟨_, vw_app ((hV0.ext Ext.app).ext Ext.app) VS.one (by have := @nulL_len p R i0; simp; omega) (by have := hE0.len; simp; omega), ?_⟩   -- 57 .apb 8
        rintro a57 G57 ⟨hv57, hu57⟩
        refine ⟨((i0 + 1 : Nat) : Int), w64_id _ (by omega) (by omega), ?_⟩   -- 58 .bin
        refine ⟨by omega, _, ?_, ⟨rfl, rfl, rfl, rfl, trivial⟩⟩
        dsimp only
        rw [hsc]
        exact ⟨hv57, Upto.ext (hE0.trans (Ext.app.trans Ext.app)) hu57 (Nat.le_refl _)⟩
  · replace h14 := of_decide_eq_false h14
    have e0 : m = i0 := by omega
    subst e0
    refine ⟨_, _, hs0, rfl, ?_⟩
    refine ⟨_, i_reduced_ok B E.2.2.2.2 hp hV0.vs (nulL_vp (by omega) (by omega) hm hf8) (by have := @nulL_len p R m; omega), ?_⟩   -- 65 .call 267
    rintro _ G65 ⟨b65, rfl, hE65, hV65⟩
    exact ⟨rfl, b65, rfl, hE0.trans hE65, hV65.mono hE0.len⟩

end Hf
namespace Hf
open Go Classical
section
variable {W W' n : Nat} {p : Int}
theorem RR.up (hW : W ≤ W') {L : List By} (h : RR W p L) : RR W' p L := by
  have hf : ∀ v ∈ L, fstW W' v = fstW W v := fun v hv => fstW_w hW (h.vp v hv).2 (h.nz hv)
  refine ⟨fun v hv => (h.vp v hv).mono hW, fun r hr => ?_, ?_⟩
  · have := h.ld r hr
    rw [hf r hr]
    exact ⟨by omega, this.2⟩
  · refine List.Pairwise.imp_of_mem ?_ h.st
    intro a b ha hb hab
    rw [hf a ha, hf b hb]
    exact hab
theorem SpE.up (hp : 1 ≤ p) (hp2 : p ≤ 256) (hW : W ≤ W') {A B : List By} (hA : ∀ v ∈ A, Vp W p v) (hB : ∀ v ∈ B, Vp W p v) (h : SpE W p A B) : SpE W' p A B :=
  fun v => ⟨fun q => ((h v).1 (q.w1 hp hp2 hW hA)).w2 hp hp2 hW hB, fun q => ((h v).2 (q.w1 hp hp2 hW hB)).w2 hp hp2 hW hA⟩
theorem sol_redn (hp : Pr p) (hn : n ≤ 8) {L : List By} (hL : ∀ v ∈ L, Vp n p v) : ∃ C : List Nat, (solT (n + 1) p L n).2 = C.map (fun c : Nat => (c : Int)) ∧ (solT (n + 1) p L n).1.take (solT (n + 1) p L n).2.length = redL p L ∧ C.length = (redL p L).length ∧
    (∀ a, a < C.length → fst8 ((redL p L).getD a z0) = C.getD a 0) ∧ ∀ a, a < C.length → C.getD a 0 < n := by
  have h2 := hp.1
  have h3 := hp.2.1
  obtain ⟨C, hC, hs, -, -, h4, h5, h6⟩ := sol_rr (m := n) hp hL
  have hL8 : ∀ v ∈ L, Vp 8 p v := fun v hv => (hL v hv).mono hn
  obtain ⟨r1, r2⟩ := redL_rr hp hL8
  have hl : (solT (n + 1) p L n).2.length = C.length := by
    have := congrArg List.length hC
    simpa using this
  have e := (h4.up hn).unique (by omega) (by omega) r1 ((h5.up (by omega) (by omega) hn h4.vp hL).trans r2.symm)
  have hcl := hs.cl
  refine ⟨C, hC, by rw [hl]; exact e, by rw [← e]; simp; omega, fun a ha => ?_, hs.ci⟩
  have hm : (solT (n + 1) p L n).1.getD a z0 ∈ (solT (n + 1) p L n).1.take C.length := by
    rw [List.mem_take_iff_getElem]
    exact ⟨a, by omega, by simp [List.getD_eq_getElem?_getD, show a < (solT (n + 1) p L n).1.length by omega]⟩
  have e2 : (redL p L).getD a z0 = (solT (n + 1) p L n).1.getD a z0 := by
    rw [← e]; simp [List.getD_eq_getElem?_getD, List.getElem?_take_of_lt ha]
  rw [e2, fst8_W, fstW_w hn (h4.vp _ hm).2 (h4.nz hm)]
  exact h6 a ha
/-- the solutions of n unknowns' equations -/
def kerL (p : Int) (n : Nat) (E : List By) : List By := redL p (nulL p n (redL p E))
theorem kerL_rr (hp : Pr p) (hn : n ≤ 8) {E : List By} (hE : ∀ v ∈ E, Vp 8 p v) : RR 8 p (kerL p n E) :=
  (redL_rr hp (nulL_vp (by have := hp.1; omega) (by have := hp.2.1; omega) hn (redL_rr hp hE).1.fs)).1
end
theorem SY.ext {m0 : Nat} {H G : List Blk} {s m : Nat} {p n0 : Int} {R : List By} {T : List Int} (h : SY m0 H s p n0 m R T) (e : Ext H G) : SY m0 G s p n0 m R T := by
  obtain ⟨ra, As, pa, hs, hra, hR, hpa, hnd, hge⟩ := h
  exact ⟨ra, As, pa, e _ _ hs, hra.fr (l := []) e.fr (by simp), hR.fr (l := []) e.fr (by simp), hpa.fr (l := []) e.fr (by simp), hnd, hge⟩
theorem eqR_vec {m : Nat} {p : Int} {X : Nat → Int} : eqR m p ((List.range m).map X) 0 = vec m p X := by
  funext x
  unfold eqR vec
  by_cases h : x < m
  · rw [if_neg (by omega), if_pos (by simpa using h), if_pos h]
    simp [List.getD_eq_getElem?_getD, h]
  · rw [if_neg h]
    split
    · rw [Int.zero_emod]; rfl
    · rw [if_neg (by simp; omega)]
end Hf
namespace Hf
open Go Classical
variable {P : Program} {ρ : Nat → FuncId}
def eqnL (p : Int) (n m : Nat) (co : Nat → Nat → Int) : List By := (List.range m).map fun i => vec n p (co i)
theorem eqnL_succ {p : Int} {n m : Nat} {co : Nat → Nat → Int} : eqnL p n (m + 1) co = eqnL p n m co ++ [vec n p (co m)] := by unfold eqnL; rw [List.range_succ, List.map_append]; rfl
theorem eqnL_vp {p : Int} {n m : Nat} {co : Nat → Nat → Int} (hp : 1 ≤ p) (hp2 : p ≤ 256) : ∀ v ∈ eqnL p n m co, Vp n p v := by
  intro v hv
  obtain ⟨i, -, rfl⟩ := List.mem_map.1 hv
  exact ⟨fun x => bz_vec_lt hp hp2, fun x hx => vec_out hx⟩
theorem i_kernel_ok (B : Bs P ρ) (E : F_i_kernel P ρ) {H : List Blk} {p : Int} {n m g : Nat} {caps : List (Nat × Nat)} {co : Nat → Nat → Int} {q : By} (hp : Pr p) (hn : n ≤ 8) (hm : m ≤ 100000) (hcaps : (At.fn g [] caps).lt H.length = true) (hco : ∀ G i j, Ext H G → i < m → j < n → CallR P ρ g ([.i .i64 (i : Int), .i .i64 (j : Int)] ++ caps.map (fun p => .pt p.1 p.2)) G fun u G' => u = .one (.i .i64 (co i j)) ∧ G' = G) :
    CallR P ρ 265 [.ag [p, (n : Int)] 2 q, .i .i64 (m : Int), .fn g [] caps] H (fun u G => ∃ b, u = .one b ∧ Ext H G ∧ VW H.length G b (kerL p n (eqnL p n m co))) := by
  have hp2 := hp.1
  have hp3 := hp.2.1
  refine call_of_q B.fn B.mo E.1 rfl (fun hAr hHp => ?_) (by simp only [List.all_cons, List.all_nil, hcaps]; rfl)
  refine ⟨_, rfl, ?_⟩
  refine ⟨_, _, get_new, rfl, ?_⟩
  refine ⟨_, _, get_new, rfl, ?_⟩
  refine ⟨_, i_newSystem_ok B E.2.1 , ?_⟩   -- 15 .call 271
  rintro _ _ ⟨rfl, rfl⟩
  have hl1 : (H ++ [(⟨false, .by [p, (n : Int)] 2 q⟩ : Blk)]).length = H.length + 1 := by simp
  rw [hl1]
  refine ⟨Unit, (fun a2 a3 a16 (i0 : Nat) (x0 : Unit) => [(2, a2), (3, a3), (7, .one (.pt (H.length + 1) 0)), (16, a16), (17, .one (.i .i64 ((i0 : Nat) : Int)))]) _ _ _ , fun (i0 : Nat) (x0 : Unit) (G0 : List Blk) => (SY (H.length + 1) G0 (H.length + 1) p 0 n (eqnL p n i0 co) [] ∧ Upto (H.length + 1) (H ++ [⟨false, .by [p, (n : Int)] 2 q⟩]) G0), m, ⟨(), ?_, ⟨rfl, rfl, rfl, rfl, rfl, trivial⟩⟩, ?_⟩
  · refine ⟨⟨.sn, [], .sn, (by rw [← hl1]; exact get_new), .inl ⟨rfl, rfl⟩, ⟨rfl, fun i h => by simp at h⟩, .inl ⟨rfl, rfl⟩, by simp [OwnT, spB], by simp [OwnT, spB]⟩, Ext.app.upto⟩
  rintro i0 _ G0 hi0 ⟨hS0, hU0⟩
  have hb0 := hU0 H.length _ (by omega) get_new
  have hE0 : Ext H G0 := Upto.ext Ext.app hU0 (by omega)
  have hsl := hS0.len
  refine ⟨fun h18 => ?_, fun h18 => ?_⟩
  · replace h18 := of_decide_eq_true h18
    refine ⟨_, _, hb0, rfl, ?_⟩
    refine ⟨n, _, ⟨rfl, by omega, by omega⟩, rfl, ?_⟩
    refine ⟨n, rfl, ?_⟩
    refine ⟨Unit, (fun a2 a3 a7 a8 a9 a16 a17 a24 (i1 : Nat) (x1 : Unit) => [(2, a2), (3, a3), (7, a7), (8, a8), (9, a9), (16, a16), (17, a17), (24, a24), (25, .one (.i .i64 ((i1 : Nat) : Int)))]) _ _ _ _ _ _ _ _ , fun (i1 : Nat) (x1 : Unit) (G1 : List Blk) => (∃ l, G1 = G0 ++ [⟨false, .rw l⟩] ∧ l.length = n ∧ ∀ j, j < i1 → l[j]? = some (.i .i64 (co i0 j))), n, ⟨(), ⟨_, rfl, by simp, fun j hj => by omega⟩, ⟨rfl, rfl, rfl, rfl, rfl, rfl, rfl, rfl, rfl, trivial⟩⟩, ?_⟩
    rintro i1 _ G1 hi1 ⟨l, rfl, hl, hj⟩
    refine ⟨fun h26 => ?_, fun h26 => ?_⟩
    · replace h26 := of_decide_eq_true h26
      refine ⟨_, hco _ i0 i1 (hE0.trans Ext.app) (by omega) (by omega), ?_⟩
      rintro _ _ ⟨rfl, rfl⟩
      refine ⟨_, _, _, _, i1, i1, rfl, rfl, by omega, by omega, ?_⟩
      refine ⟨_, _, _, get_new, cput_rw (by omega) rfl, eqBk_rfl, ?_⟩
      refine ⟨((i1 + 1 : Nat) : Int), w64_id _ (by omega) (by omega), ?_⟩   -- 35 .bin
      refine ⟨by omega, (), ?_, ⟨rfl, rfl, rfl, rfl, rfl, rfl, rfl, rfl, rfl, trivial⟩⟩
      refine ⟨_, app_set0, by simpa using hl, fun j hj2 => ?_⟩
      by_cases e : j = i1
      · subst e; rw [List.getElem?_set_self (by omega)]
      · rw [List.getElem?_set_ne (Ne.symm e)]; exact hj j (by omega)
    · replace h26 := of_decide_eq_false h26
      have e1 : n = i1 := by omega
      subst e1
      have hVI : VI (G0 ++ [⟨false, .rw l⟩]) (.sl G0.length 0 n n) ((List.range n).map (co i0)) := by
        refine ⟨false, l, get_new, by omega, ?_⟩
        apply List.ext_getElem?
        intro j
        by_cases h : j < n
        · rw [List.getElem?_take_of_lt h, List.drop_zero, hj j h]
          simp [h]
        · rw [List.getElem?_eq_none (by simp; omega), List.getElem?_eq_none (by simp; omega)]
      refine ⟨_, i_system_add_ok B E.2.2.1 (p := p) (n0 := 0) (by omega) (by omega) (by omega) (hS0.ext Ext.app) hVI (by simp) (by simp [At.lt]) (by simp [eqnL]; omega) (by simp; omega), ?_⟩   -- 38 .call 286
      rintro _ G38 ⟨hS38, hU38⟩
      refine ⟨((i0 + 1 : Nat) : Int), w64_id _ (by omega) (by omega), ?_⟩   -- 39 .bin
      refine ⟨by omega, (), ?_, ⟨rfl, rfl, rfl, rfl, rfl, trivial⟩⟩
      dsimp only
      rw [eqR_vec] at hS38
      rw [eqnL_succ]
      exact ⟨hS38, hU0.trans (Ext.app.upto.trans hU38)⟩
  · replace h18 := of_decide_eq_false h18
    have e0 : m = i0 := by omega
    subst e0
    refine ⟨_, i_system_solve_ok B E.2.2.2.1 (p := p) (n0 := 0) (by omega) (by omega) (by omega) hS0 (by simp [eqnL]; omega) (by omega), ?_⟩   -- 41 .call 287
    rintro _ G41 ⟨rfl, hS41, hU41⟩
    obtain ⟨C, h1, h2, h3, h4, h5⟩ := sol_redn (n := n) hp hn (eqnL_vp (p := p) (n := n) (m := m) (co := co) (by omega) (by omega))
    rw [h2] at hS41
    have hrl := (redL_rr hp fun v hv => (eqnL_vp (p := p) (n := n) (m := m) (co := co) (by omega) (by omega) v hv).mono hn).1.len
    refine ⟨_, i_system_spaces_ok B E.2.2.2.2 hp hn hS41 h1 h3 h4 (fun a ha => by have := h5 a ha; omega) (by omega), ?_⟩   -- 43 .call 288
    rintro _ G43 ⟨b43, rfl, hE43, hV43⟩
    have hE41 : Ext H G41 := Upto.ext Ext.app (hU0.trans hU41) (by omega)
    exact ⟨rfl, b43, rfl, hE41.trans hE43, hV43.mono hE41.len⟩

end Hf
namespace Hf
open Go Classical
variable {P : Program} {ρ : Nat → FuncId}
theorem cputs_rw {l : List At} {q : List C1} {n : Nat} (h1 : q.length = n) (h2 : l.length = n) : cputs (.rw l) 0 (.ac q) n = some (.rw (q.map C1.at)) := if_pos ⟨rfl, h1, h2⟩
/-- a slice whose block is none of the first m, or that is full -/
def VF (m : Nat) (H : List Blk) (a : At) (L : List By) : Prop :=
  ∃ k off cap N f, a = .sl k off L.length cap ∧ H[k]? = some ⟨false, .by [] N f⟩ ∧ (off + cap * 8 ≤ N ∧ L.length ≤ cap ∧ (m ≤ k ∨ L.length = cap)) ∧ ∀ i x, i < L.length → x < 8 → f (off + i * 8 + x) = (L.getD i z0) x
theorem VF.vs {m : Nat} {H : List Blk} {a : At} {L : List By} (h : VF m H a L) : VS H a L := by
  obtain ⟨k, off, cap, N, f, h1, h2, h3, h4⟩ := h
  exact .inr ⟨k, off, cap, false, N, f, h1, h2, ⟨h3.1, h3.2.1⟩, h4⟩
theorem VF.ext {m : Nat} {H H' : List Blk} {a : At} {L : List By} (h : VF m H a L) (e : Ext H H') : VF m H' a L := by
  obtain ⟨k, off, cap, N, f, h1, h2, h3, h4⟩ := h
  exact ⟨k, off, cap, N, f, h1, e k _ h2, h3, h4⟩
theorem VF.nil {m : Nat} {H : List Blk} {f : By} : VF m (H ++ [⟨false, .by [] (0 * 8) f⟩]) (.sl H.length 0 0 0) [] :=
  ⟨H.length, 0, 0, _, f, rfl, get_new, ⟨by omega, by simp, .inr rfl⟩, fun i x h => by simp at h⟩
theorem vf_app {m : Nat} {H : List Blk} {a b : At} {L : List By} {v : By} (hL : VF m H a L) (hM : VS H b [v]) (hb : L.length ≤ 1000000) (hm : m ≤ H.length) :
    apB 8 8 H a b fun a' H' => VF m H' a' (L ++ [v]) ∧ Upto m H H' := by
  obtain ⟨k, off, cap, N, f, e, hk, ⟨h1, h2, h3⟩, hf⟩ := hL
  rcases h3 with h3 | h3
  · have := vw_app (m := m) (L := L) (M := [v]) ⟨k, off, cap, N, f, e, hk, ⟨h1, h2, h3⟩, hf⟩ hM (by simp; omega) hm
    subst e
    obtain ⟨mm, g, N', f', q1, q2, q3, q4, q5⟩ := this
    refine ⟨mm, g, N', f', q1, q2, q3, fun hc => ?_, fun hc cap' hc' => ?_⟩
    · obtain ⟨⟨k, off, cap, N, f, w1, w2, w3, w4⟩, w5⟩ := q4 hc
      exact ⟨⟨k, off, cap, N, f, w1, w2, ⟨w3.1, w3.2.1, .inl w3.2.2⟩, w4⟩, w5⟩
    · obtain ⟨⟨k, off, cap, N, f, w1, w2, w3, w4⟩, w5⟩ := q5 hc cap' hc'
      exact ⟨⟨k, off, cap, N, f, w1, w2, ⟨w3.1, w3.2.1, .inl w3.2.2⟩, w4⟩, w5⟩
  · have := vw_app (m := 0) (L := L) (M := [v]) ⟨k, off, cap, N, f, e, hk, ⟨h1, h2, Nat.zero_le _⟩, hf⟩ hM (by simp; omega) (Nat.zero_le _)
    subst e
    obtain ⟨mm, g, N', f', q1, q2, q3, q4, q5⟩ := this
    have hmm : mm = 1 := by
      rcases hM with ⟨-, h⟩ | ⟨k2, off2, cap2, r2, N2, f2, rfl, -⟩
      · cases h
      · exact q1.1.symm
    refine ⟨mm, g, N', f', q1, q2, q3, fun hc => ?_, fun hc cap' hc' => ?_⟩
    · omega
    · obtain ⟨⟨k, off, cap, N, f, w1, w2, w3, w4⟩, -⟩ := q5 hc cap' hc'
      refine ⟨⟨k, off, cap, N, f, w1, w2, ⟨w3.1, w3.2.1, .inl ?_⟩, w4⟩, fun j B hj e => app_old e⟩
      have := (At.sl.inj w1).1
      omega
theorem take_getD {L : List By} {i : Nat} (h : i < L.length) : L.take (i + 1) = L.take i ++ [L.getD i z0] := by rw [List.take_add_one]; simp [h]
theorem redL_snoc {p : Int} {L : List By} {v : By} : redL p (L ++ [v]) = putL p (redL p L) v := by simp [redL, List.foldl_append]
theorem s_l01Reduce_ok (B : Bs P ρ) (E : F_s_l01Reduce P ρ) {H : List Blk} {p : Int} {a : At} {L : List By} (hp : Pr p) (hL : VS H a L) (hv : ∀ v ∈ L, Vp 8 p v) (hlen : L.length ≤ 1000000) :
    CallR P ρ 270 [.i .i64 p, a] H (fun u G => ∃ b, u = .one b ∧ Ext H G ∧ VS G b (redL p L)) := by
  have hp2 := hp.1
  have hp3 := hp.2.1
  refine call_of_q B.fn B.mo E.1 rfl (fun hAr hHp => ?_) (by simp only [List.all_cons, List.all_nil, hL.lt]; rfl)
  refine ⟨_, rfl, ?_⟩
  refine ⟨At, (fun a0 a1 (i0 : Nat) (x0 : At) => [(0, a0), (1, a1), (5, .one x0), (6, .one (.i .i64 ((i0 : Nat) : Int)))]) _ _ , fun (i0 : Nat) (x0 : At) (G0 : List Blk) => (VS G0 x0 (redL p (L.take i0)) ∧ Ext H G0), L.length, ⟨_, ⟨(VW.nil (m := 0) (Nat.zero_le _)).vs, Ext.app⟩, ⟨rfl, rfl, rfl, rfl, trivial⟩⟩, ?_⟩
  rintro i0 x0 G0 hi0 ⟨hV0, hE0⟩
  refine ⟨_, (hL).len, ?_⟩   -- 10 .len ['.t', 9]
  refine ⟨fun h11 => ?_, fun h11 => ?_⟩
  · replace h11 := of_decide_eq_true h11
    obtain ⟨k18, o18, n18, c18, q18, ea18, hl18, hq18, r18, N18, f18, hk18, hN18, hf18⟩ := (hL.ext hE0).at i0 (by omega)   -- 18 .ids ['.t', 16]
    refine ⟨k18, o18, n18, c18, i0, q18, ea18, rfl, hl18, hq18, ?_⟩
    refine ⟨_, _, _, _, _, hk18, ⟨by simp, hN18⟩, hf18, ?_⟩   -- 19 .lda ['.t', 18]
    have hr := (redL_rr hp fun v h => hv v (List.mem_of_mem_take (i := i0) h)).1
    have hrl := hr.len
    refine ⟨_, s_l01Put_ok B E.2 (by omega) (by omega) hV0 hr.fs (by omega), ?_⟩   -- 20 .call 266
    rintro _ G20 ⟨b20, rfl, hE20, hV20⟩
    refine ⟨((i0 + 1 : Nat) : Int), w64_id _ (by omega) (by omega), ?_⟩   -- 13 .bin
    refine ⟨by omega, _, ?_, ⟨rfl, rfl, rfl, rfl, trivial⟩⟩
    dsimp only
    rw [take_getD (by omega), redL_snoc]
    exact ⟨hV20, hE0.trans hE20⟩
  · replace h11 := of_decide_eq_false h11
    have e0 : L.length = i0 := by omega
    subst e0
    exact ⟨rfl, x0, rfl, hE0, by rw [List.take_length] at hV0; exact hV0⟩

theorem nulP_take {R : List By} {i y : Nat} (h : i < R.length) : nulP (R.take (i + 1)) y = (nulP (R.take i) y || fst8 (R.getD i z0) == y) := by
  unfold nulP; rw [take_getD h, List.any_append]; simp
theorem s_l02Null_ok (B : Bs P ρ) (E : F_s_l02Null P ρ) {H : List Blk} {p : Int} {n : Nat} {a : At} {L : List By} (hp : Pr p) (hn : n ≤ 8) (hL : VS H a L) (hv : ∀ v ∈ L, Vp 8 p v) (hlen : L.length ≤ 1000000) :
    CallR P ρ 284 [.i .i64 p, .i .i64 (n : Int), a] H (fun u G => ∃ b, u = .one b ∧ Ext H G ∧ VS G b (kerL p n L)) := by
  have hp2 := hp.1
  have hp3 := hp.2.1
  have hrr := (redL_rr hp hv).1
  have hrl := hrr.len
  have hfs : ∀ i, i < (redL p L).length → fst8 ((redL p L).getD i z0) < 8 := fun i hi => hrr.fs _ (getD_mem hi)
  refine call_of_q B.fn B.mo E.1 rfl (fun hAr hHp => ?_) (by simp only [List.all_cons, List.all_nil, hL.lt]; rfl)
  refine ⟨_, s_l01Reduce_ok B E.2.1 hp hL hv hlen, ?_⟩   -- 16 .call 270
  rintro _ G16 ⟨b16, rfl, hE16, hV16⟩
  refine ⟨_, rfl, ?_⟩
  refine ⟨_, rfl, ?_⟩
  refine ⟨_, _, _, get_new, cputs_rw rfl rfl, eqBk_rfl, ?_⟩
  rw [app_set0]
  refine ⟨Unit, (fun a0 a1 a7 a8 a9 (i0 : Nat) (x0 : Unit) => [(0, a0), (1, a1), (7, a7), (8, a8), (9, a9), (10, .one (.i .i64 ((i0 : Nat) : Int)))]) _ _ _ _ _ , fun (i0 : Nat) (x0 : Unit) (G0 : List Blk) => (∃ l, G0 = G16 ++ [⟨false, .by [] (0 * 8) fun _ => 0⟩] ++ [⟨false, .rw l⟩] ∧ l.length = 8 ∧ ∀ y, y < 8 → l[y]? = some (.b (nulP ((redL p L).take i0) y))), (redL p L).length, ⟨(), ?_, ⟨rfl, rfl, rfl, rfl, rfl, rfl, trivial⟩⟩, ?_⟩
  · refine ⟨_, rfl, rfl, fun y hy => ?_⟩
    have : y = 0 ∨ y = 1 ∨ y = 2 ∨ y = 3 ∨ y = 4 ∨ y = 5 ∨ y = 6 ∨ y = 7 := by omega
    rcases this with rfl | rfl | rfl | rfl | rfl | rfl | rfl | rfl <;> rfl
  rintro i0 _ G0 hi0 ⟨l, rfl, hl, hj⟩
  refine ⟨_, (hV16).len, ?_⟩   -- 21 .len ['.t', 20]
  refine ⟨fun h22 => ?_, fun h22 => ?_⟩
  · replace h22 := of_decide_eq_true h22
    obtain ⟨k27, o27, n27, c27, q27, ea27, hl27, hq27, r27, N27, f27, hk27, hN27, hf27⟩ := (hV16.ext (Ext.app.trans Ext.app)).at i0 (by omega)   -- 27 .ids ['.t', 25]
    refine ⟨k27, o27, n27, c27, i0, q27, ea27, rfl, hl27, hq27, ?_⟩
    refine ⟨_, _, _, _, _, hk27, ⟨by simp, hN27⟩, hf27, ?_⟩   -- 28 .lda ['.t', 27]
    refine ⟨_, s_l01First_ok B E.2.2.1 , rfl, ?_⟩   -- 29 .calp 273
    refine ⟨fst8 ((redL p L).getD i0 z0), _, rfl, hfs i0 (by omega), rfl, ?_⟩
    refine ⟨_, _, _, get_new, cput_rw (by have := hfs i0 (by omega); omega) rfl, eqBk_rfl, ?_⟩
    refine ⟨((i0 + 1 : Nat) : Int), w64_id _ (by omega) (by omega), ?_⟩   -- 24 .bin
    refine ⟨by omega, (), ?_, ⟨rfl, rfl, rfl, rfl, rfl, rfl, trivial⟩⟩
    refine ⟨_, app_set0, by simpa using hl, fun y hy => ?_⟩
    rw [nulP_take (by omega), show 0 + fst8 ((redL p L).getD i0 z0) * 1 = fst8 ((redL p L).getD i0 z0) by omega]
    by_cases e : y = fst8 ((redL p L).getD i0 z0)
    · subst e
      rw [List.getElem?_set_self (by have := hfs i0 (by omega); omega)]
      simp
    · rw [List.getElem?_set_ne (Ne.symm e), hj y hy]
      have : (fst8 ((redL p L).getD i0 z0) == y) = false := by simpa using Ne.symm e
      rw [this, Bool.or_false]
  · replace h22 := of_decide_eq_false h22
    have e0 : (redL p L).length = i0 := by omega
    subst e0
    rw [List.take_length] at hj
    refine ⟨At, (fun a0 a1 a7 a9 (i1 : Nat) (x1 : At) => [(0, a0), (1, a1), (7, a7), (8, .one x1), (9, a9), (11, .one (.i .i64 ((i1 : Nat) : Int)))]) _ _ _ _ , fun (i1 : Nat) (x1 : At) (G1 : List Blk) => (VF (G16.length + 2) G1 x1 (nulL p i1 (redL p L)) ∧ Ext (G16 ++ [⟨false, .by [] (0 * 8) fun _ => 0⟩] ++ [⟨false, .rw l⟩]) G1), n, ⟨_, ⟨VF.nil.ext Ext.app, Ext.refl⟩, ⟨rfl, rfl, rfl, rfl, rfl, rfl, trivial⟩⟩, ?_⟩
    rintro i1 x1 G1 hi1 ⟨hV1, hE1⟩
    have hb9 := hE1 _ _ get_new
    have hV16' := hV16.ext (Ext.app.trans (Ext.app.trans hE1))
    have hl16 := hE16.len
    have hl1 := hE1.len
    simp only [List.length_append, List.length_singleton] at hl1
    refine ⟨fun h33 => ?_, fun h33 => ?_⟩
    · replace h33 := of_decide_eq_true h33
      refine ⟨i1, _, rfl, by omega, rfl, ?_⟩   -- 37 .idx
      refine ⟨_, _, hb9, (by rw [show 0 + i1 * 1 = i1 by omega]; exact hj i1 (by omega)), ?_⟩
      refine ⟨fun h38 => ?_, fun h38 => ?_⟩
      · skip
        have hsc := @nulL_succ p i1 (redL p L)
        rw [if_pos h38] at hsc
        refine ⟨((i1 + 1 : Nat) : Int), w64_id _ (by omega) (by omega), ?_⟩   -- 35 .bin
        exact ⟨by omega, _, ⟨by rw [hsc]; exact hV1, hE1⟩, ⟨rfl, rfl, rfl, rfl, rfl, rfl, trivial⟩⟩
      · skip
        have hsc := @nulL_succ p i1 (redL p L)
        rw [if_neg (by rw [h38]; simp)] at hsc
        refine ⟨_, s_l01Basis_ok B E.2.2.2.1 (by omega), rfl, ?_⟩   -- 40 .calp 55
        refine ⟨_, rfl, ?_⟩
        refine ⟨_, _, _, get_new, cputs_by (by simp) (by omega), eqBk_rfl, ?_⟩
        rw [app_set0]
        refine ⟨Unit, (fun a0 a1 a7 a8 a9 a11 a12 (i2 : Nat) (x2 : Unit) => [(0, a0), (1, a1), (7, a7), (8, a8), (9, a9), (11, a11), (12, a12), (13, .one (.i .i64 ((i2 : Nat) : Int)))]) _ _ _ _ _ _ _ , fun (i2 : Nat) (x2 : Unit) (G2 : List Blk) => (∃ w, G2 = G1 ++ [⟨false, .by [] 8 w⟩] ∧ ∀ y, y < 8 → w y = (((redL p L).take i2).foldl (fun v r => upd v (fst8 r) (byt ((-(bz r i1)) % p))) (bas i1)) y), (redL p L).length, ⟨(), ⟨_, rfl, fun y hy => by simp [spl, hy]⟩, ⟨rfl, rfl, rfl, rfl, rfl, rfl, rfl, rfl, trivial⟩⟩, ?_⟩
        rintro i2 _ G2 hi2 ⟨w, rfl, hw⟩
        refine ⟨_, (hV16).len, ?_⟩   -- 43 .len ['.t', 42]
        refine ⟨fun h44 => ?_, fun h44 => ?_⟩
        · replace h44 := of_decide_eq_true h44
          obtain ⟨k49, o49, n49, c49, q49, ea49, hl49, hq49, r49, N49, f49, hk49, hN49, hf49⟩ := (hV16'.ext Ext.app).at i2 (by omega)   -- 49 .ids ['.t', 47]
          refine ⟨k49, o49, n49, c49, i2, q49, ea49, rfl, hl49, hq49, ?_⟩
          refine ⟨_, _, _, _, _, hk49, ⟨by simp, hN49⟩, hf49, ?_⟩   -- 50 .lda ['.t', 49]
          refine ⟨_, s_l01First_ok B E.2.2.1 , rfl, ?_⟩   -- 51 .calp 273
          obtain ⟨k56, o56, n56, c56, q56, ea56, hl56, hq56, r56, N56, f56, hk56, hN56, hf56⟩ := (hV16'.ext Ext.app).at i2 (by omega)   -- 56 .ids ['.t', 53]
          refine ⟨k56, o56, n56, c56, i2, q56, ea56, rfl, hl56, hq56, ?_⟩
          refine ⟨i1, q56 + i1, rfl, by omega, by omega, ?_⟩
          refine ⟨_, .u ((redL p L).getD i2 z0 i1), hk56, (by rw [cat_u (by omega), ← hf56 i1 (by omega)]), ?_⟩
          have hxb := toNat_le ((redL p L).getD i2 z0 i1)
          refine ⟨_, w64_id _ (by omega) (by omega), ?_⟩   -- 60 .ng
          refine ⟨_, s_l01Mod_ok B E.2.2.2.2 (by omega) (by omega), rfl, ?_⟩   -- 61 .calp 72
          refine ⟨fst8 ((redL p L).getD i2 z0), _, rfl, hfs i2 (by omega), rfl, ?_⟩
          refine ⟨_, _, _, get_new, cput_u (by simp) (by have := hfs i2 (by omega); omega), eqBk_rfl, ?_⟩
          refine ⟨((i2 + 1 : Nat) : Int), w64_id _ (by omega) (by omega), ?_⟩   -- 46 .bin
          refine ⟨by omega, (), ?_, ⟨rfl, rfl, rfl, rfl, rfl, rfl, rfl, rfl, trivial⟩⟩
          refine ⟨_, app_set0, fun y hy => ?_⟩
          rw [nulV_take (by omega), show 0 + fst8 ((redL p L).getD i2 z0) * 1 = fst8 ((redL p L).getD i2 z0) by omega]
          by_cases e : y = fst8 ((redL p L).getD i2 z0)
          · subst e
            rw [upd_same, upd_same]; rfl
          · rw [upd_ne _ _ _ _ e, upd_ne _ _ _ _ e, hw y hy]
        · replace h44 := of_decide_eq_false h44
          have e2 : (redL p L).length = i2 := by omega
          subst e2
          refine ⟨_, _, _, _, nulV p (redL p L) i1, get_new, ⟨by simp, by omega⟩, fun x hx => ?_, ?_⟩
          · rw [Nat.zero_add, hw x hx, List.take_length]; rfl
          refine ⟨_, rfl, ?_⟩   -- 65 .bsb
          refine ⟨_, vf_app ((hV1.ext Ext.app).ext Ext.app) VS.one (by have := @nulL_len p (redL p L) i1; omega) (by simp; omega), ?_⟩   -- 66 .apb 8
          rintro a66 G66 ⟨hv66, hu66⟩
          refine ⟨((i1 + 1 : Nat) : Int), w64_id _ (by omega) (by omega), ?_⟩   -- 35 .bin
          refine ⟨by omega, _, ?_, ⟨rfl, rfl, rfl, rfl, rfl, rfl, trivial⟩⟩
          dsimp only
          rw [hsc]
          exact ⟨hv66, Upto.ext (hE1.trans (Ext.app.trans Ext.app)) hu66 (by simp)⟩
    · replace h33 := of_decide_eq_false h33
      have e1 : n = i1 := by omega
      subst e1
      refine ⟨_, s_l01Reduce_ok B E.2.1 hp hV1.vs (nulL_vp (by omega) (by omega) hn hrr.fs) (by have := @nulL_len p (redL p L) n; omega), ?_⟩   -- 69 .call 270
      rintro _ G69 ⟨b69, rfl, hE69, hV69⟩
      exact ⟨rfl, b69, rfl, hE16.trans (Ext.app.trans (Ext.app.trans (hE1.trans hE69))), hV69⟩

end Hf
namespace Hf
open Go Classical
variable {P : Program} {ρ : Nat → FuncId}
/-- the coinvariants' equations -/
def coC (n : Nat) (g f : By) (t c : Nat) : Int := bz g (1 + c * 64 + t / n * 8 + t % n) - (if c = t / n then bz f (2 + t % n) else 0)
theorem i_CoinvariantsOf_1_ok (B : Bs P ρ) (E : F_i_CoinvariantsOf_1 P ρ) {H : List Blk} {t c d k7 k3 k2 : Nat} {n : Nat} {p : Int} {g f : By} {r7 r3 r2 : Bool} (h7 : H[k7]? = some ⟨r7, .vr (.i .i64 (n : Int))⟩) (h3 : H[k3]? = some ⟨r3, .by [(d : Int)] 513 g⟩) (h2 : H[k2]? = some ⟨r2, .by [p, (n : Int)] 1106 f⟩) (ht : t < d * n) (hn : n ≤ 8) (hd : d ≤ 8) (hc : c < d) :
    CallR P ρ 345 [.i .i64 (t : Int), .i .i64 (c : Int), .pt k7 0, .pt k3 0, .pt k2 0] H (fun u G => u = .one (.i .i64 (coC n g f t c)) ∧ G = H) := by
  have htd : t / n < d := Nat.div_lt_of_lt_mul (by rw [Nat.mul_comm]; exact ht)
  have hn0 : 0 < n := Nat.pos_of_ne_zero fun e => by subst e; simp at ht
  have htm : t % n < n := Nat.mod_lt _ hn0
  have hi1 : (0 : Int) ≤ ((t / n : Nat) : Int) := Int.natCast_nonneg _
  have hi2 : (0 : Int) ≤ ((t % n : Nat) : Int) := Int.natCast_nonneg _
  have htb : t ≤ 64 := Nat.le_trans (Nat.le_of_lt ht) (Nat.mul_le_mul hd hn)
  refine call_of_q B.fn B.mo E rfl (fun hAr hHp => ?_) (by simp [At.lt, lt_of h7, lt_of h2, lt_of h3])
  refine ⟨_, _, h7, rfl, ?_⟩
  refine ⟨by omega, ((t / n : Nat) : Int), by rw [← Int.ofNat_tdiv]; exact w64_id _ (by omega) (by omega), ?_⟩
  refine ⟨_, _, h7, rfl, ?_⟩
  refine ⟨by omega, ((t % n : Nat) : Int), (Int.ofNat_tmod _ _).symm, ?_⟩
  refine ⟨c, _, rfl, by omega, rfl, ?_⟩
  refine ⟨t / n, _, rfl, by omega, rfl, ?_⟩
  refine ⟨t % n, _, rfl, by omega, rfl, ?_⟩
  refine ⟨_, .u (g (1 + c * 64 + t / n * 8 + t % n)), h3, (by rw [cat_hu (by simp; omega) (by omega)]; congr 3; omega), ?_⟩
  refine ⟨fun h28 => ?_, fun h28 => ?_⟩
  · replace h28 := eq_of_beq h28
    have e28 : c = t / n := by omega
    refine ⟨t % n, _, rfl, by omega, rfl, ?_⟩
    refine ⟨_, .u (f (2 + t % n)), h2, (by rw [cat_hu (by simp) (by omega)]; congr 3; omega), ?_⟩
    have hx1 := toNat_le (g (1 + c * 64 + t / n * 8 + t % n))
    have hx2 := toNat_le (f (2 + t % n))
    refine ⟨_, w64_id _ (by omega) (by omega), ?_⟩   -- 35 .bin
    refine ⟨rfl, ?_, rfl⟩
    unfold coC
    rw [if_pos e28]; rfl
  · replace h28 := ne_of_beq_false h28
    have e28 : ¬ c = t / n := by omega
    refine ⟨rfl, ?_, rfl⟩
    unfold coC
    rw [if_neg e28, Int.sub_zero]; rfl

def CQ (p n d : Int) (g f : By) : Prop := Hop p n f ∧ Cmo p n.toNat d g f
noncomputable def cinV (p n d : Int) (g f : By) : List By := if CQ p n d g f then kerL p d.toNat (eqnL p d.toNat (d.toNat * n.toNat) (coC n.toNat g f)) else []
theorem cinV_len {p n d : Int} {g f : By} : (cinV p n d g f).length ≤ 8 := by
  unfold cinV
  split
  · rename_i h
    have hp := h.1.1.1.1
    have hd : d.toNat ≤ 8 := by have := h.2.1.1.2; omega
    exact (kerL_rr hp hd fun v hv => (eqnL_vp (by have := hp.1; omega) (by have := hp.2.1; omega) v hv).mono hd).len
  · simp
theorem i_CoinvariantsOf_ok (B : Bs P ρ) (E : F_i_CoinvariantsOf P ρ) {H : List Blk} {p n d : Int} {g f : By} :
    CallR P ρ 337 [.ag [p, n] 1106 f, .ag [d] 513 g] H (fun u G => ∃ b, u = .tup [b, .i .i64 (oc (CQ p n d g f) 1)] ∧ Ext H G ∧ VM H.length G b (cinV p n d g f)) := by
  refine call_of_q B.fn B.mo E.1 rfl (fun hAr hHp => ?_) rfl
  refine ⟨_, rfl, ?_⟩
  refine ⟨_, rfl, ?_⟩
  refine .inl ⟨_, _, _, _, app_old get_new, ⟨rfl, by omega⟩, ?_⟩
  refine .inl ⟨_, _, _, _, get_new, ⟨rfl, by omega⟩, ?_⟩
  refine ⟨_, i_IsComodule_ok B E.2.1 , rfl, ?_⟩   -- 10 .calp 132
  refine ⟨fun h11 => ?_, fun h11 => ?_⟩
  · skip
    have hq : ¬ CQ p n d g f := fun q => by rw [decide_eq_true (show Hop p n f ∧ Cmo p n.toNat d g f from q)] at h11; cases h11
    refine ⟨rfl, .sn, by rw [show oc (CQ p n d g f) 1 = 1 from oc_f hq]; rfl, Ext.app.trans Ext.app, .inl ⟨rfl, ?_⟩⟩
    unfold cinV
    rw [if_neg hq]
  · skip
    have hq : CQ p n d g f := by unfold CQ; simpa using h11
    obtain ⟨n, rfl⟩ : ∃ m : Nat, n = (m : Int) := ⟨n.toNat, by have := hq.1.1.1.2.1; omega⟩
    obtain ⟨d, rfl⟩ : ∃ m : Nat, d = (m : Int) := ⟨d.toNat, by have := hq.2.1.1.1; omega⟩
    have hpr := hq.1.1.1.1
    have hn8 : n ≤ 8 := by have := hq.1.1.1.2.2; omega
    have hd8 : d ≤ 8 := by have := hq.2.1.1.2; omega
    have hnd : d * n ≤ 64 := Nat.mul_le_mul hd8 hn8
    refine ⟨_, _, get_new, rfl, ?_⟩
    refine ⟨_, _, app_old get_new, rfl, ?_⟩
    refine ⟨_, rfl, ⟨kept1 (app_old get_new) (app_old (app_old get_new)), kept1 get_new (app_old get_new), trivial⟩, ?_⟩
    refine ⟨_, _, _, get_new, cput_vr rfl, eqBk_rfl, ?_⟩
    rw [app_set0]
    refine ⟨_, _, app_old (app_old get_new), rfl, ?_⟩
    refine ⟨_, _, get_new, rfl, ?_⟩
    refine ⟨((d * n : Nat) : Int), (by rw [← Int.natCast_mul]; exact w64_id _ (by omega) (by omega)), ?_⟩
    refine ⟨_, i_kernel_ok B E.2.2.2 (p := p) (n := d) (m := d * n) (co := coC n g f) hpr hd8 (by omega) (by simp [At.lt]) (fun G i j hE hi hj => i_CoinvariantsOf_1_ok B E.2.2.1 (hE _ _ get_new) (hE _ _ (app_old get_new)) (hE _ _ (app_old (app_old get_new))) hi hn8 hd8 hj), ?_⟩
    rintro _ G24 ⟨b24, rfl, hE24, hV24⟩
    refine ⟨rfl, b24, by rw [show oc (CQ p n d g f) 1 = 0 from oc_t hq]; rfl, Ext.app.trans (Ext.app.trans (Ext.app.trans hE24)), .inr ?_⟩
    unfold cinV
    rw [if_pos hq]
    exact hV24.mono (by simp)

theorem s_CoinvariantsOf_ok (B : Bs P ρ) (E : F_s_CoinvariantsOf P ρ) {H : List Blk} {p n d : Int} {g f : By} :
    CallR P ρ 336 [.ag [p, n] 1106 f, .ag [d] 513 g] H (fun u G => ∃ b, u = .tup [b, .i .i64 (oc (CQ p n d g f) 1)] ∧ Ext H G ∧ VS G b (cinV p n d g f)) := by
  refine call_of_q B.fn B.mo E.1 rfl (fun hAr hHp => ?_) rfl
  refine ⟨_, rfl, ?_⟩
  refine ⟨_, rfl, ?_⟩
  refine .inl ⟨_, _, _, _, app_old get_new, ⟨rfl, by omega⟩, ?_⟩
  refine .inl ⟨_, _, _, _, get_new, ⟨rfl, by omega⟩, ?_⟩
  refine ⟨_, s_IsComodule_ok B E.2.1 , rfl, ?_⟩   -- 14 .calp 131
  refine ⟨fun h15 => ?_, fun h15 => ?_⟩
  · skip
    have hq : ¬ CQ p n d g f := fun q => by rw [decide_eq_true (show Hop p n f ∧ Cmo p n.toNat d g f from q)] at h15; cases h15
    refine ⟨rfl, .sn, by rw [show oc (CQ p n d g f) 1 = 1 from oc_f hq]; rfl, Ext.app.trans Ext.app, .inl ⟨rfl, ?_⟩⟩
    unfold cinV
    rw [if_neg hq]
  · skip
    have hq : CQ p n d g f := by unfold CQ; simpa using h15
    obtain ⟨n, rfl⟩ : ∃ m : Nat, n = (m : Int) := ⟨n.toNat, by have := hq.1.1.1.2.1; omega⟩
    obtain ⟨d, rfl⟩ : ∃ m : Nat, d = (m : Int) := ⟨d.toNat, by have := hq.2.1.1.1; omega⟩
    have hp := hq.1.1.1.1
    have hp2 := hp.1
    have hp3 := hp.2.1
    have hn : n ≤ 8 := by have := hq.1.1.1.2.2; omega
    have hd : d ≤ 8 := by have := hq.2.1.1.2; omega
    have hnd : d * n ≤ 64 := Nat.mul_le_mul hd hn
    refine ⟨_, rfl, ?_⟩
    refine ⟨At, (fun a2 a3 (i0 : Nat) (x0 : At) => [(2, a2), (3, a3), (6, .one x0), (7, .one (.i .i64 ((i0 : Nat) : Int)))]) _ _ , fun (i0 : Nat) (x0 : At) (G0 : List Blk) => (VF (H.length + 3) G0 x0 (eqnL p d (i0 * n) (coC n g f)) ∧ Ext (H ++ [⟨false, .by [p, (n : Int)] 1106 f⟩] ++ [⟨false, .by [(d : Int)] 513 g⟩] ++ [⟨false, .by [] (0 * 8) fun _ => 0⟩]) G0), d, ⟨_, ⟨by rw [Nat.zero_mul]; exact VF.nil, Ext.refl⟩, ⟨rfl, rfl, rfl, rfl, trivial⟩⟩, ?_⟩
    rintro i0 x0 G0 hi0 ⟨hV0, hE0⟩
    have hb2 := hE0 _ _ (app_old (app_old get_new))
    have hb3 := hE0 _ _ (app_old get_new)
    refine ⟨_, _, hb3, rfl, ?_⟩
    refine ⟨fun h20 => ?_, fun h20 => ?_⟩
    · replace h20 := of_decide_eq_true h20
      refine ⟨At, (fun a2 a3 a7 (i1 : Nat) (x1 : At) => [(2, a2), (3, a3), (6, .one x1), (7, a7), (8, .one (.i .i64 ((i1 : Nat) : Int)))]) _ _ _ , fun (i1 : Nat) (x1 : At) (G1 : List Blk) => (VF (H.length + 3) G1 x1 (eqnL p d (i0 * n + i1) (coC n g f)) ∧ Ext (H ++ [⟨false, .by [p, (n : Int)] 1106 f⟩] ++ [⟨false, .by [(d : Int)] 513 g⟩] ++ [⟨false, .by [] (0 * 8) fun _ => 0⟩]) G1), n, ⟨_, ⟨hV0, hE0⟩, ⟨rfl, rfl, rfl, rfl, rfl, trivial⟩⟩, ?_⟩
      rintro i1 x1 G1 hi1 ⟨hV1, hE1⟩
      have hb2' := hE1 _ _ (app_old (app_old get_new))
      have hb3' := hE1 _ _ (app_old get_new)
      refine ⟨_, _, hb2', rfl, ?_⟩
      refine ⟨fun h26 => ?_, fun h26 => ?_⟩
      · replace h26 := of_decide_eq_true h26
        refine ⟨_, rfl, ?_⟩
        refine ⟨_, _, _, get_new, cputs_by (by simp) (by omega), eqBk_rfl, ?_⟩
        rw [app_set0]
        refine ⟨Unit, (fun a2 a3 a6 a7 a8 a9 (i2 : Nat) (x2 : Unit) => [(2, a2), (3, a3), (6, a6), (7, a7), (8, a8), (9, a9), (10, .one (.i .i64 ((i2 : Nat) : Int)))]) _ _ _ _ _ _ , fun (i2 : Nat) (x2 : Unit) (G2 : List Blk) => (∃ w, G2 = G1 ++ [⟨false, .by [] 8 w⟩] ∧ ∀ y, y < 8 → w y = if y < i2 then vec d p (coC n g f (i0 * n + i1)) y else 0), d, ⟨(), ⟨_, rfl, fun y hy => by simp [spl, hy]⟩, ⟨rfl, rfl, rfl, rfl, rfl, rfl, rfl, trivial⟩⟩, ?_⟩
        rintro i2 _ G2 hi2 ⟨w, rfl, hw⟩
        have hdiv : (i0 * n + i1) / n = i0 ∧ (i0 * n + i1) % n = i1 := by
          have h : i1 < n := by omega
          exact ⟨by rw [Nat.mul_comm, Nat.mul_add_div (by omega), Nat.div_eq_of_lt h, Nat.add_zero], by rw [Nat.mul_comm, Nat.mul_add_mod, Nat.mod_eq_of_lt h]⟩
        refine ⟨_, _, app_old hb3', rfl, ?_⟩
        refine ⟨fun h33 => ?_, fun h33 => ?_⟩
        · replace h33 := of_decide_eq_true h33
          refine ⟨i2, _, rfl, by omega, rfl, ?_⟩   -- 40 .idx
          refine ⟨i0, _, rfl, by omega, rfl, ?_⟩   -- 41 .idx
          refine ⟨i1, _, rfl, by omega, rfl, ?_⟩   -- 42 .idx
          refine ⟨_, .u (g (1 + i2 * 64 + i0 * 8 + i1)), app_old hb3', (by rw [cat_hu (by simp; omega) (by omega)]; congr 3; omega), ?_⟩
          refine ⟨fun h47 => ?_, fun h47 => ?_⟩
          · replace h47 := eq_of_beq h47
            have e47 : i2 = i0 := by omega
            refine ⟨i1, _, rfl, by omega, rfl, ?_⟩   -- 51 .idx
            refine ⟨_, .u (f (2 + i1)), app_old hb2', (by rw [cat_hu (by simp) (by omega)]; congr 3; omega), ?_⟩
            have hx1 := toNat_le (g (1 + i2 * 64 + i0 * 8 + i1))
            have hx2 := toNat_le (f (2 + i1))
            refine ⟨_, w64_id _ (by omega) (by omega), ?_⟩   -- 54 .bin
            refine ⟨_, _, app_old hb2', rfl, ?_⟩
            refine ⟨_, s_l01Mod_ok B E.2.2.1 (by omega) (by omega), rfl, ?_⟩   -- 59 .calp 72
            refine ⟨i2, _, rfl, by omega, rfl, ?_⟩   -- 60 .idx
            refine ⟨_, _, _, get_new, cput_u (by simp) (by omega), eqBk_rfl, ?_⟩
            refine ⟨((i2 + 1 : Nat) : Int), w64_id _ (by omega) (by omega), ?_⟩   -- 35 .bin
            refine ⟨by omega, (), ?_, ⟨rfl, rfl, rfl, rfl, rfl, rfl, rfl, trivial⟩⟩
            refine ⟨_, app_set0, fun y hy => ?_⟩
            by_cases e : y = i2
            · subst e
              rw [show 0 + y * 1 = y by omega, upd_same, if_pos (by omega)]
              simp only [vec]; rw [if_pos (by omega)]
              unfold coC
              rw [hdiv.1, hdiv.2, if_pos e47]; rfl
            · rw [upd_ne _ _ _ _ (by omega), hw y hy]
              by_cases h : y < i2
              · rw [if_pos h, if_pos (by omega)]
              · rw [if_neg h, if_neg (by omega)]
          · replace h47 := ne_of_beq_false h47
            have e47 : ¬ i2 = i0 := by omega
            refine ⟨_, _, app_old hb2', rfl, ?_⟩
            refine ⟨_, s_l01Mod_ok B E.2.2.1 (by omega) (by omega), rfl, ?_⟩   -- 59 .calp 72
            refine ⟨i2, _, rfl, by omega, rfl, ?_⟩   -- 60 .idx
            refine ⟨_, _, _, get_new, cput_u (by simp) (by omega), eqBk_rfl, ?_⟩
            refine ⟨((i2 + 1 : Nat) : Int), w64_id _ (by omega) (by omega), ?_⟩   -- 35 .bin
            refine ⟨by omega, (), ?_, ⟨rfl, rfl, rfl, rfl, rfl, rfl, rfl, trivial⟩⟩
            refine ⟨_, app_set0, fun y hy => ?_⟩
            by_cases e : y = i2
            · subst e
              rw [show 0 + y * 1 = y by omega, upd_same, if_pos (by omega)]
              simp only [vec]; rw [if_pos (by omega)]
              unfold coC
              rw [hdiv.1, hdiv.2, if_neg e47, Int.sub_zero]; rfl
            · rw [upd_ne _ _ _ _ (by omega), hw y hy]
              by_cases h : y < i2
              · rw [if_pos h, if_pos (by omega)]
              · rw [if_neg h, if_neg (by omega)]
        · replace h33 := of_decide_eq_false h33
          have e2 : d = i2 := by omega
          subst e2
          refine ⟨_, _, _, _, vec d p (coC n g f (i0 * n + i1)), get_new, ⟨by simp, by omega⟩, fun y hy => ?_, ?_⟩
          · rw [Nat.zero_add, hw y hy]
            split
            · rfl
            · exact vec_out (by omega)
          refine ⟨_, rfl, ?_⟩   -- 63 .bsb
          have hlt1 : i0 * n + i1 ≤ 1000 := by have := Nat.mul_le_mul (show i0 ≤ 8 by omega) hn; omega
          refine ⟨_, vf_app ((hV1.ext Ext.app).ext Ext.app) VS.one (by simp [eqnL]; omega) (by have := hE1.len; simp at this; simp; omega), ?_⟩   -- 64 .apb 8
          rintro a64 G64 ⟨hv64, hu64⟩
          refine ⟨((i1 + 1 : Nat) : Int), w64_id _ (by omega) (by omega), ?_⟩   -- 28 .bin
          refine ⟨by omega, _, ?_, ⟨rfl, rfl, rfl, rfl, rfl, trivial⟩⟩
          dsimp only
          rw [show i0 * n + (i1 + 1) = i0 * n + i1 + 1 by omega, eqnL_succ]
          exact ⟨hv64, Upto.ext (hE1.trans (Ext.app.trans Ext.app)) hu64 (by simp)⟩
      · replace h26 := of_decide_eq_false h26
        have e1 : n = i1 := by omega
        subst e1
        refine ⟨((i0 + 1 : Nat) : Int), w64_id _ (by omega) (by omega), ?_⟩   -- 22 .bin
        refine ⟨by omega, _, ?_, ⟨rfl, rfl, rfl, rfl, trivial⟩⟩
        dsimp only
        rw [show (i0 + 1) * n = i0 * n + n by rw [Nat.add_mul, Nat.one_mul]]
        exact ⟨hV1, hE1⟩
    · replace h20 := of_decide_eq_false h20
      have e0 : d = i0 := by omega
      subst e0
      refine ⟨_, _, hb2, rfl, ?_⟩
      refine ⟨_, _, hb3, rfl, ?_⟩
      refine ⟨_, s_l02Null_ok B E.2.2.2 hp hd hV0.vs (fun v h => (eqnL_vp (by omega) (by omega) v h).mono hd) (by simp [eqnL]; omega), ?_⟩   -- 70 .call 284
      rintro _ G70 ⟨b70, rfl, hE70, hV70⟩
      refine ⟨rfl, b70, by rw [show oc (CQ p n d g f) 1 = 0 from oc_t hq]; rfl, Ext.app.trans (Ext.app.trans (Ext.app.trans (hE0.trans hE70))), ?_⟩
      unfold cinV
      rw [if_pos hq]
      exact hV70

end Hf
namespace Hf
open Go Classical
variable {P : Program} {ρ : Nat → FuncId}
theorem l_FnExactCoinvariantsOf_ok (B : Bs P ρ) (E : F_l_FnExactCoinvariantsOf P ρ) {p n d : Int} {f g : By} :
    CallOK P ρ 338 [.ag [p, n] 1106 f, .ag [d] 513 g] [] (.one (.b true)) [] := by
  refine (CallR.pure (call_of_q B.fn B.mo E.1 rfl (fun _ _ => ?_) rfl) rfl).ok
  have hlen := cinV_len (p := p) (n := n) (d := d) (g := g) (f := f)
  refine ⟨_, rfl, ?_⟩   -- 2 .box
  refine ⟨_, rfl, ?_⟩   -- 3 .box
  have hEx : Ext ([] ++ [(⟨false, .by [p, n] 1106 f⟩ : Blk)] ++ [(⟨false, .by [d] 513 g⟩ : Blk)]) ([] ++ [(⟨false, .by [p, n] 1106 f⟩ : Blk)] ++ [(⟨false, .by [d] 513 g⟩ : Blk)]) := Ext.refl
  refine .inl ⟨_, _, _, _, (hEx _ _ rfl), ⟨rfl, by omega⟩, ?_⟩   -- 14 .lda ['.t', 2]
  refine ⟨_, l_toHopf_ok B E.2.1 , rfl, ?_⟩   -- 15 .calp 0
  refine .inl ⟨_, _, _, _, (hEx _ _ rfl), ⟨rfl, by omega⟩, ?_⟩   -- 16 .lda ['.t', 3]
  refine ⟨_, l_toComodule_ok B E.2.2.1 , rfl, ?_⟩   -- 17 .calp 130
  refine ⟨_, s_CoinvariantsOf_ok B E.2.2.2.1 , ?_⟩   -- 18 .call 336
  rintro _ G1 ⟨b1, rfl, hE1, hV1⟩
  have hEx := hEx.trans hE1
  have hEx1 := hEx
  refine .inl ⟨_, _, _, _, (hEx _ _ rfl), ⟨rfl, by omega⟩, ?_⟩   -- 22 .lda ['.t', 2]
  refine ⟨_, l_toHopf_ok B E.2.1 , rfl, ?_⟩   -- 23 .calp 0
  refine .inl ⟨_, _, _, _, (hEx _ _ rfl), ⟨rfl, by omega⟩, ?_⟩   -- 24 .lda ['.t', 3]
  refine ⟨_, l_toComodule_ok B E.2.2.1 , rfl, ?_⟩   -- 25 .calp 130
  refine ⟨_, i_CoinvariantsOf_ok B E.2.2.2.2.1 , ?_⟩   -- 26 .call 337
  rintro _ G2 ⟨b2, rfl, hE2, hV2⟩
  have hEx := hEx.trans hE2
  refine ⟨_, l_eqVectorS_ok B E.2.2.2.2.2.1 hV2.vs (hV1.ext hE2) (by omega), ?_⟩   -- 31 .call 247
  rintro _ _ ⟨rfl, rfl⟩
  refine brB_f ?_
  refine brB_f ?_
  refine brB_f ?_
  refine brB_f ?_
  refine brB_f' (by simp) ?_
  refine ⟨_, l_markVectorS_ok B E.2.2.2.2.2.2.1 (m := G1.length) (k := 101) hV2 (by omega) (by omega) (by omega), ?_⟩   -- 40 .call 248
  rintro _ G3 ⟨rfl, hV3, hU3⟩
  have hE3 : Ext G1 G3 := Upto.ext hE2 hU3 (Nat.le_refl _)
  have hEx := hEx1.trans hE3
  refine ⟨_, l_heldVectorS_ok B E.2.2.2.2.2.2.2 (k := 101) hV3.vs (by omega) (by omega) (by omega), ?_⟩   -- 43 .call 249
  rintro _ _ ⟨rfl, rfl⟩
  refine brB_f' (decide_eq_false (by omega)) ?_
  refine brB_f' (by simp) ?_
  refine .inl ⟨_, _, _, _, (hEx _ _ rfl), ⟨rfl, by omega⟩, ?_⟩   -- 50 .lda ['.t', 2]
  refine ⟨_, l_toHopf_ok B E.2.1 , rfl, ?_⟩   -- 51 .calp 0
  refine .inl ⟨_, _, _, _, (hEx _ _ rfl), ⟨rfl, by omega⟩, ?_⟩   -- 52 .lda ['.t', 3]
  refine ⟨_, l_toComodule_ok B E.2.2.1 , rfl, ?_⟩   -- 53 .calp 130
  refine ⟨_, i_CoinvariantsOf_ok B E.2.2.2.2.1 , ?_⟩   -- 54 .call 337
  rintro _ G4 ⟨b4, rfl, hE4, hV4⟩
  have hEx := hEx.trans hE4
  refine ⟨_, l_eqVectorS_ok B E.2.2.2.2.2.1 hV4.vs (hV1.ext (hE3.trans hE4)) (by omega), ?_⟩   -- 59 .call 247
  rintro _ _ ⟨rfl, rfl⟩
  refine brB_f ?_
  refine brB_f ?_
  refine brB_f ?_
  refine brB_f ?_
  refine brB_f' (by simp) ?_
  refine ⟨_, l_heldVectorS_ok B E.2.2.2.2.2.2.2 (k := 101) (hV3.vs.ext hE4) (by omega) (by omega) (by omega), ?_⟩   -- 68 .call 249
  rintro _ _ ⟨rfl, rfl⟩
  refine brB_f' (decide_eq_false (by omega)) ?_
  refine brB_f' (by simp) ?_
  exact ⟨rfl, rfl, Ext.nil⟩

end Hf
