/- Contracts of the functions that the law reaches. -/
import Derived.Test.YtobbbolgodmnoaaGreatC2
set_option linter.unusedVariables false
set_option linter.unusedSimpArgs false
namespace Hf
open Go Classical
/-- one row taken away, in both halves -/
def redP (p : Int) (s q : By × By) : By × By := if s.1 (fst8 q.1) = 0 then s else (addV p s.1 q.1 (-(bz s.1 (fst8 q.1))), addV p s.2 q.2 (-(bz s.1 (fst8 q.1))))
def elR (p : Int) (g : By) (Q : List (By × By)) (i : Nat) : By × By := Q.foldl (redP p) (rw8 g i, bas i)
def elK (p : Int) (s : By × By) : By × By := (putV p s.1, addV p z0 s.2 (((invB p (s.1 (fst8 s.1))).toNat : Nat) : Int))
def elS (p : Int) (g : By) (st : List (By × By) × List By) (i : Nat) : List (By × By) × List By :=
 if eqB 8 (elR p g st.1 i).1 z0 = true then (st.1, st.2 ++ [(elR p g st.1 i).2]) else (st.1 ++ [elK p (elR p g st.1 i)], st.2)
def elT (p : Int) (g : By) (i : Nat) : List (By × By) × List By := (List.range i).foldl (elS p g) ([], [])
theorem elT_succ {p : Int} {g : By} {i : Nat} : elT p g (i + 1) = elS p g (elT p g i) i := by
 unfold elT; rw [List.range_succ, List.foldl_append]; rfl
theorem elT_len {p : Int} {g : By} : ∀ {i : Nat}, (elT p g i).1.length ≤ i ∧ (elT p g i).2.length ≤ i
  | 0 => by simp [elT]
  | i + 1 => by
    obtain ⟨h1, h2⟩ := @elT_len p g i
    rw [elT_succ]
    unfold elS
    split <;> simp <;> omega
/-- two halves -/
def Jn (a b : By) : By := fun x => if x < 8 then a x else if x < 16 then b (x - 8) else 0
section
variable {p : Int}
theorem Jn_lo {a b : By} {x : Nat} (h : x < 8) : Jn a b x = a x := if_pos h
theorem Jn_hi {a b : By} {x : Nat} (h : x < 8) : Jn a b (8 + x) = b x := by
 unfold Jn; rw [if_neg (by omega), if_pos (by omega)]; congr 1; omega
theorem Jn_vp {a b : By} (ha : Vp 8 p a) (hb : Vp 8 p b) (hp : 1 ≤ p) : Vp 16 p (Jn a b) := by
 refine ⟨fun x => ?_, fun x hx => ?_⟩
 ·unfold bz Jn
  split
  ·exact ha.1 x
  ·split
   ·exact hb.1 _
   ·simp; omega
 ·unfold Jn; rw [if_neg (by omega), if_neg (by omega)]
theorem Jn_inj {a b c d : By} (ha : Vp 8 p a) (hb : Vp 8 p b) (hc : Vp 8 p c) (hd : Vp 8 p d) (h : Jn a b = Jn c d) : a = c ∧ b = d := by
 constructor
 ·funext x
  rcases Nat.lt_or_ge x 8 with hx | hx
  ·have := congrFun h x; rwa [Jn_lo hx, Jn_lo hx] at this
  ·rw [ha.2 x hx, hc.2 x hx]
 ·funext x
  rcases Nat.lt_or_ge x 8 with hx | hx
  ·have := congrFun h (8 + x); rwa [Jn_hi hx, Jn_hi hx] at this
  ·rw [hb.2 x hx, hd.2 x hx]
theorem Jn_add {a b c d : By} {k : Int} : addW 16 p (Jn a b) (Jn c d) k = Jn (addW 8 p a c k) (addW 8 p b d k) := by
 funext x
 unfold addW vec Jn bz
 by_cases h : x < 8
 ·simp [h, show x < 16 by omega]
 ·by_cases h2 : x < 16
  ·simp [h, h2, show x - 8 < 8 by omega]
  ·simp [h, h2]
theorem Jn_z : Jn z0 z0 = z0 := by funext x; unfold Jn z0; split <;> (try split) <;> rfl
theorem fst_Jn {a b : By} (h : fst8 a < 8) : fstW 16 (Jn a b) = fst8 a := by
 refine fstW_eq (by omega) ?_ fun y hy => ?_
 ·rw [Jn_lo h]; exact fstW_ne (W := 8) h
 ·rw [Jn_lo (by omega)]; exact fstW_lt (W := 8) hy
def jnP (q : By × By) : By := Jn q.1 q.2
theorem redP_J {s q : By × By} (h : fst8 q.1 < 8) : jnP (redP p s q) = byW1 16 p (jnP s) (jnP q) := by
 unfold redP byW1 jnP
 rw [fst_Jn h, Jn_lo h]
 split
 ·rfl
 ·rw [Jn_add, show bz (Jn s.1 s.2) (fst8 q.1) = bz s.1 (fst8 q.1) by unfold bz; rw [Jn_lo h]]; rfl
theorem redF_J : ∀ {Q : List (By × By)} {s : By × By}, (∀ q ∈ Q, fst8 q.1 < 8) → jnP (Q.foldl (redP p) s) = byW 16 p (jnP s) (Q.map jnP)
  | [], s, _ => rfl
  | q :: Q, s, h => by
    rw [List.foldl_cons, redF_J fun r hr => h r (by simp [hr]), redP_J (h q (by simp))]; rfl

/-- the first entries are 1, and the later ones have 0 there -/
structure HR (W : Nat) (p : Int) (L : List By) : Prop where
 vp : ∀ r ∈ L, Vp W p r
 ld : ∀ r ∈ L, fstW W r < W ∧ r (fstW W r) = 1
 st : L.Pairwise fun a b => b (fstW W a) = 0
variable {W : Nat}
theorem HR.tl {r : By} {L : List By} (h : HR W p (r :: L)) : HR W p L := ⟨fun q hq => h.vp q (by simp [hq]), fun q hq => h.ld q (by simp [hq]), (List.pairwise_cons.1 h.st).2⟩
theorem byW1_self (hp : 1 ≤ p) (hp2 : p ≤ 256) {r : By} (hv : Vp W p r) (h1 : r (fstW W r) = 1) : byW1 W p r r = z0 := by
 rw [byW1_add hp hp2 hv]
 refine (Vp.add hp hp2).ext (Vp.z hp) fun x hx => (cg_add' hp hp2 hx).trans (cg_of_eq ?_)
 rw [one_bz h1, bz_z0]; omega
theorem byW1_at (hp : 1 ≤ p) (hp2 : p ≤ 256) {v r : By} {y : Nat} (hv : Vp W p v) (h : r y = 0) : byW1 W p v r y = v y := by
 rw [byW1_add hp hp2 hv]
 by_cases hy : y < W
 ·apply bz_inj
  show bz _ y = bz v y
  rw [bz_add hp hp2 hy, bz_eq0.2 h, Int.mul_zero, Int.add_zero]
  have := hv.1 y
  exact Int.emod_eq_of_lt (by unfold bz; omega) this
 ·rw [(Vp.add hp hp2).2 y (by omega), hv.2 y (by omega)]
theorem byW1_lead (hp : 1 ≤ p) (hp2 : p ≤ 256) {v r : By} (hv : Vp W p v) (hr : fstW W r < W ∧ r (fstW W r) = 1) : byW1 W p v r (fstW W r) = 0 := by
 rw [byW1_add hp hp2 hv]
 apply bz_eq0.1
 rw [bz_add hp hp2 hr.1, one_bz hr.2, Int.mul_one, Int.add_right_neg]
 exact Int.zero_emod p
theorem byW_at (hp : 1 ≤ p) (hp2 : p ≤ 256) {y : Nat} : ∀ {L : List By} {v : By}, Vp W p v → (∀ r ∈ L, r y = 0) → byW W p v L y = v y
  | [], _, _, _ => rfl
  | r :: L, v, hv, h => by
    show byW W p (byW1 W p v r) L y = v y
    rw [byW_at hp hp2 (byW1_vp hp hp2 hv) fun q hq => h q (by simp [hq]), byW1_at hp hp2 hv (h r (by simp))]
theorem HR.left (hp : 1 ≤ p) (hp2 : p ≤ 256) : ∀ {L : List By} {v : By}, HR W p L → Vp W p v → ∀ r ∈ L, byW W p v L (fstW W r) = 0
  | [], _, _, _, r, hr => by simp at hr
  | q :: L, v, h, hv, r, hr => by
    show byW W p (byW1 W p v q) L (fstW W r) = 0
    rcases List.mem_cons.1 hr with rfl | hr
    · rw [byW_at hp hp2 (byW1_vp hp hp2 hv) (List.pairwise_cons.1 h.st).1]
      exact byW1_lead hp hp2 hv (h.ld r (by simp))
    · exact h.tl.left hp hp2 (byW1_vp hp hp2 hv) r hr
theorem HR.kill (hp : 1 ≤ p) (hp2 : p ≤ 256) : ∀ {L : List By}, HR W p L → ∀ w ∈ L, byW W p w L = z0
  | [], _, w, hw => by simp at hw
  | q :: L, h, w, hw => by
    show byW W p (byW1 W p w q) L = z0
    rcases List.mem_cons.1 hw with rfl | hw
    · rw [byW1_self hp hp2 (h.vp w (by simp)) (h.ld w (by simp)).2]
      exact byW_fix fun r _ => rfl
    · have e : byW1 W p w q = w := by unfold byW1; rw [if_pos ((List.pairwise_cons.1 h.st).1 w hw)]
      rw [e]; exact h.tl.kill hp hp2 w hw
theorem HR.snoc {L : List By} (h : HR W p L) {w : By} (hw : Vp W p w) (hl : fstW W w < W ∧ w (fstW W w) = 1) (h0 : ∀ r ∈ L, w (fstW W r) = 0) : HR W p (L ++ [w]) := by
 refine ⟨fun r hr => ?_, fun r hr => ?_, ?_⟩
 ·rcases List.mem_append.1 hr with h' | h'
  ·exact h.vp r h'
  ·rw [List.mem_singleton.1 h']; exact hw
 ·rcases List.mem_append.1 hr with h' | h'
  ·exact h.ld r h'
  ·rw [List.mem_singleton.1 h']; exact hl
 ·rw [List.pairwise_append]
  refine ⟨h.st, List.pairwise_singleton _ _, fun a ha b hb => ?_⟩
  rw [List.mem_singleton.1 hb]; exact h0 a ha

/-! ### the elimination -/
def augL (g : By) (i : Nat) : List By := (List.range i).map fun i => Jn (rw8 g i) (bas i)
theorem augL_succ {g : By} {i : Nat} : augL g (i + 1) = augL g i ++ [Jn (rw8 g i) (bas i)] := by unfold augL; rw [List.range_succ, List.map_append]; rfl
structure ElI (p : Int) (g : By) (i : Nat) (st : List (By × By) × List By) : Prop where
 vq : ∀ q ∈ st.1, Vp 8 p q.1 ∧ Vp 8 p q.2 ∧ fst8 q.1 < 8 ∧ q.1 (fst8 q.1) = 1
 hr : HR 16 p (st.1.map jnP)
 vz : ∀ z ∈ st.2, Vp 8 p z
 sp : SpE 16 p (st.1.map jnP ++ st.2.map (Jn z0)) (augL g i)
theorem bas_vp (hp : 2 ≤ p) {i : Nat} (hi : i < W) : Vp W p (bas i) := ⟨fun x => by unfold bz bas; split <;> simp <;> omega, fun x hx => by unfold bas; rw [if_neg (by omega)]⟩
theorem eqB_z8 {v : By} (hv : Vp 8 p v) : eqB 8 v z0 = true ↔ v = z0 := by
 rw [eqB_iff]
 constructor
 ·intro h; funext x
  rcases Nat.lt_or_ge x 8 with hx | hx
  ·exact h x hx
  ·exact hv.2 x hx
 ·intro h x _; rw [h]
theorem redP_vp (hp : 1 ≤ p) (hp2 : p ≤ 256) {s q : By × By} (h1 : Vp 8 p s.1) (h2 : Vp 8 p s.2) : Vp 8 p (redP p s q).1 ∧ Vp 8 p (redP p s q).2 := by
 unfold redP
 split
 ·exact ⟨h1, h2⟩
 ·exact ⟨Vp.add (W := 8) hp hp2, Vp.add (W := 8) hp hp2⟩
theorem redF_vp (hp : 1 ≤ p) (hp2 : p ≤ 256) : ∀ {Q : List (By × By)} {s : By × By}, Vp 8 p s.1 → Vp 8 p s.2 → Vp 8 p (Q.foldl (redP p) s).1 ∧ Vp 8 p (Q.foldl (redP p) s).2
  | [], _, h1, h2 => ⟨h1, h2⟩
  | q :: Q, s, h1, h2 => by
    obtain ⟨a, b⟩ := redP_vp hp hp2 (q := q) h1 h2
    exact redF_vp hp hp2 (Q := Q) a b
theorem SpE.one (hp : 1 ≤ p) (hp2 : p ≤ 256) {A B : List By} {u w : By} {k l : Int} (hAB : SpE W p A B) (hA : ∀ a ∈ A, Vp W p a) (hB : ∀ a ∈ B, Vp W p a) (hu : Vp W p u) (hw : Vp W p w) {s s' : By} (hs : Sp' W p A s) (hs' : Sp' W p A s') (h1 : w = addW W p s u k) (h2 : u = addW W p s' w l) :
  SpE W p (A ++ [w]) (B ++ [u]) := by
 have subA : ∀ {C : List By} {v : By}, Sp' W p A v → Sp' W p (A ++ C) v := fun h => h.sub hp hp2 fun r hr => .mem hp hp2 (List.mem_append_left _ hr) (hA r hr)
 have subB : ∀ {C : List By} {v : By}, Sp' W p B v → Sp' W p (B ++ C) v := fun h => h.sub hp hp2 fun r hr => .mem hp hp2 (List.mem_append_left _ hr) (hB r hr)
 refine SpE.of hp hp2 (fun r hr => ?_) (fun r hr => ?_)
 ·rcases List.mem_append.1 hr with h | h
  ·exact subB ((hAB r).1 (.mem hp hp2 h (hA r h)))
  ·rw [List.mem_singleton.1 h, h1]
   exact (subB ((hAB s).1 hs)).add hp hp2 (.mem hp hp2 (by simp) hu)
 ·rcases List.mem_append.1 hr with h | h
  ·exact subA ((hAB r).2 (.mem hp hp2 h (hB r h)))
  ·rw [List.mem_singleton.1 h, h2]
   exact (subA hs').add hp hp2 (.mem hp hp2 (by simp) hw)
theorem Sp'.congr {A B : List By} (h : ∀ r, r ∈ A ↔ r ∈ B) : SpE W p A B := by
  have one : ∀ {A B : List By}, (∀ r, r ∈ A → r ∈ B) → ∀ v, Sp' W p A v → Sp' W p B v := by
    intro A B h v hv
    induction hv with
    | z => exact .z
    | a h1 h2 ih => exact .a ih (h _ h2)
  exact fun v => ⟨one (fun r => (h r).1) v, one (fun r => (h r).2) v⟩

theorem elI (hp : Pr p) {g : By} : ∀ {i : Nat}, i ≤ 8 → (∀ j, j < i → Vp 8 p (rw8 g j)) → ElI p g i (elT p g i)
  | 0, _, _ => ⟨by simp [elT], ⟨by simp [elT], by simp [elT], by simp [elT]⟩, by simp [elT], SpE.rfl'⟩
  | i + 1, hi, hg => by
    have h2 := hp.1
    have h3 := hp.2.1
    have hp1 : 1 ≤ p := by omega
    have hp2 : p ≤ 256 := by omega
    have ih := @elI hp g i (by omega) fun j hj => hg j (by omega)
    have hu1 := hg i (by omega)
    have hu2 : Vp 8 p (bas i) := bas_vp h2 (by omega)
    obtain ⟨s1, s2⟩ := redF_vp hp1 hp2 (Q := (elT p g i).1) (s := (rw8 g i, bas i)) hu1 hu2
    have hJ : jnP (elR p g (elT p g i).1 i) = byW 16 p (Jn (rw8 g i) (bas i)) ((elT p g i).1.map jnP) := redF_J fun q hq => (ih.vq q hq).2.2.1
    rw [elT_succ]
    unfold elS
    change Vp 8 p (elR p g (elT p g i).1 i).1 at s1
    change Vp 8 p (elR p g (elT p g i).1 i).2 at s2
    generalize hs : elR p g (elT p g i).1 i = s at s1 s2 hJ
    generalize hst : elT p g i = st at ih hJ
    obtain ⟨Q, Z⟩ := st
    have huv := Jn_vp hu1 hu2 hp1
    have hAv : ∀ a ∈ Q.map jnP ++ Z.map (Jn z0), Vp 16 p a := by
      intro a ha
      rcases List.mem_append.1 ha with h | h
      · exact ih.hr.vp a h
      · obtain ⟨z, hz, rfl⟩ := List.mem_map.1 h
        exact Jn_vp (Vp.z hp1) (ih.vz z hz) hp1
    have hBv : ∀ a ∈ augL g i, Vp 16 p a := by
      intro a ha
      obtain ⟨j, hj, rfl⟩ := List.mem_map.1 ha
      have hj := List.mem_range.1 hj
      exact Jn_vp (hg j (by omega)) (bas_vp h2 (by omega)) hp1
    obtain ⟨t, t1, t2, t3⟩ := byW_sp hp1 hp2 (L := Q.map jnP) (M := Q.map jnP ++ Z.map (Jn z0)) (fun q hq => List.mem_append_left _ hq) huv
    rw [← hJ] at t2 t3
    have hJs : Vp 16 p (jnP s) := Jn_vp s1 s2 hp1
    have tv := t1.vp hp1 hp2
    have comm : ∀ {a b : By}, Vp 16 p a → Vp 16 p b → addW 16 p a b 1 = addW 16 p b a 1 := fun ha hb => (Vp.add hp1 hp2).ext (Vp.add hp1 hp2) fun x hx => (cg_add' hp1 hp2 hx).trans ((cg_of_eq (by omega)).trans (cg_add' hp1 hp2 hx).symm)
    have hneg : Sp' 16 p (Q.map jnP ++ Z.map (Jn z0)) (addW 16 p z0 t (-1)) := Sp'.z.add hp1 hp2 t1
    have e1 : jnP s = addW 16 p (addW 16 p z0 t (-1)) (Jn (rw8 g i) (bas i)) 1 := by
      rw [t3]
      refine (Vp.add hp1 hp2).ext (Vp.add hp1 hp2) fun x hx => (cg_add' hp1 hp2 hx).trans (cg.symm ((cg_add' hp1 hp2 hx).trans ((cg_add (cg_add' hp1 hp2 hx) cg.rfl').trans (cg_of_eq ?_))))
      rw [bz_z0]; omega
    have e2 : Jn (rw8 g i) (bas i) = addW 16 p t (jnP s) 1 := by rw [← comm hJs tv]; exact t2
    by_cases hz : eqB 8 s.1 z0 = true
    · rw [if_pos hz]
      have hz' := (eqB_z8 s1).1 hz
      have hjs : jnP s = Jn z0 s.2 := by unfold jnP; rw [hz']
      refine ⟨ih.vq, ih.hr, fun z h => ?_, ?_⟩
      · rcases List.mem_append.1 h with h | h
        · exact ih.vz z h
        · rw [List.mem_singleton.1 h]; exact s2
      · rw [augL_succ, List.map_append, ← List.append_assoc]
        refine SpE.one hp1 hp2 (w := Jn z0 s.2) ih.sp hAv hBv huv (by rw [← hjs]; exact hJs) hneg t1 (by rw [← hjs]; exact e1) (by rw [← hjs]; exact e2)
    · rw [if_neg hz]
      have hz' : s.1 ≠ z0 := fun e => hz ((eqB_z8 s1).2 e)
      have hf : fst8 s.1 < 8 := fst_nz s1.2 hz'
      obtain ⟨v1, v2, v3, v4, v5⟩ := putV_ok hp s1 hf
      have hk2 : Vp 8 p (elK p s).2 := Vp.add (W := 8) hp1 hp2
      have hf' : fst8 (elK p s).1 < 8 := by show fst8 (putV p s.1) < 8; rw [v2]; exact hf
      have hkJ : jnP (elK p s) = addW 16 p z0 (jnP s) (((invB p (s.1 (fst8 s.1))).toNat : Nat) : Int) := by
        have e := @Jn_add p z0 z0 s.1 s.2 (((invB p (s.1 (fst8 s.1))).toNat : Nat) : Int)
        rw [Jn_z] at e
        exact e.symm
      have hvw : Vp 16 p (jnP (elK p s)) := Jn_vp v1 hk2 hp1
      have hbJ : jnP s = addW 16 p z0 (jnP (elK p s)) (bz s.1 (fst8 s.1)) := by
        have hi1 := invB_ok hp (fstW_ne (W := 8) hf) (s1.1 _)
        refine hJs.ext (Vp.add hp1 hp2) fun x hx => cg.symm ((cg_add' hp1 hp2 hx).trans ?_)
        rw [hkJ, bz_z0, Int.zero_add]
        refine (cg_mul cg.rfl' (cg_add' hp1 hp2 hx)).trans ?_
        rw [bz_z0, Int.zero_add]
        have h5 : cg p ((((invB p (s.1 (fst8 s.1))).toNat : Nat) : Int) * bz s.1 (fst8 s.1)) 1 := by
          unfold cg
          rw [show (((invB p (s.1 (fst8 s.1))).toNat : Nat) : Int) * bz s.1 (fst8 s.1) % p = 1 from hi1, Int.emod_eq_of_lt (by omega) (by omega)]
        refine cg.trans (cg_of_eq ?_) ((cg_mul h5 cg.rfl').trans (cg_of_eq (Int.one_mul (bz (jnP s) x))))
        grind
      refine ⟨fun q hq => ?_, ?_, ih.vz, ?_⟩
      · rcases List.mem_append.1 hq with h | h
        · exact ih.vq q h
        · rw [List.mem_singleton.1 h]
          exact ⟨v1, hk2, hf', by show putV p s.1 (fst8 (putV p s.1)) = 1; rw [v2]; exact v3⟩
      · rw [List.map_append]
        refine ih.hr.snoc hvw ?_ fun r hr => ?_
        · have e : fstW 16 (jnP (elK p s)) = fst8 (putV p s.1) := fst_Jn hf'
          rw [e]
          refine ⟨by rw [v2]; omega, ?_⟩
          show Jn (putV p s.1) _ (fst8 (putV p s.1)) = 1
          rw [Jn_lo (by rw [v2]; exact hf), v2]; exact v3
        · obtain ⟨q, hq, rfl⟩ := List.mem_map.1 hr
          have hq8 := (ih.vq q hq).2.2.1
          have h0 := ih.hr.left hp1 hp2 huv _ hr
          rw [← hJ] at h0
          have e : fstW 16 (jnP q) = fst8 q.1 := fst_Jn hq8
          rw [e] at h0 ⊢
          have h0' : s.1 (fst8 q.1) = 0 := by
            have : jnP s (fst8 q.1) = s.1 (fst8 q.1) := Jn_lo hq8
            rw [← this]; exact h0
          show Jn (putV p s.1) _ (fst8 q.1) = 0
          rw [Jn_lo hq8]
          exact v4 _ hq8 h0'
      · rw [augL_succ, List.map_append]
        have hperm : SpE 16 p (Q.map jnP ++ [elK p s].map jnP ++ Z.map (Jn z0)) ((Q.map jnP ++ Z.map (Jn z0)) ++ [jnP (elK p s)]) := Sp'.congr fun r => by
          simp only [List.mem_append, List.map_cons, List.map_nil, List.mem_singleton]
          constructor
          · rintro ((h | h) | h) <;> simp [h]
          · rintro ((h | h) | h) <;> simp [h]
        refine hperm.trans ?_
        have hk := hkJ
        refine SpE.one hp1 hp2 (k := (((invB p (s.1 (fst8 s.1))).toNat : Nat) : Int)) (l := bz s.1 (fst8 s.1)) (s := addW 16 p z0 t (-(((invB p (s.1 (fst8 s.1))).toNat : Nat) : Int))) (s' := t) ih.sp hAv hBv huv hvw (Sp'.z.add hp1 hp2 t1) t1 ?_ ?_
        · rw [hkJ]
          refine (Vp.add hp1 hp2).ext (Vp.add hp1 hp2) fun x hx => (cg_add' hp1 hp2 hx).trans (cg.symm ((cg_add' hp1 hp2 hx).trans ((cg_add (cg_add' hp1 hp2 hx) cg.rfl').trans ?_)))
          rw [bz_z0]
          have h6 : cg p (bz (jnP s) x) (bz (Jn (rw8 g i) (bas i)) x + -1 * bz t x) := by
            conv => lhs; rw [t3]
            exact cg_add' hp1 hp2 hx
          exact cg.trans (cg_of_eq (by grind)) (cg_add cg.rfl' (cg_mul cg.rfl' h6.symm))
        · conv => lhs; rw [e2]
          refine (Vp.add hp1 hp2).ext (Vp.add hp1 hp2) fun x hx => (cg_add' hp1 hp2 hx).trans (cg.symm ((cg_add' hp1 hp2 hx).trans ?_))
          have h6 : cg p (bz (jnP s) x) (bz s.1 (fst8 s.1) * bz (jnP (elK p s)) x) := by
            conv => lhs; rw [hbJ]
            refine (cg_add' hp1 hp2 hx).trans (cg_of_eq ?_)
            rw [bz_z0, Int.zero_add]
          exact cg_add cg.rfl' (h6.symm.trans (cg_of_eq (by omega)))

/-! ### what is left over are the solutions -/
theorem HR.app (hp : 1 ≤ p) (hp2 : p ≤ 256) {V Z : List By} (h : HR W p V) (hz : ∀ z ∈ Z, Vp W p z ∧ ∀ r ∈ V, z (fstW W r) = 0) {u : By} (hu : Sp' W p (V ++ Z) u) : Sp' W p Z (byW W p u V) := by
  have hv : ∀ w ∈ V ++ Z, Vp W p w := by
    intro w hw
    rcases List.mem_append.1 hw with h' | h'
    · exact h.vp w h'
    · exact (hz w h').1
  induction hu with
  | z => rw [byW_fix fun r _ => rfl]; exact .z
  | a h1 h2 ih =>
    rename_i u w k
    rw [byW_lin hp hp2 (fun r hr => (h.ld r hr).1) (h1.vp hp hp2) (hv _ h2)]
    rcases List.mem_append.1 h2 with h' | h'
    · rw [h.kill hp hp2 _ h', add_z hp hp2 (byW_vp hp hp2 (h1.vp hp hp2))]; exact ih
    · rw [byW_fix fun r hr => (hz _ h').2 r hr]; exact .a ih h'
theorem Jn_sp (hp : 1 ≤ p) (hp2 : p ≤ 256) {Z : List By} {u : By} (h : Sp' 16 p (Z.map (Jn z0)) u) : ∃ v, u = Jn z0 v ∧ Sp' 8 p Z v := by
  induction h with
  | z => exact ⟨z0, Jn_z.symm, .z⟩
  | a h1 h2 ih =>
    obtain ⟨v, rfl, hv⟩ := ih
    rename_i k
    obtain ⟨z, hz, rfl⟩ := List.mem_map.1 h2
    refine ⟨addW 8 p v z k, ?_, .a hv hz⟩
    rw [Jn_add, add_z hp hp2 (Vp.z hp)]
theorem Jn_sp' (hp : 1 ≤ p) (hp2 : p ≤ 256) {Z : List By} {v : By} (h : Sp' 8 p Z v) : Sp' 16 p (Z.map (Jn z0)) (Jn z0 v) := by
  induction h with
  | z => rw [Jn_z]; exact .z
  | a h1 h2 ih =>
    rename_i u w k
    have := Sp'.a (k := k) ih (List.mem_map_of_mem (f := Jn z0) h2)
    rwa [Jn_add, add_z hp hp2 (Vp.z hp)] at this
/-- what v makes of the rows -/
def imgV (n : Nat) (p : Int) (g v : By) : By := vec 8 p fun y => sm n fun i => bz v i * bz g (i * 8 + y)
theorem imgV_add (hp : 1 ≤ p) (hp2 : p ≤ 256) {n : Nat} (hn : n ≤ W) {g u w : By} {k : Int} : imgV n p g (addW W p u w k) = addW 8 p (imgV n p g u) (imgV n p g w) k := by
 refine (show Vp 8 p (imgV n p g _) from ⟨fun x => bz_vec_lt hp hp2, fun x hx => vec_out hx⟩).ext (Vp.add hp hp2) fun y hy => ?_
 refine (cg_vec hp hp2 hy).trans (cg.symm ((cg_add' hp hp2 hy).trans ((cg_add (cg_vec hp hp2 hy) (cg_mul cg.rfl' (cg_vec hp hp2 hy))).trans (cg.symm ?_))))
 rw [← sm_mul, ← sm_add]
 exact cg_sm fun i hi => (cg_mul (cg_add' hp hp2 (by omega)) cg.rfl').trans (cg_of_eq (by grind))
theorem imgV_bas (hp : 1 ≤ p) (hp2 : p ≤ 256) {n i : Nat} (hi : i < n) {g : By} (hg : Vp 8 p (rw8 g i)) : imgV n p g (bas i) = rw8 g i := by
 refine (show Vp 8 p (imgV n p g _) from ⟨fun x => bz_vec_lt hp hp2, fun x hx => vec_out hx⟩).ext hg fun y hy => ?_
 refine (cg_vec hp hp2 hy).trans (cg_of_eq ?_)
 rw [sm_bas (X := fun i => bz g (i * 8 + y)) hi]
 unfold bz rw8; rw [if_pos hy]
theorem aug_iff (hp : 2 ≤ p) (hp2 : p ≤ 256) {n : Nat} (hn : n ≤ 8) {g : By} (hg : ∀ j, j < n → Vp 8 p (rw8 g j)) {u : By} : Sp' 16 p (augL g n) u ↔ ∃ v, Vp n p v ∧ u = Jn (imgV n p g v) v := by
  have hz : imgV n p g z0 = z0 := vec_zero fun y _ => sm_zero fun i _ => by rw [bz_z0, Int.zero_mul]
  constructor
  · intro h
    induction h with
    | z => exact ⟨z0, Vp.z (by omega), by rw [hz, Jn_z]⟩
    | a h1 h2 ih =>
      rename_i u w k
      obtain ⟨v, hv, rfl⟩ := ih
      obtain ⟨i, hi, rfl⟩ := List.mem_map.1 h2
      have hi := List.mem_range.1 hi
      refine ⟨addW n p v (bas i) k, Vp.add (by omega) hp2, ?_⟩
      rw [Jn_add, imgV_add (by omega) hp2 (Nat.le_refl _), imgV_bas (by omega) hp2 hi (hg i hi), addW_w hn hv (bas_vp hp hi)]
  · rintro ⟨v, hv, rfl⟩
    have main : ∀ i, i ≤ n → ∃ w, Vp n p w ∧ (∀ x, w x = if x < i then v x else 0) ∧ Sp' 16 p (augL g n) (Jn (imgV n p g w) w) := by
      intro i
      induction i with
      | zero => exact fun _ => ⟨z0, Vp.z (by omega), fun x => by rw [if_neg (by omega)]; rfl, by rw [hz, Jn_z]; exact .z⟩
      | succ i ih =>
        intro hi
        obtain ⟨w, h1, h2, h3⟩ := ih (by omega)
        refine ⟨addW n p w (bas i) (bz v i), Vp.add (by omega) hp2, fun x => ?_, ?_⟩
        · rcases Nat.lt_or_ge x n with hx | hx
          · apply bz_inj
            show bz _ x = ((if x < i + 1 then v x else 0).toNat : Int)
            rw [bz_add (by omega) hp2 hx]
            have hvx := hv.1 x
            have hv0 : 0 ≤ bz v x := by unfold bz; omega
            by_cases e : x = i
            · subst e
              have e1 : bz w x = 0 := bz_eq0.2 (by rw [h2 x, if_neg (by omega)])
              rw [e1, show bz (bas x) x = 1 from one_bz (by unfold bas; rw [if_pos rfl]), if_pos (by omega), Int.mul_one, Int.zero_add]
              exact Int.emod_eq_of_lt hv0 hvx
            · rw [show bz (bas i) x = 0 from bz_eq0.2 (by unfold bas; rw [if_neg e]), Int.mul_zero, Int.add_zero, show bz w x = ((if x < i then v x else 0).toNat : Int) by unfold bz; rw [h2 x]]
              by_cases hlt : x < i
              · rw [if_pos hlt, if_pos (by omega)]; exact Int.emod_eq_of_lt hv0 hvx
              · rw [if_neg hlt, if_neg (by omega)]; exact Int.zero_emod p
          · rw [(Vp.add (by omega) hp2).2 x hx, if_neg (by omega)]
        · have hm : Jn (rw8 g i) (bas i) ∈ augL g n := List.mem_map_of_mem (f := fun i => Jn (rw8 g i) (bas i)) (List.mem_range.2 (by omega))
          have := Sp'.a (k := bz v i) h3 hm
          rwa [Jn_add, ← imgV_bas (by omega) hp2 (show i < n by omega) (hg i (by omega)), ← imgV_add (by omega) hp2 (Nat.le_refl _), addW_w hn h1 (bas_vp hp (by omega))] at this
    obtain ⟨w, h1, h2, h3⟩ := main n (Nat.le_refl _)
    have e : w = v := by
      funext x
      rw [h2 x]
      split
      · rfl
      · exact (hv.2 x (by omega)).symm
    rwa [e] at h3
/-- v is taken to zero by the rows of g -/
def KerM (n : Nat) (p : Int) (g v : By) : Prop := Vp n p v ∧ ∀ y, y < 8 → cg p (sm n fun i => bz v i * bz g (i * 8 + y)) 0
theorem el_iff (hp : Pr p) {n : Nat} (hn : n ≤ 8) {g : By} (hg : ∀ j, j < n → Vp 8 p (rw8 g j)) {v : By} : Sp' 8 p (elT p g n).2 v ↔ KerM n p g v := by
 have h2 := hp.1
 have h3 := hp.2.1
 have hp1 : 1 ≤ p := by omega
 have hp2 : p ≤ 256 := by omega
 have h := elI hp hn hg
 have hzz : ∀ z ∈ (elT p g n).2.map (Jn z0), Vp 16 p z ∧ ∀ r ∈ (elT p g n).1.map jnP, z (fstW 16 r) = 0 := by
  intro z hz
  obtain ⟨y, hy, rfl⟩ := List.mem_map.1 hz
  refine ⟨Jn_vp (Vp.z hp1) (h.vz y hy) hp1, fun r hr => ?_⟩
  obtain ⟨q, hq, rfl⟩ := List.mem_map.1 hr
  have hq8 := (h.vq q hq).2.2.1
  rw [show fstW 16 (jnP q) = fst8 q.1 from fst_Jn hq8, Jn_lo hq8]; rfl
 have img0 : ∀ {v : By}, imgV n p g v = z0 ↔ ∀ y, y < 8 → cg p (sm n fun i => bz v i * bz g (i * 8 + y)) 0 := by
  intro v
  constructor
  ·intro e y hy
   have := cg_vec (x := fun y => sm n fun i => bz v i * bz g (i * 8 + y)) hp1 hp2 hy
   have e' : bz (imgV n p g v) y = 0 := by rw [e]; rfl
   exact this.symm.trans (cg_of_eq e')
  ·intro hy
   exact (show Vp 8 p (imgV n p g _) from ⟨fun x => bz_vec_lt hp1 hp2, fun x hx => vec_out hx⟩).ext (Vp.z hp1) fun y hy' => (cg_vec hp1 hp2 hy').trans (hy y hy')
 have vimg : ∀ {v : By}, Vp 8 p (imgV n p g v) := ⟨fun x => bz_vec_lt hp1 hp2, fun x hx => vec_out hx⟩
 constructor
 ·intro hv
  have h4 := (Jn_sp' hp1 hp2 hv).sub hp1 hp2 (M := (elT p g n).1.map jnP ++ (elT p g n).2.map (Jn z0)) fun r hr => .mem hp1 hp2 (List.mem_append_right _ hr) (hzz r hr).1
  obtain ⟨w, hw, e⟩ := (aug_iff h2 hp2 hn hg).1 ((h.sp _).1 h4)
  obtain ⟨e1, e2⟩ := Jn_inj (Vp.z hp1) (hv.vp hp1 hp2) vimg (hw.mono hn) e
  rw [e2]
  exact ⟨hw, img0.1 e1.symm⟩
 ·rintro ⟨hv, hy⟩
  have h4 := (h.sp _).2 ((aug_iff h2 hp2 hn hg).2 ⟨v, hv, rfl⟩)
  rw [img0.2 hy] at h4
  have h5 := h.hr.app hp1 hp2 hzz h4
  rw [byW_fix fun r hr => by
   obtain ⟨q, hq, rfl⟩ := List.mem_map.1 hr
   have hq8 := (h.vq q hq).2.2.1
   rw [show fstW 16 (jnP q) = fst8 q.1 from fst_Jn hq8, Jn_lo hq8]; rfl] at h5
  obtain ⟨w, e, hw⟩ := Jn_sp hp1 hp2 h5
  obtain ⟨-, e2⟩ := Jn_inj (Vp.z hp1) (hv.mono hn) (Vp.z hp1) (hw.vp hp1 hp2) e
  rwa [e2]
end
end Hf
namespace Hf
open Go Classical
variable {P : Program} {ρ : Nat → FuncId}
def eqnL (p : Int) (n m : Nat) (co : Nat → Nat → Int) : List By := (List.range m).map fun i => vec n p (co i)
theorem eqnL_succ {p : Int} {n m : Nat} {co : Nat → Nat → Int} : eqnL p n (m + 1) co = eqnL p n m co ++ [vec n p (co m)] := by unfold eqnL; rw [List.range_succ, List.map_append]; rfl
theorem eqnL_vp {p : Int} {n m : Nat} {co : Nat → Nat → Int} (hp : 1 ≤ p) (hp2 : p ≤ 256) : ∀ v ∈ eqnL p n m co, Vp n p v := by
 intro v hv
 obtain ⟨i, -, rfl⟩ := List.mem_map.1 hv
 exact ⟨fun x => bz_vec_lt hp hp2, fun x hx => vec_out hx⟩
theorem i_kernel_ok (B : Bs P ρ) (E : F_i_kernel P ρ) {H : List Blk} {p : Int} {n m g : Nat} {caps : List (Nat × Nat)} {co : Nat → Nat → Int} {q : By} (hp : Pr p) (hn : n ≤ 8) (hm : m ≤ 100000) (hcaps : (At.fn g [] caps).lt H.length = true) (hco : ∀ G i j, Ext H G → i < m → j < n → CallR P ρ g ([.i .i64 (i : Int), .i .i64 (j : Int)] ++ caps.map (fun p => .pt p.1 p.2)) G fun u G' => u = .one (.i .i64 (co i j)) ∧ G' = G) :
  CallR P ρ 265 [.ag [p, (n : Int)] 2 q, .i .i64 (m : Int), .fn g [] caps] H (fun u G => ∃ b, u = .one b ∧ Ext H G ∧ VW H.length G b (kerL p n (eqnL p n m co))) := by
 have hp2 := hp.1
 have hp3 := hp.2.1
 refine call_of_q B.fn B.mo E.1 rfl (fun hAr hHp => ?_) (by simp only [List.all_cons, List.all_nil, hcaps]; rfl)
 refine ⟨_, rfl, ?_⟩
 refine ⟨_, _, get_new, rfl, ?_⟩
 refine ⟨_, _, get_new, rfl, ?_⟩
 refine ⟨_, i_newSystem_ok B E.2.1 , ?_⟩
 rintro _ _ ⟨rfl, rfl⟩
 have hl1 : (H ++ [(⟨false, .by [p, (n : Int)] 2 q⟩ : Blk)]).length = H.length + 1 := by simp
 rw [hl1]
 refine ⟨Unit, (fun a2 a3 a16 (i0 : Nat) (x0 : Unit) => [(2, a2), (3, a3), (7, .one (.pt (H.length + 1) 0)), (16, a16), (17, .one (.i .i64 ((i0 : Nat) : Int)))]) _ _ _ , fun (i0 : Nat) (x0 : Unit) (G0 : List Blk) => (SY (H.length + 1) G0 (H.length + 1) p 0 n (eqnL p n i0 co) [] ∧ Upto (H.length + 1) (H ++ [⟨false, .by [p, (n : Int)] 2 q⟩]) G0), m, ⟨(), ?_, ⟨rfl, rfl, rfl, rfl, rfl, trivial⟩⟩, ?_⟩
 ·refine ⟨⟨.sn, [], .sn, (by rw [← hl1]; exact get_new), .inl ⟨rfl, rfl⟩, ⟨rfl, fun i h => by simp at h⟩, .inl ⟨rfl, rfl⟩, by simp [OwnT, spB], by simp [OwnT, spB]⟩, Ext.app.upto⟩
 rintro i0 _ G0 hi0 ⟨hS0, hU0⟩
 have hb0 := hU0 H.length _ (by omega) get_new
 have hE0 : Ext H G0 := Upto.ext Ext.app hU0 (by omega)
 have hsl := hS0.len
 refine ⟨fun h18 => ?_, fun h18 => ?_⟩
 ·replace h18 := of_decide_eq_true h18
  refine ⟨_, _, hb0, rfl, ?_⟩
  refine ⟨n, _, ⟨rfl, by omega, by omega⟩, rfl, ?_⟩
  refine ⟨n, rfl, ?_⟩
  refine ⟨Unit, (fun a2 a3 a7 a8 a9 a16 a17 a24 (i1 : Nat) (x1 : Unit) => [(2, a2), (3, a3), (7, a7), (8, a8), (9, a9), (16, a16), (17, a17), (24, a24), (25, .one (.i .i64 ((i1 : Nat) : Int)))]) _ _ _ _ _ _ _ _ , fun (i1 : Nat) (x1 : Unit) (G1 : List Blk) => (∃ l, G1 = G0 ++ [⟨false, .rw l⟩] ∧ l.length = n ∧ ∀ j, j < i1 → l[j]? = some (.i .i64 (co i0 j))), n, ⟨(), ⟨_, rfl, by simp, fun j hj => by omega⟩, ⟨rfl, rfl, rfl, rfl, rfl, rfl, rfl, rfl, rfl, trivial⟩⟩, ?_⟩
  rintro i1 _ G1 hi1 ⟨l, rfl, hl, hj⟩
  refine ⟨fun h26 => ?_, fun h26 => ?_⟩
  ·replace h26 := of_decide_eq_true h26
   refine ⟨_, hco _ i0 i1 (hE0.trans Ext.app) (by omega) (by omega), ?_⟩
   rintro _ _ ⟨rfl, rfl⟩
   refine ⟨_, _, _, _, i1, i1, rfl, rfl, by omega, by omega, ?_⟩
   refine ⟨_, _, _, get_new, cput_rw (by omega) rfl, eqBk_rfl, ?_⟩
   refine ⟨((i1 + 1 : Nat) : Int), w64_id _ (by omega) (by omega), ?_⟩
   refine ⟨by omega, (), ?_, ⟨rfl, rfl, rfl, rfl, rfl, rfl, rfl, rfl, rfl, trivial⟩⟩
   refine ⟨_, app_set0, by simpa using hl, fun j hj2 => ?_⟩
   by_cases e : j = i1
   ·subst e; rw [List.getElem?_set_self (by omega)]
   ·rw [List.getElem?_set_ne (Ne.symm e)]; exact hj j (by omega)
  ·replace h26 := of_decide_eq_false h26
   have e1 : n = i1 := by omega
   subst e1
   have hVI : VI (G0 ++ [⟨false, .rw l⟩]) (.sl G0.length 0 n n) ((List.range n).map (co i0)) := by
    refine ⟨false, l, get_new, by omega, ?_⟩
    apply List.ext_getElem?
    intro j
    by_cases h : j < n
    ·rw [List.getElem?_take_of_lt h, List.drop_zero, hj j h]
     simp [h]
    ·rw [List.getElem?_eq_none (by simp; omega), List.getElem?_eq_none (by simp; omega)]
   refine ⟨_, i_system_add_ok B E.2.2.1 (p := p) (n0 := 0) (by omega) (by omega) (by omega) (hS0.ext Ext.app) hVI (by simp) (by simp [At.lt]) (by simp [eqnL]; omega) (by simp; omega), ?_⟩
   rintro _ G38 ⟨hS38, hU38⟩
   refine ⟨((i0 + 1 : Nat) : Int), w64_id _ (by omega) (by omega), ?_⟩
   refine ⟨by omega, (), ?_, ⟨rfl, rfl, rfl, rfl, rfl, trivial⟩⟩
   dsimp only
   rw [eqR_vec] at hS38
   rw [eqnL_succ]
   exact ⟨hS38, hU0.trans (Ext.app.upto.trans hU38)⟩
 ·replace h18 := of_decide_eq_false h18
  have e0 : m = i0 := by omega
  subst e0
  refine ⟨_, i_system_solve_ok B E.2.2.2.1 (p := p) (n0 := 0) (by omega) (by omega) (by omega) hS0 (by simp [eqnL]; omega) (by omega), ?_⟩
  rintro _ G41 ⟨rfl, hS41, hU41⟩
  obtain ⟨C, h1, h2, h3, h4, h5⟩ := sol_redn (n := n) hp hn (eqnL_vp (p := p) (n := n) (m := m) (co := co) (by omega) (by omega))
  rw [h2] at hS41
  have hrl := (redL_rr hp fun v hv => (eqnL_vp (p := p) (n := n) (m := m) (co := co) (by omega) (by omega) v hv).mono hn).1.len
  refine ⟨_, i_system_spaces_ok B E.2.2.2.2 hp hn hS41 h1 h3 h4 (fun a ha => by have := h5 a ha; omega) (by omega), ?_⟩
  rintro _ G43 ⟨b43, rfl, hE43, hV43⟩
  have hE41 : Ext H G41 := Upto.ext Ext.app (hU0.trans hU41) (by omega)
  exact ⟨rfl, b43, rfl, hE41.trans hE43, hV43.mono hE41.len⟩

end Hf
namespace Hf
open Go Classical
section
variable {p : Int} {W n : Nat}
/-- a combination -/
def cmF (n : Nat) (p : Int) (a : Nat → By) (x : By) : By := vec 8 p fun y => sm n fun i => bz x i * bz (a i) y
theorem cmF_vp (hp : 1 ≤ p) (hp2 : p ≤ 256) {a : Nat → By} {x : By} : Vp 8 p (cmF n p a x) := ⟨fun x => bz_vec_lt hp hp2, fun x hx => vec_out hx⟩
theorem cmF_0 {a : Nat → By} {x : By} : cmF 0 p a x = z0 := vec_zero fun y _ => rfl
theorem cmF_succ (hp : 1 ≤ p) (hp2 : p ≤ 256) {a : Nat → By} {x : By} : cmF (n + 1) p a x = addW 8 p (cmF n p a x) (a n) (bz x n) :=
 (cmF_vp hp hp2).ext (Vp.add hp hp2) fun y hy => (cg_vec hp hp2 hy).trans (cg.symm ((cg_add' hp hp2 hy).trans (cg_add (cg_vec hp hp2 hy) cg.rfl')))
theorem cmF_congr {a b : Nat → By} {x : By} (h : ∀ i, i < n → ∀ y, y < 8 → a i y = b i y) : cmF n p a x = cmF n p b x :=
 vec_congr fun y hy => cg_of_eq (sm_congr fun i hi => by unfold bz; rw [h i hi y hy])
theorem cmF_add (hp : 1 ≤ p) (hp2 : p ≤ 256) (hn : n ≤ W) {a : Nat → By} {u w : By} {k : Int} : cmF n p a (addW W p u w k) = addW 8 p (cmF n p a u) (cmF n p a w) k := by
 refine (cmF_vp hp hp2).ext (Vp.add hp hp2) fun y hy => ?_
 refine (cg_vec hp hp2 hy).trans (cg.symm ((cg_add' hp hp2 hy).trans ((cg_add (cg_vec hp hp2 hy) (cg_mul cg.rfl' (cg_vec hp hp2 hy))).trans (cg.symm ?_))))
 rw [← sm_mul, ← sm_add]
 exact cg_sm fun i hi => (cg_mul (cg_add' hp hp2 (by omega)) cg.rfl').trans (cg_of_eq (by grind))
theorem cmF_z {a : Nat → By} : cmF n p a z0 = z0 := vec_zero fun y _ => sm_zero fun i _ => by rw [bz_z0, Int.zero_mul]
theorem cmF_by (hp : 1 ≤ p) (hp2 : p ≤ 256) {B : List By} (hB : ∀ r ∈ B, fstW 8 r < 8) {a : Nat → By} {x : By} : ∀ {n : Nat}, (∀ i, i < n → Vp 8 p (a i)) → byW 8 p (cmF n p a x) B = cmF n p (fun i => byW 8 p (a i) B) x
  | 0, _ => by rw [cmF_0, cmF_0]; exact byW_fix fun r _ => rfl
  | n + 1, h => by rw [cmF_succ hp hp2, cmF_succ hp hp2, byW_lin hp hp2 hB (cmF_vp hp hp2) (h n (by omega)), cmF_by hp hp2 hB fun i hi => h i (by omega)]
theorem cmF_sp (hp : 1 ≤ p) (hp2 : p ≤ 256) {A : List By} {x : By} : ∀ {n : Nat}, n ≤ A.length → Sp' 8 p A (cmF n p (fun i => A.getD i z0) x)
  | 0, _ => by rw [cmF_0]; exact .z
  | n + 1, h => by rw [cmF_succ hp hp2]; exact .a (cmF_sp hp hp2 (by omega)) (getD_mem (by omega))
theorem sp_cmF (hp : 2 ≤ p) (hp2 : p ≤ 256) {A : List By} (hA : ∀ v ∈ A, Vp 8 p v) (hn : A.length ≤ 8) {v : By} (h : Sp' 8 p A v) : ∃ x, Vp A.length p x ∧ v = cmF A.length p (fun i => A.getD i z0) x := by
  induction h with
  | z => exact ⟨z0, Vp.z (by omega), cmF_z.symm⟩
  | a h1 h2 ih =>
    rename_i u w k
    obtain ⟨x, hx, rfl⟩ := ih
    obtain ⟨i, hi, rfl⟩ := List.mem_iff_getElem.1 h2
    refine ⟨addW A.length p x (bas i) k, Vp.add (by omega) hp2, ?_⟩
    rw [cmF_add (by omega) hp2 (Nat.le_refl _)]
    congr 1
    refine (hA _ (List.getElem_mem hi)).ext (cmF_vp (by omega) hp2) fun y hy => cg.symm ((cg_vec (by omega) hp2 hy).trans (cg_of_eq ?_))
    rw [sm_bas (X := fun i => bz (A.getD i z0) y) hi]
    simp [List.getD_eq_getElem?_getD, hi]
theorem KerM_img (hp : 1 ≤ p) (hp2 : p ≤ 256) {g x : By} : KerM n p g x ↔ Vp n p x ∧ cmF n p (fun i => rw8 g i) x = z0 := by
 refine and_congr Iff.rfl ?_
 have e : ∀ y, y < 8 → sm n (fun i => bz x i * bz (rw8 g i) y) = sm n fun i => bz x i * bz g (i * 8 + y) := fun y hy => sm_congr fun i hi => by unfold bz rw8; rw [if_pos hy]
 constructor
 ·intro h
  refine (cmF_vp hp hp2).ext (Vp.z hp) fun y hy => (cg_vec hp hp2 hy).trans ?_
  rw [e y hy]; exact h y hy
 ·intro h y hy
  have := cg_vec (x := fun y => sm n fun i => bz x i * bz (rw8 g i) y) hp hp2 hy
  have e' : bz (cmF n p (fun i => rw8 g i) x) y = 0 := by rw [h]; rfl
  rw [← e y hy]
  exact this.symm.trans (cg_of_eq e')
theorem meet_iff (hp : Pr p) {A B K : List By} {g : By} (hA : ∀ v ∈ A, Vp 8 p v) (hn : A.length ≤ 8) (hB : RR 8 p B) (hg : ∀ i, i < A.length → ∀ y, y < 8 → rw8 g i y = byW 8 p (A.getD i z0) B y) (hK : ∀ x, Sp' 8 p K x ↔ KerM A.length p g x) {v : By} :
    Sp' 8 p (K.map (cmF A.length p fun i => A.getD i z0)) v ↔ Sp' 8 p A v ∧ Sp' 8 p B v := by
  have h2 := hp.1
  have h3 := hp.2.1
  have hp1 : 1 ≤ p := by omega
  have hp2 : p ≤ 256 := by omega
  have key : ∀ x, Vp A.length p x → (KerM A.length p g x ↔ Sp' 8 p B (cmF A.length p (fun i => A.getD i z0) x)) := by
    intro x hx
    rw [KerM_img hp1 hp2, hB.in_iff hp1 hp2 (cmF_vp hp1 hp2), cmF_by hp1 hp2 hB.fs fun i hi => hA _ (getD_mem hi), cmF_congr hg]
    exact ⟨fun h => h.2, fun h => ⟨hx, h⟩⟩
  constructor
  · intro h
    refine ⟨?_, ?_⟩
    · refine h.sub hp1 hp2 fun r hr => ?_
      obtain ⟨x, hx, rfl⟩ := List.mem_map.1 hr
      exact cmF_sp hp1 hp2 (Nat.le_refl _)
    · have hKv : ∀ x, x ∈ K → Sp' 8 p B (cmF A.length p (fun i => A.getD i z0) x) := by
        intro x hx
        have : Sp' 8 p K (addW 8 p z0 x 1) := .a .z hx
        have h4 := (hK _).1 this
        have h5 := (key _ h4.1).1 h4
        have e : cmF A.length p (fun i => A.getD i z0) (addW 8 p z0 x 1) = cmF A.length p (fun i => A.getD i z0) x := by
          rw [cmF_add hp1 hp2 hn, cmF_z, z_add1 hp1 hp2 (cmF_vp hp1 hp2)]
        rwa [e] at h5
      refine h.sub hp1 hp2 fun r hr => ?_
      obtain ⟨x, hx, rfl⟩ := List.mem_map.1 hr
      exact hKv x hx
  · rintro ⟨hA', hB'⟩
    obtain ⟨x, hx, rfl⟩ := sp_cmF h2 hp2 hA hn hA'
    have hk := (hK x).2 ((key x hx).2 hB')
    clear hx hA' hB'
    induction hk with
    | z => rw [cmF_z]; exact .z
    | a q1 q2 ih => rw [cmF_add hp1 hp2 hn]; exact .a ih (List.mem_map_of_mem q2)

/-! ### integrals -/
def mI (r : Bool) (f : By) (i j k : Nat) : Int := bz f (10 + (if r = true then j * 64 + i * 8 else i * 64 + j * 8) + k) - (if k = j then bz f (522 + i) else 0)
def IntD (n : Nat) (p : Int) (r : Bool) (f v : By) : Prop := Vp n p v ∧ ∀ i, i < n → ∀ k, k < n → cg p (sm n fun j => bz v j * mI r f i j k) 0
noncomputable def intK (p : Int) (n : Nat) (r : Bool) (f : By) : List By := kerL p n (eqnL p n (n * n) fun t c => mI r f (t / n) c (t % n))
theorem intK_iff (hp : Pr p) (hn : n ≤ 8) {r : Bool} {f v : By} : Sp' 8 p (intK p n r f) v ↔ IntD n p r f v := by
 have h2 := hp.1
 have h3 := hp.2.1
 unfold intK
 rw [kerL_iff hp hn (eqnL_vp (by omega) (by omega))]
 refine and_congr Iff.rfl ?_
 have e : ∀ i k, cg p (dt n (vec n p fun c => mI r f i c k) v) (sm n fun j => bz v j * mI r f i j k) := fun i k => cg_sm fun j hj => (cg_mul (cg_vec (by omega) (by omega) hj) cg.rfl').trans (cg_of_eq (Int.mul_comm _ _))
 constructor
 ·intro h i hi k hk
  have hm : vec n p (fun c => mI r f i c k) ∈ eqnL p n (n * n) fun t c => mI r f (t / n) c (t % n) := by
   unfold eqnL
   refine List.mem_map.2 ⟨i * n + k, List.mem_range.2 ?_, ?_⟩
   ·have := Nat.mul_le_mul_right n (show i + 1 ≤ n by omega)
    rw [Nat.add_mul, Nat.one_mul] at this; omega
   ·dsimp only
    rw [show (i * n + k) / n = i by rw [Nat.mul_comm, Nat.mul_add_div (by omega), Nat.div_eq_of_lt hk, Nat.add_zero], show (i * n + k) % n = k by rw [Nat.mul_comm, Nat.mul_add_mod, Nat.mod_eq_of_lt hk]]
  exact (e i k).symm.trans (h _ hm)
 ·intro h u hu
  obtain ⟨t, ht, rfl⟩ := List.mem_map.1 hu
  have ht := List.mem_range.1 ht
  have hn0 : 0 < n := Nat.pos_of_ne_zero fun e => by subst e; simp at ht
  exact (e _ _).trans (h _ (Nat.div_lt_of_lt_mul ht) _ (Nat.mod_lt _ hn0))
theorem intK_rr (hp : Pr p) (hn : n ≤ 8) {r : Bool} {f : By} : RR 8 p (intK p n r f) := kerL_rr hp hn fun v hv => (eqnL_vp (by have := hp.1; omega) (by have := hp.2.1; omega) v hv).mono hn
/-- the integral -/
noncomputable def intV (p : Int) (n : Nat) (r : Bool) (f : By) : By := (intK p n r f).getD 0 z0
theorem whole_iff (hp : 2 ≤ p) (hp2 : p ≤ 256) (hn : n ≤ 8) {v : By} : Sp' 8 p ((List.range n).map bas) v ↔ Vp n p v := by
  constructor
  · intro h
    induction h with
    | z => exact Vp.z (by omega)
    | a h1 h2 ih =>
      obtain ⟨i, hi, rfl⟩ := List.mem_map.1 h2
      rw [addW_w hn ih (bas_vp hp (List.mem_range.1 hi))]
      exact Vp.add (by omega) hp2
  · intro hv
    have e : v = cmF n p (fun i => ((List.range n).map bas).getD i z0) v := by
      refine (hv.mono hn).ext (cmF_vp (by omega) hp2) fun y hy => cg.symm ((cg_vec (by omega) hp2 hy).trans (cg_of_eq ?_))
      have e2 : sm n (fun i => bz v i * bz (((List.range n).map bas).getD i z0) y) = sm n fun i => bz (bas y) i * bz v y := by
        refine sm_congr fun i hi => ?_
        have e3 : ((List.range n).map bas).getD i z0 = bas i := by simp [List.getD_eq_getElem?_getD, hi]
        rw [e3]
        by_cases h : i = y
        · subst h; rw [one_bz (show bas i i = 1 by unfold bas; rw [if_pos rfl])]; omega
        · rw [bz_eq0.2 (show bas i y = 0 by unfold bas; rw [if_neg (Ne.symm h)]), bz_eq0.2 (show bas y i = 0 by unfold bas; rw [if_neg h])]; simp
      rw [e2]
      rcases Nat.lt_or_ge y n with h | h
      · rw [sm_bas h]
      · rw [bz_eq0.2 (hv.2 y h)]; exact sm_zero fun i _ => Int.mul_zero _
    rw [e]
    exact cmF_sp (by omega) hp2 (by simp)
end
end Hf
namespace Hf
open Go Classical
variable {P : Program} {ρ : Nat → FuncId}
/-- a slice whose block is none of the first m, or that is full -/
def VF (m : Nat) (H : List Blk) (a : At) (L : List By) : Prop :=
 ∃ k off cap N f, a = .sl k off L.length cap ∧ H[k]? = some ⟨false, .by [] N f⟩ ∧ (off + cap * 8 ≤ N ∧ L.length ≤ cap ∧ (m ≤ k ∨ L.length = cap)) ∧ ∀ i x, i < L.length → x < 8 → f (off + i * 8 + x) = (L.getD i z0) x
theorem VF.vs {m : Nat} {H : List Blk} {a : At} {L : List By} (h : VF m H a L) : VS H a L := by
 obtain ⟨k, off, cap, N, f, h1, h2, h3, h4⟩ := h
 exact .inr ⟨k, off, cap, false, N, f, h1, h2, ⟨h3.1, h3.2.1⟩, h4⟩
theorem VF.ext {m : Nat} {H H' : List Blk} {a : At} {L : List By} (h : VF m H a L) (e : Ext H H') : VF m H' a L := by
 obtain ⟨k, off, cap, N, f, h1, h2, h3, h4⟩ := h
 exact ⟨k, off, cap, N, f, h1, e k _ h2, h3, h4⟩
theorem VF.nil {m : Nat} {H : List Blk} {f : By} : VF m (H ++ [⟨false, .by [] (0 * 8) f⟩]) (.sl H.length 0 0 0) [] :=
 ⟨H.length, 0, 0, _, f, rfl, get_new, ⟨by omega, by simp, .inr rfl⟩, fun i x h => by simp at h⟩
theorem take_getD {L : List By} {i : Nat} (h : i < L.length) : L.take (i + 1) = L.take i ++ [L.getD i z0] := by rw [List.take_add_one]; simp [h]
theorem redL_snoc {p : Int} {L : List By} {v : By} : redL p (L ++ [v]) = putL p (redL p L) v := by simp [redL, List.foldl_append]
theorem s_l01Reduce_ok (B : Bs P ρ) (E : F_s_l01Reduce P ρ) {H : List Blk} {p : Int} {a : At} {L : List By} (hp : Pr p) (hL : VS H a L) (hv : ∀ v ∈ L, Vp 8 p v) (hlen : L.length ≤ 1000000) :
  CallR P ρ 270 [.i .i64 p, a] H (fun u G => ∃ b, u = .one b ∧ Ext H G ∧ VS G b (redL p L)) := by
 have hp2 := hp.1
 have hp3 := hp.2.1
 refine call_of_q B.fn B.mo E.1 rfl (fun hAr hHp => ?_) (by simp only [List.all_cons, List.all_nil, hL.lt]; rfl)
 refine ⟨_, rfl, ?_⟩
 refine ⟨At, (fun a0 a1 (i0 : Nat) (x0 : At) => [(0, a0), (1, a1), (5, .one x0), (6, .one (.i .i64 ((i0 : Nat) : Int)))]) _ _ , fun (i0 : Nat) (x0 : At) (G0 : List Blk) => (VS G0 x0 (redL p (L.take i0)) ∧ Ext H G0), L.length, ⟨_, ⟨(VW.nil (m := 0) (Nat.zero_le _)).vs, Ext.app⟩, ⟨rfl, rfl, rfl, rfl, trivial⟩⟩, ?_⟩
 rintro i0 x0 G0 hi0 ⟨hV0, hE0⟩
 refine ⟨_, (hL).len, ?_⟩
 refine ⟨fun h11 => ?_, fun h11 => ?_⟩
 ·replace h11 := of_decide_eq_true h11
  obtain ⟨k18, o18, n18, c18, q18, ea18, hl18, hq18, r18, N18, f18, hk18, hN18, hf18⟩ := (hL.ext hE0).at i0 (by omega)
  refine ⟨k18, o18, n18, c18, i0, q18, ea18, rfl, hl18, hq18, ?_⟩
  refine ⟨_, _, _, _, _, hk18, ⟨by simp, hN18⟩, hf18, ?_⟩
  have hr := (redL_rr hp fun v h => hv v (List.mem_of_mem_take (i := i0) h)).1
  have hrl := hr.len
  refine ⟨_, s_l01Put_ok B E.2 (by omega) (by omega) hV0 hr.fs (by omega), ?_⟩
  rintro _ G20 ⟨b20, rfl, hE20, hV20⟩
  refine ⟨((i0 + 1 : Nat) : Int), w64_id _ (by omega) (by omega), ?_⟩
  refine ⟨by omega, _, ?_, ⟨rfl, rfl, rfl, rfl, trivial⟩⟩
  dsimp only
  rw [take_getD (by omega), redL_snoc]
  exact ⟨hV20, hE0.trans hE20⟩
 ·replace h11 := of_decide_eq_false h11
  have e0 : L.length = i0 := by omega
  subst e0
  exact ⟨rfl, x0, rfl, hE0, by rw [List.take_length] at hV0; exact hV0⟩

end Hf
namespace Hf
open Go Classical
theorem VS.fr {l : List Nat} {H H' : List Blk} {a : At} {L : List By} (h : VS H a L) (e : Fr l H H') (hn : ∀ k ∈ spB a, k ∉ l) : VS H' a L := by
 rcases h with h | ⟨k, off, cap, r, N, f, rfl, h2, h3, h4⟩
 ·exact .inl h
 ·exact .inr ⟨k, off, cap, r, N, f, rfl, e _ _ (hn k (by simp [spB])) h2, h3, h4⟩
theorem VW.fr {m : Nat} {l : List Nat} {H H' : List Blk} {a : At} {L : List By} (h : VW m H a L) (e : Fr l H H') (hn : blkOf a ∉ l) : VW m H' a L := by
 obtain ⟨k, off, cap, N, f, rfl, h2, h3, h4⟩ := h
 exact ⟨k, off, cap, N, f, rfl, e _ _ hn h2, h3, h4⟩
theorem VW.lt {m : Nat} {H : List Blk} {a : At} {L : List By} (h : VW m H a L) : blkOf a < H.length := by
 obtain ⟨k, off, cap, N, f, rfl, h2, h3, h4⟩ := h
 exact lt_of h2
theorem VW.sp {m : Nat} {H : List Blk} {a : At} {L : List By} (h : VW m H a L) : spB a = [blkOf a] := by
 obtain ⟨k, off, cap, N, f, rfl, h2, h3, h4⟩ := h
 rfl
/-- an append changes its own block alone -/
theorem vl_app {H : List Blk} {a b : At} {L : List By} {v : By} (hL : VW 0 H a L) (hM : VS H b [v]) (hb : L.length ≤ 1000000) :
  apB 8 8 H a b fun a' H' => VW 0 H' a' (L ++ [v]) ∧ Fr [blkOf a] H H' ∧ (blkOf a' = blkOf a ∨ blkOf a' = H.length) ∧ H.length ≤ H'.length := by
 obtain ⟨k, off, cap, N, f, e, hk, ⟨h1, h2, h3⟩, hf⟩ := hL
 have := vw_app (m := 0) (L := L) (M := [v]) ⟨k, off, cap, N, f, e, hk, ⟨h1, h2, h3⟩, hf⟩ hM (by simp; omega) (Nat.zero_le _)
 subst e
 obtain ⟨mm, g, N', f', q1, q2, q3, q4, q5⟩ := this
 refine ⟨mm, g, N', f', q1, q2, q3, fun hc => ⟨(q4 hc).1, fun j B hj e => set_other e (by intro q; subst q; exact hj (by simp [blkOf])), .inl rfl, by simp⟩, fun hc cap' hc' => ⟨(q5 hc cap' hc').1, fun j B hj e => app_old e, .inr rfl, by simp⟩⟩
theorem two_set1 {G : List Blk} {A B A' B' : Blk} : ((G ++ [A] ++ [B]).set G.length A').set (G.length + 1) B' = G ++ [A'] ++ [B'] := by simp [List.set_append]
theorem two_set2 {G : List Blk} {A B A' B' : Blk} : ((G ++ [B] ++ [A]).set (G.length + 1) A').set G.length B' = G ++ [B'] ++ [A'] := by simp [List.set_append]
theorem two_a {G : List Blk} {A B A' : Blk} : (G ++ [A] ++ [B]).set G.length A' = G ++ [A'] ++ [B] := by simp [List.set_append]
theorem two_b {G : List Blk} {A B B' : Blk} : (G ++ [A] ++ [B]).set (G.length + 1) B' = G ++ [A] ++ [B'] := by simp [List.set_append]
theorem get_new1 {G : List Blk} {A B : Blk} : (G ++ [A] ++ [B])[G.length + 1]? = some B := by simp
theorem elT_take {p : Int} {s : By × By} {Q : List (By × By)} {i : Nat} (h : i < Q.length) : (Q.take (i + 1)).foldl (redP p) s = redP p ((Q.take i).foldl (redP p) s) (Q.getD i (z0, z0)) := by
 rw [List.take_add_one, List.foldl_append]
 simp [h]
theorem map_fst_at {Q : List (By × By)} {i : Nat} (h : i < Q.length) : (Q.map (·.1)).getD i z0 = (Q.getD i (z0, z0)).1 := by simp [List.getD_eq_getElem?_getD, h]
theorem map_snd_at {Q : List (By × By)} {i : Nat} (h : i < Q.length) : (Q.map (·.2)).getD i z0 = (Q.getD i (z0, z0)).2 := by simp [List.getD_eq_getElem?_getD, h]
theorem getDp_mem {Q : List (By × By)} {i : Nat} (h : i < Q.length) : Q.getD i (z0, z0) ∈ Q := by
 rw [List.getD_eq_getElem?_getD, List.getElem?_eq_getElem h]; simp
end Hf
namespace Hf
open Go Classical
variable {P : Program} {ρ : Nat → FuncId}
set_option maxHeartbeats 2000000 in
theorem s_l01Solve_ok (B : Bs P ρ) (E : F_s_l01Solve P ρ) {H : List Blk} {p : Int} {n : Nat} {g : By} (hp : Pr p) (hn : n ≤ 8) (hg : ∀ j, j < n → Vp 8 p (rw8 g j)) :
  CallR P ρ 275 [.i .i64 p, .i .i64 (n : Int), .ag [] 64 g] H (fun u G => ∃ a b c, u = .tup [a, b, c] ∧ Ext H G ∧ VS G c (elT p g n).2) := by
 have hp2 := hp.1
 have hp3 := hp.2.1
 refine call_of_q B.fn B.mo E.1 rfl (fun hAr hHp => ?_) rfl
 refine ⟨_, rfl, ?_⟩
 refine ⟨_, rfl, ?_⟩
 refine ⟨_, rfl, ?_⟩
 refine ⟨_, rfl, ?_⟩
 refine ⟨At × At × At, (fun a0 a1 a5 (i0 : Nat) (x0 : At × At × At) => match x0 with | ⟨x, y, z⟩ => [(0, a0), (1, a1), (5, a5), (9, .one x), (10, .one y), (11, .one z), (12, .one (.i .i64 ((i0 : Nat) : Int)))]) _ _ _ , fun (i0 : Nat) (x0 : At × At × At) (G0 : List Blk) => match x0 with | ⟨x, y, z⟩ => (VW 0 G0 x ((elT p g i0).1.map (·.1)) ∧ VW 0 G0 y ((elT p g i0).1.map (·.2)) ∧ VW 0 G0 z (elT p g i0).2 ∧ (blkOf x ≠ blkOf y ∧ blkOf x ≠ blkOf z ∧ blkOf y ≠ blkOf z ∧ H.length < blkOf x ∧ H.length < blkOf y ∧ H.length < blkOf z) ∧ Upto (H.length + 1) (H ++ [⟨false, .by [] 64 g⟩]) G0), n, ⟨(_, _, _), ?_, ⟨rfl, rfl, rfl, rfl, rfl, rfl, rfl, trivial⟩⟩, ?_⟩
 ·refine ⟨((VW.nil (Nat.zero_le _)).ext Ext.app).ext Ext.app, (VW.nil (Nat.zero_le _)).ext Ext.app, VW.nil (Nat.zero_le _), by simp [blkOf], (Ext.app.trans (Ext.app.trans Ext.app)).upto⟩
 rintro i0 ⟨x, y, z⟩ G0 hi0 ⟨hX, hY, hZ, hD, hU0⟩
 have hb := hU0 H.length _ (by omega) get_new
 have hxl := hX.lt
 have hyl := hY.lt
 have hzl := hZ.lt
 have hql := @elT_len p g i0
 obtain ⟨hD1, hD2, hD3, hD4, hD5, hD6⟩ := hD
 refine ⟨fun h24 => ?_, fun h24 => ?_⟩
 ·replace h24 := of_decide_eq_true h24
  have hI := elI hp (show i0 ≤ 8 by omega) fun j hj => hg j (by omega)
  have hsv := redF_vp (p := p) (by omega) (by omega) (Q := (elT p g i0).1) (s := (rw8 g i0, bas i0)) (hg i0 (by omega)) (bas_vp (by omega) (by omega))
  have hsc := @elT_succ p g i0
  refine ⟨i0, _, rfl, by omega, rfl, ?_⟩
  refine ⟨_, _, _, _, rw8 g i0, hb, ⟨by simp, by omega⟩, fun x hx => by rw [rw8, if_pos hx]; congr 1; omega, ?_⟩
  refine ⟨_, s_l01Basis_ok B E.2.1 (by omega), rfl, ?_⟩
  refine ⟨?_, ?_⟩
  ·skip
   refine ⟨_, rfl, ⟨kept1 hb (app_old hb), trivial⟩, ?_⟩
   refine ⟨G0.length + 1, by simp, ⟨kept1 (app_old hb) (app_old (app_old hb)), trivial⟩, ?_⟩
   refine ⟨_, _, _, app_old get_new, cputs_by (by simp) (by omega), eqBk_rfl, ?_⟩
   refine ⟨_, _, _, by rw [two_a]; exact get_new1, cputs_by (by simp) (by omega), eqBk_rfl, ?_⟩
   rw [two_set1]
   refine ⟨Unit, (fun a0 a1 a5 a9 a10 a11 a12 a13 a14 (i1 : Nat) (x1 : Unit) => [(0, a0), (1, a1), (5, a5), (9, a9), (10, a10), (11, a11), (12, a12), (13, a13), (14, a14), (15, .one (.i .i64 ((i1 : Nat) : Int)))]) _ _ _ _ _ _ _ _ _ , fun (i1 : Nat) (x1 : Unit) (G1 : List Blk) => (∃ w1 w2, G1 = G0 ++ [⟨false, .by [] 8 w1⟩] ++ [⟨false, .by [] 8 w2⟩] ∧ (∀ y, y < 8 → w1 y = (((elT p g i0).1.take i1).foldl (redP p) (rw8 g i0, bas i0)).1 y) ∧ ∀ y, y < 8 → w2 y = (((elT p g i0).1.take i1).foldl (redP p) (rw8 g i0, bas i0)).2 y), (elT p g i0).1.length, ⟨(), ⟨_, _, rfl, fun y hy => by simp [spl, hy], fun y hy => by simp [spl, hy]⟩, ⟨rfl, rfl, rfl, rfl, rfl, rfl, rfl, rfl, rfl, rfl, trivial⟩⟩, ?_⟩
   rintro i1 _ G1 hi1 ⟨w1, w2, rfl, hw1, hw2⟩
   have hXl : VS G0 x ((elT p g i0).1.map (·.1)) := hX.vs
   have hYl : VS G0 y ((elT p g i0).1.map (·.2)) := hY.vs
   refine ⟨(elT p g i0).1.length, by rw [hX.vs.len, List.length_map], ?_⟩
   refine ⟨fun h35 => ?_, fun h35 => ?_⟩
   ·replace h35 := of_decide_eq_true h35
    have hqm := hI.vq _ (getDp_mem (show i1 < (elT p g i0).1.length by omega))
    have hf8 := hqm.2.2.1
    have hmf := map_fst_at (show i1 < (elT p g i0).1.length by omega)
    have hms := map_snd_at (show i1 < (elT p g i0).1.length by omega)
    obtain ⟨k40, o40, n40, c40, q40, ea40, hl40, hq40, r40, N40, f40, hk40, hN40, hf40⟩ := (hXl.ext (Ext.app.trans Ext.app)).at i1 (by rw [List.length_map]; omega)
    refine ⟨k40, o40, n40, c40, i1, q40, ea40, rfl, hl40, hq40, ?_⟩
    refine ⟨_, _, _, _, ((elT p g i0).1.getD i1 (z0, z0)).1, hk40, ⟨by simp, hN40⟩, fun y hy => by rw [← hmf]; exact hf40 y hy, ?_⟩
    refine ⟨_, s_l01First_ok B E.2.2.1 , rfl, ?_⟩
    refine ⟨fst8 ((elT p g i0).1.getD i1 (z0, z0)).1, _, rfl, hf8, rfl, ?_⟩
    refine ⟨_, .u (w1 (fst8 ((elT p g i0).1.getD i1 (z0, z0)).1)), (app_old get_new), (by rw [show 0 + fst8 ((elT p g i0).1.getD i1 (z0, z0)).1 * 1 = fst8 ((elT p g i0).1.getD i1 (z0, z0)).1 by omega]; exact cat_u (by omega)), ?_⟩
    refine ⟨fun h46 => ?_, fun h46 => ?_⟩
    ·replace h46 := bne_t h46
     refine ⟨fst8 ((elT p g i0).1.getD i1 (z0, z0)).1, _, rfl, hf8, rfl, ?_⟩
     refine ⟨_, .u (w1 (fst8 ((elT p g i0).1.getD i1 (z0, z0)).1)), (app_old get_new), (by rw [show 0 + fst8 ((elT p g i0).1.getD i1 (z0, z0)).1 * 1 = fst8 ((elT p g i0).1.getD i1 (z0, z0)).1 by omega]; exact cat_u (by omega)), ?_⟩
     have hxb := toNat_le (w1 (fst8 ((elT p g i0).1.getD i1 (z0, z0)).1))
     refine ⟨_, w64_id _ (by omega) (by omega), ?_⟩
     refine ⟨_, _, _, _, (((elT p g i0).1.take i1).foldl (redP p) (rw8 g i0, bas i0)).1, (app_old get_new), ⟨by simp, by omega⟩, fun y hy => by rw [Nat.zero_add]; exact (hw1 y hy).symm, ?_⟩
     obtain ⟨k56, o56, n56, c56, q56, ea56, hl56, hq56, r56, N56, f56, hk56, hN56, hf56⟩ := (hXl.ext (Ext.app.trans Ext.app)).at i1 (by rw [List.length_map]; omega)
     refine ⟨k56, o56, n56, c56, i1, q56, ea56, rfl, hl56, hq56, ?_⟩
     refine ⟨_, _, _, _, ((elT p g i0).1.getD i1 (z0, z0)).1, hk56, ⟨by simp, hN56⟩, fun y hy => by rw [← hmf]; exact hf56 y hy, ?_⟩
     refine ⟨_, s_l01Add_ok B E.2.2.2.1 (by omega) (by omega) (by omega) (by omega), rfl, ?_⟩
     refine ⟨_, _, _, (app_old get_new), cputs_by (by simp) (by omega), eqBk_rfl, ?_⟩
     rw [two_a]
     refine ⟨_, _, _, _, (((elT p g i0).1.take i1).foldl (redP p) (rw8 g i0, bas i0)).2, get_new1, ⟨by simp, by omega⟩, fun y hy => by rw [Nat.zero_add]; exact (hw2 y hy).symm, ?_⟩
     obtain ⟨k64, o64, n64, c64, q64, ea64, hl64, hq64, r64, N64, f64, hk64, hN64, hf64⟩ := (hYl.ext (Ext.app.trans Ext.app)).at i1 (by rw [List.length_map]; omega)
     refine ⟨k64, o64, n64, c64, i1, q64, ea64, rfl, hl64, hq64, ?_⟩
     refine ⟨_, _, _, _, ((elT p g i0).1.getD i1 (z0, z0)).2, hk64, ⟨by simp, hN64⟩, fun y hy => by rw [← hms]; exact hf64 y hy, ?_⟩
     refine ⟨_, s_l01Add_ok B E.2.2.2.1 (by omega) (by omega) (by omega) (by omega), rfl, ?_⟩
     refine ⟨_, _, _, get_new1, cputs_by (by simp) (by omega), eqBk_rfl, ?_⟩
     rw [two_b]
     refine ⟨((i1 + 1 : Nat) : Int), w64_id _ (by omega) (by omega), ?_⟩
     refine ⟨by omega, (), ?_, ⟨rfl, rfl, rfl, rfl, rfl, rfl, rfl, rfl, rfl, rfl, trivial⟩⟩
     refine ⟨_, _, rfl, fun y hy => ?_, fun y hy => ?_⟩
     ·rw [elT_take (by omega), redP, if_neg (by rw [← hw1 _ hf8]; exact h46), ← show bz w1 (fst8 ((elT p g i0).1.getD i1 (z0, z0)).1) = bz ((((elT p g i0).1.take i1).foldl (redP p) (rw8 g i0, bas i0)).1) (fst8 ((elT p g i0).1.getD i1 (z0, z0)).1) from by unfold bz; rw [hw1 _ hf8]]
      simp [spl, hy, addV, bz]
     ·rw [elT_take (by omega), redP, if_neg (by rw [← hw1 _ hf8]; exact h46), ← show bz w1 (fst8 ((elT p g i0).1.getD i1 (z0, z0)).1) = bz ((((elT p g i0).1.take i1).foldl (redP p) (rw8 g i0, bas i0)).1) (fst8 ((elT p g i0).1.getD i1 (z0, z0)).1) from by unfold bz; rw [hw1 _ hf8]]
      simp [spl, hy, addV, bz]
    ·replace h46 := bne_f h46
     refine ⟨((i1 + 1 : Nat) : Int), w64_id _ (by omega) (by omega), ?_⟩
     refine ⟨by omega, (), ?_, ⟨rfl, rfl, rfl, rfl, rfl, rfl, rfl, rfl, rfl, rfl, trivial⟩⟩
     refine ⟨_, _, rfl, fun y hy => ?_, fun y hy => ?_⟩
     ·rw [elT_take (by omega), redP, if_pos (by rw [← hw1 _ hf8]; exact h46)]; exact hw1 y hy
     ·rw [elT_take (by omega), redP, if_pos (by rw [← hw1 _ hf8]; exact h46)]; exact hw2 y hy
   ·replace h35 := of_decide_eq_false h35
    have e1 : (elT p g i0).1.length = i1 := by omega
    subst e1
    rw [List.take_length] at hw1 hw2
    refine ⟨_, _, _, _, (elR p g (elT p g i0).1 i0).1, (app_old get_new), ⟨by simp, by omega⟩, fun y hy => by rw [Nat.zero_add]; exact (hw1 y hy).symm, ?_⟩
    refine ⟨_, s_l01Zero_ok B E.2.2.2.2.1 , rfl, ?_⟩
    refine ⟨fun h69 => ?_, fun h69 => ?_⟩
    ·skip
     have hst : elT p g (i0 + 1) = ((elT p g i0).1, (elT p g i0).2 ++ [(elR p g (elT p g i0).1 i0).2]) := by rw [hsc]; unfold elS; exact if_pos h69
     refine ⟨_, _, _, _, (elR p g (elT p g i0).1 i0).2, get_new1, ⟨by simp, by omega⟩, fun y hy => by rw [Nat.zero_add]; exact (hw2 y hy).symm, ?_⟩
     refine ⟨_, rfl, ?_⟩
     refine ⟨_, vl_app (((hZ.ext Ext.app).ext Ext.app).ext Ext.app) VS.one (by omega), ?_⟩
     rintro a73 G73 ⟨hv73, hfr73, hb73, hl73⟩
     refine ⟨((i0 + 1 : Nat) : Int), w64_id _ (by omega) (by omega), ?_⟩
     refine ⟨by omega, (x, y, a73), ?_, ⟨rfl, rfl, rfl, rfl, rfl, rfl, rfl, trivial⟩⟩
     dsimp only
     rw [hst]
     simp only [List.length_append, List.length_singleton] at hb73 hl73
     refine ⟨(((hX.ext Ext.app).ext Ext.app).ext Ext.app).fr hfr73 (by simp; omega), (((hY.ext Ext.app).ext Ext.app).ext Ext.app).fr hfr73 (by simp; omega), hv73, ?_, ?_⟩
     ·rcases hb73 with h | h <;> refine ⟨?_, ?_, ?_, ?_, ?_, ?_⟩ <;> omega
     ·exact hU0.trans ((Ext.app.trans (Ext.app.trans Ext.app)).upto.trans (hfr73.upto fun k hk => by simp at hk; omega))
    ·skip
     have hst : elT p g (i0 + 1) = ((elT p g i0).1 ++ [elK p (elR p g (elT p g i0).1 i0)], (elT p g i0).2) := by rw [hsc]; unfold elS; exact if_neg (by rw [show (fun _ => 0 : By) = z0 from rfl] at h69; rw [h69]; simp)
     have hnz : (elR p g (elT p g i0).1 i0).1 ≠ z0 := fun e => by
      have : eqB 8 (elR p g (elT p g i0).1 i0).1 z0 = true := (eqB_z8 hsv.1).2 e
      rw [show (fun _ => 0 : By) = z0 from rfl, this] at h69; cases h69
     have hfr : fst8 (elR p g (elT p g i0).1 i0).1 < 8 := fst_nz hsv.1.2 hnz
     refine ⟨_, _, _, _, (elR p g (elT p g i0).1 i0).1, (app_old get_new), ⟨by simp, by omega⟩, fun y hy => by rw [Nat.zero_add]; exact (hw1 y hy).symm, ?_⟩
     refine ⟨_, s_l01First_ok B E.2.2.1 , rfl, ?_⟩
     refine ⟨fst8 (elR p g (elT p g i0).1 i0).1, _, rfl, hfr, rfl, ?_⟩
     refine ⟨_, .u ((elR p g (elT p g i0).1 i0).1 (fst8 (elR p g (elT p g i0).1 i0).1)), (app_old get_new), (by rw [show 0 + fst8 (elR p g (elT p g i0).1 i0).1 * 1 = fst8 (elR p g (elT p g i0).1 i0).1 by omega, cat_u (by omega), hw1 _ hfr]; rfl), ?_⟩
     refine ⟨.one (.u (invB p ((elR p g (elT p g i0).1 i0).1 (fst8 (elR p g (elT p g i0).1 i0).1)))), s_l01Inverse_ok B E.2.2.2.2.2 (by omega) (by omega), rfl, ?_⟩
     have hxi := toNat_le (invB p ((elR p g (elT p g i0).1 i0).1 (fst8 (elR p g (elT p g i0).1 i0).1)))
     refine ⟨_, _, _, _, (elR p g (elT p g i0).1 i0).1, (app_old get_new), ⟨by simp, by omega⟩, fun y hy => by rw [Nat.zero_add]; exact (hw1 y hy).symm, ?_⟩
     refine ⟨_, s_l01Add_ok B E.2.2.2.1 (by omega) (by omega) (by omega) (by omega), rfl, ?_⟩
     refine ⟨_, rfl, ?_⟩
     refine ⟨_, vl_app (((hX.ext Ext.app).ext Ext.app).ext Ext.app) VS.one (by rw [List.length_map]; omega), ?_⟩
     rintro a88 G88 ⟨hv88, hfr88, hb88, hl88⟩
     refine ⟨_, _, _, _, (elR p g (elT p g i0).1 i0).2, hfr88 _ _ (by simp; omega) (app_old get_new1), ⟨by simp, by omega⟩, fun y hy => by rw [Nat.zero_add]; exact (hw2 y hy).symm, ?_⟩
     refine ⟨_, s_l01Add_ok B E.2.2.2.1 (by omega) (by omega) (by omega) (by omega), rfl, ?_⟩
     refine ⟨_, rfl, ?_⟩
     refine ⟨_, vl_app ((((((hY.ext Ext.app).ext Ext.app).ext Ext.app).fr hfr88 (by simp; omega))).ext Ext.app) VS.one (by rw [List.length_map]; omega), ?_⟩
     rintro a96 G96 ⟨hv96, hfr96, hb96, hl96⟩
     refine ⟨((i0 + 1 : Nat) : Int), w64_id _ (by omega) (by omega), ?_⟩
     refine ⟨by omega, (a88, a96, z), ?_, ⟨rfl, rfl, rfl, rfl, rfl, rfl, rfl, trivial⟩⟩
     dsimp only
     rw [hst]
     have hl88' := hv88.lt
     simp only [List.length_append, List.length_singleton] at hb88 hl88 hb96 hl96
     refine ⟨?_, ?_, ?_, ?_, ?_⟩
     ·rw [List.map_append]; exact (hv88.ext Ext.app).fr hfr96 (by simp; omega)
     ·rw [List.map_append]; exact hv96
     ·exact (((((hZ.ext Ext.app).ext Ext.app).ext Ext.app).fr hfr88 (by simp; omega)).ext Ext.app).fr hfr96 (by simp; omega)
     ·rcases hb88 with h | h <;> rcases hb96 with h' | h' <;> refine ⟨?_, ?_, ?_, ?_, ?_, ?_⟩ <;> omega
     ·exact hU0.trans ((Ext.app.trans (Ext.app.trans Ext.app)).upto.trans ((hfr88.upto fun k hk => by simp at hk; omega).trans (Ext.app.upto.trans (hfr96.upto fun k hk => by simp at hk; omega))))
  ·skip
   refine ⟨_, rfl, ⟨kept1 hb (app_old hb), trivial⟩, ?_⟩
   refine ⟨G0.length + 1, by simp, ⟨kept1 (app_old hb) (app_old (app_old hb)), trivial⟩, ?_⟩
   refine ⟨_, _, _, get_new1, cputs_by (by simp) (by omega), eqBk_rfl, ?_⟩
   refine ⟨_, _, _, by rw [two_b]; exact app_old get_new, cputs_by (by simp) (by omega), eqBk_rfl, ?_⟩
   rw [two_set2]
   refine ⟨Unit, (fun a0 a1 a5 a9 a10 a11 a12 a13 a14 (i2 : Nat) (x2 : Unit) => [(0, a0), (1, a1), (5, a5), (9, a9), (10, a10), (11, a11), (12, a12), (13, a13), (14, a14), (15, .one (.i .i64 ((i2 : Nat) : Int)))]) _ _ _ _ _ _ _ _ _ , fun (i2 : Nat) (x2 : Unit) (G2 : List Blk) => (∃ w1 w2, G2 = G0 ++ [⟨false, .by [] 8 w2⟩] ++ [⟨false, .by [] 8 w1⟩] ∧ (∀ y, y < 8 → w1 y = (((elT p g i0).1.take i2).foldl (redP p) (rw8 g i0, bas i0)).1 y) ∧ ∀ y, y < 8 → w2 y = (((elT p g i0).1.take i2).foldl (redP p) (rw8 g i0, bas i0)).2 y), (elT p g i0).1.length, ⟨(), ⟨_, _, rfl, fun y hy => by simp [spl, hy], fun y hy => by simp [spl, hy]⟩, ⟨rfl, rfl, rfl, rfl, rfl, rfl, rfl, rfl, rfl, rfl, trivial⟩⟩, ?_⟩
   rintro i2 _ G2 hi2 ⟨w1, w2, rfl, hw1, hw2⟩
   have hXl : VS G0 x ((elT p g i0).1.map (·.1)) := hX.vs
   have hYl : VS G0 y ((elT p g i0).1.map (·.2)) := hY.vs
   refine ⟨(elT p g i0).1.length, by rw [hX.vs.len, List.length_map], ?_⟩
   refine ⟨fun h35 => ?_, fun h35 => ?_⟩
   ·replace h35 := of_decide_eq_true h35
    have hqm := hI.vq _ (getDp_mem (show i2 < (elT p g i0).1.length by omega))
    have hf8 := hqm.2.2.1
    have hmf := map_fst_at (show i2 < (elT p g i0).1.length by omega)
    have hms := map_snd_at (show i2 < (elT p g i0).1.length by omega)
    obtain ⟨k40, o40, n40, c40, q40, ea40, hl40, hq40, r40, N40, f40, hk40, hN40, hf40⟩ := (hXl.ext (Ext.app.trans Ext.app)).at i2 (by rw [List.length_map]; omega)
    refine ⟨k40, o40, n40, c40, i2, q40, ea40, rfl, hl40, hq40, ?_⟩
    refine ⟨_, _, _, _, ((elT p g i0).1.getD i2 (z0, z0)).1, hk40, ⟨by simp, hN40⟩, fun y hy => by rw [← hmf]; exact hf40 y hy, ?_⟩
    refine ⟨_, s_l01First_ok B E.2.2.1 , rfl, ?_⟩
    refine ⟨fst8 ((elT p g i0).1.getD i2 (z0, z0)).1, _, rfl, hf8, rfl, ?_⟩
    refine ⟨_, .u (w1 (fst8 ((elT p g i0).1.getD i2 (z0, z0)).1)), get_new1, (by rw [show 0 + fst8 ((elT p g i0).1.getD i2 (z0, z0)).1 * 1 = fst8 ((elT p g i0).1.getD i2 (z0, z0)).1 by omega]; exact cat_u (by omega)), ?_⟩
    refine ⟨fun h46 => ?_, fun h46 => ?_⟩
    ·replace h46 := bne_t h46
     refine ⟨fst8 ((elT p g i0).1.getD i2 (z0, z0)).1, _, rfl, hf8, rfl, ?_⟩
     refine ⟨_, .u (w1 (fst8 ((elT p g i0).1.getD i2 (z0, z0)).1)), get_new1, (by rw [show 0 + fst8 ((elT p g i0).1.getD i2 (z0, z0)).1 * 1 = fst8 ((elT p g i0).1.getD i2 (z0, z0)).1 by omega]; exact cat_u (by omega)), ?_⟩
     have hxb := toNat_le (w1 (fst8 ((elT p g i0).1.getD i2 (z0, z0)).1))
     refine ⟨_, w64_id _ (by omega) (by omega), ?_⟩
     refine ⟨_, _, _, _, (((elT p g i0).1.take i2).foldl (redP p) (rw8 g i0, bas i0)).1, get_new1, ⟨by simp, by omega⟩, fun y hy => by rw [Nat.zero_add]; exact (hw1 y hy).symm, ?_⟩
     obtain ⟨k56, o56, n56, c56, q56, ea56, hl56, hq56, r56, N56, f56, hk56, hN56, hf56⟩ := (hXl.ext (Ext.app.trans Ext.app)).at i2 (by rw [List.length_map]; omega)
     refine ⟨k56, o56, n56, c56, i2, q56, ea56, rfl, hl56, hq56, ?_⟩
     refine ⟨_, _, _, _, ((elT p g i0).1.getD i2 (z0, z0)).1, hk56, ⟨by simp, hN56⟩, fun y hy => by rw [← hmf]; exact hf56 y hy, ?_⟩
     refine ⟨_, s_l01Add_ok B E.2.2.2.1 (by omega) (by omega) (by omega) (by omega), rfl, ?_⟩
     refine ⟨_, _, _, get_new1, cputs_by (by simp) (by omega), eqBk_rfl, ?_⟩
     rw [two_b]
     refine ⟨_, _, _, _, (((elT p g i0).1.take i2).foldl (redP p) (rw8 g i0, bas i0)).2, (app_old get_new), ⟨by simp, by omega⟩, fun y hy => by rw [Nat.zero_add]; exact (hw2 y hy).symm, ?_⟩
     obtain ⟨k64, o64, n64, c64, q64, ea64, hl64, hq64, r64, N64, f64, hk64, hN64, hf64⟩ := (hYl.ext (Ext.app.trans Ext.app)).at i2 (by rw [List.length_map]; omega)
     refine ⟨k64, o64, n64, c64, i2, q64, ea64, rfl, hl64, hq64, ?_⟩
     refine ⟨_, _, _, _, ((elT p g i0).1.getD i2 (z0, z0)).2, hk64, ⟨by simp, hN64⟩, fun y hy => by rw [← hms]; exact hf64 y hy, ?_⟩
     refine ⟨_, s_l01Add_ok B E.2.2.2.1 (by omega) (by omega) (by omega) (by omega), rfl, ?_⟩
     refine ⟨_, _, _, (app_old get_new), cputs_by (by simp) (by omega), eqBk_rfl, ?_⟩
     rw [two_a]
     refine ⟨((i2 + 1 : Nat) : Int), w64_id _ (by omega) (by omega), ?_⟩
     refine ⟨by omega, (), ?_, ⟨rfl, rfl, rfl, rfl, rfl, rfl, rfl, rfl, rfl, rfl, trivial⟩⟩
     refine ⟨_, _, rfl, fun y hy => ?_, fun y hy => ?_⟩
     ·rw [elT_take (by omega), redP, if_neg (by rw [← hw1 _ hf8]; exact h46), ← show bz w1 (fst8 ((elT p g i0).1.getD i2 (z0, z0)).1) = bz ((((elT p g i0).1.take i2).foldl (redP p) (rw8 g i0, bas i0)).1) (fst8 ((elT p g i0).1.getD i2 (z0, z0)).1) from by unfold bz; rw [hw1 _ hf8]]
      simp [spl, hy, addV, bz]
     ·rw [elT_take (by omega), redP, if_neg (by rw [← hw1 _ hf8]; exact h46), ← show bz w1 (fst8 ((elT p g i0).1.getD i2 (z0, z0)).1) = bz ((((elT p g i0).1.take i2).foldl (redP p) (rw8 g i0, bas i0)).1) (fst8 ((elT p g i0).1.getD i2 (z0, z0)).1) from by unfold bz; rw [hw1 _ hf8]]
      simp [spl, hy, addV, bz]
    ·replace h46 := bne_f h46
     refine ⟨((i2 + 1 : Nat) : Int), w64_id _ (by omega) (by omega), ?_⟩
     refine ⟨by omega, (), ?_, ⟨rfl, rfl, rfl, rfl, rfl, rfl, rfl, rfl, rfl, rfl, trivial⟩⟩
     refine ⟨_, _, rfl, fun y hy => ?_, fun y hy => ?_⟩
     ·rw [elT_take (by omega), redP, if_pos (by rw [← hw1 _ hf8]; exact h46)]; exact hw1 y hy
     ·rw [elT_take (by omega), redP, if_pos (by rw [← hw1 _ hf8]; exact h46)]; exact hw2 y hy
   ·replace h35 := of_decide_eq_false h35
    have e2 : (elT p g i0).1.length = i2 := by omega
    subst e2
    rw [List.take_length] at hw1 hw2
    refine ⟨_, _, _, _, (elR p g (elT p g i0).1 i0).1, get_new1, ⟨by simp, by omega⟩, fun y hy => by rw [Nat.zero_add]; exact (hw1 y hy).symm, ?_⟩
    refine ⟨_, s_l01Zero_ok B E.2.2.2.2.1 , rfl, ?_⟩
    refine ⟨fun h69 => ?_, fun h69 => ?_⟩
    ·skip
     have hst : elT p g (i0 + 1) = ((elT p g i0).1, (elT p g i0).2 ++ [(elR p g (elT p g i0).1 i0).2]) := by rw [hsc]; unfold elS; exact if_pos h69
     refine ⟨_, _, _, _, (elR p g (elT p g i0).1 i0).2, (app_old get_new), ⟨by simp, by omega⟩, fun y hy => by rw [Nat.zero_add]; exact (hw2 y hy).symm, ?_⟩
     refine ⟨_, rfl, ?_⟩
     refine ⟨_, vl_app (((hZ.ext Ext.app).ext Ext.app).ext Ext.app) VS.one (by omega), ?_⟩
     rintro a73 G73 ⟨hv73, hfr73, hb73, hl73⟩
     refine ⟨((i0 + 1 : Nat) : Int), w64_id _ (by omega) (by omega), ?_⟩
     refine ⟨by omega, (x, y, a73), ?_, ⟨rfl, rfl, rfl, rfl, rfl, rfl, rfl, trivial⟩⟩
     dsimp only
     rw [hst]
     simp only [List.length_append, List.length_singleton] at hb73 hl73
     refine ⟨(((hX.ext Ext.app).ext Ext.app).ext Ext.app).fr hfr73 (by simp; omega), (((hY.ext Ext.app).ext Ext.app).ext Ext.app).fr hfr73 (by simp; omega), hv73, ?_, ?_⟩
     ·rcases hb73 with h | h <;> refine ⟨?_, ?_, ?_, ?_, ?_, ?_⟩ <;> omega
     ·exact hU0.trans ((Ext.app.trans (Ext.app.trans Ext.app)).upto.trans (hfr73.upto fun k hk => by simp at hk; omega))
    ·skip
     have hst : elT p g (i0 + 1) = ((elT p g i0).1 ++ [elK p (elR p g (elT p g i0).1 i0)], (elT p g i0).2) := by rw [hsc]; unfold elS; exact if_neg (by rw [show (fun _ => 0 : By) = z0 from rfl] at h69; rw [h69]; simp)
     have hnz : (elR p g (elT p g i0).1 i0).1 ≠ z0 := fun e => by
      have : eqB 8 (elR p g (elT p g i0).1 i0).1 z0 = true := (eqB_z8 hsv.1).2 e
      rw [show (fun _ => 0 : By) = z0 from rfl, this] at h69; cases h69
     have hfr : fst8 (elR p g (elT p g i0).1 i0).1 < 8 := fst_nz hsv.1.2 hnz
     refine ⟨_, _, _, _, (elR p g (elT p g i0).1 i0).1, get_new1, ⟨by simp, by omega⟩, fun y hy => by rw [Nat.zero_add]; exact (hw1 y hy).symm, ?_⟩
     refine ⟨_, s_l01First_ok B E.2.2.1 , rfl, ?_⟩
     refine ⟨fst8 (elR p g (elT p g i0).1 i0).1, _, rfl, hfr, rfl, ?_⟩
     refine ⟨_, .u ((elR p g (elT p g i0).1 i0).1 (fst8 (elR p g (elT p g i0).1 i0).1)), get_new1, (by rw [show 0 + fst8 (elR p g (elT p g i0).1 i0).1 * 1 = fst8 (elR p g (elT p g i0).1 i0).1 by omega, cat_u (by omega), hw1 _ hfr]; rfl), ?_⟩
     refine ⟨.one (.u (invB p ((elR p g (elT p g i0).1 i0).1 (fst8 (elR p g (elT p g i0).1 i0).1)))), s_l01Inverse_ok B E.2.2.2.2.2 (by omega) (by omega), rfl, ?_⟩
     have hxi := toNat_le (invB p ((elR p g (elT p g i0).1 i0).1 (fst8 (elR p g (elT p g i0).1 i0).1)))
     refine ⟨_, _, _, _, (elR p g (elT p g i0).1 i0).1, get_new1, ⟨by simp, by omega⟩, fun y hy => by rw [Nat.zero_add]; exact (hw1 y hy).symm, ?_⟩
     refine ⟨_, s_l01Add_ok B E.2.2.2.1 (by omega) (by omega) (by omega) (by omega), rfl, ?_⟩
     refine ⟨_, rfl, ?_⟩
     refine ⟨_, vl_app (((hX.ext Ext.app).ext Ext.app).ext Ext.app) VS.one (by rw [List.length_map]; omega), ?_⟩
     rintro a88 G88 ⟨hv88, hfr88, hb88, hl88⟩
     refine ⟨_, _, _, _, (elR p g (elT p g i0).1 i0).2, hfr88 _ _ (by simp; omega) (app_old (app_old get_new)), ⟨by simp, by omega⟩, fun y hy => by rw [Nat.zero_add]; exact (hw2 y hy).symm, ?_⟩
     refine ⟨_, s_l01Add_ok B E.2.2.2.1 (by omega) (by omega) (by omega) (by omega), rfl, ?_⟩
     refine ⟨_, rfl, ?_⟩
     refine ⟨_, vl_app ((((((hY.ext Ext.app).ext Ext.app).ext Ext.app).fr hfr88 (by simp; omega))).ext Ext.app) VS.one (by rw [List.length_map]; omega), ?_⟩
     rintro a96 G96 ⟨hv96, hfr96, hb96, hl96⟩
     refine ⟨((i0 + 1 : Nat) : Int), w64_id _ (by omega) (by omega), ?_⟩
     refine ⟨by omega, (a88, a96, z), ?_, ⟨rfl, rfl, rfl, rfl, rfl, rfl, rfl, trivial⟩⟩
     dsimp only
     rw [hst]
     have hl88' := hv88.lt
     simp only [List.length_append, List.length_singleton] at hb88 hl88 hb96 hl96
     refine ⟨?_, ?_, ?_, ?_, ?_⟩
     ·rw [List.map_append]; exact (hv88.ext Ext.app).fr hfr96 (by simp; omega)
     ·rw [List.map_append]; exact hv96
     ·exact (((((hZ.ext Ext.app).ext Ext.app).ext Ext.app).fr hfr88 (by simp; omega)).ext Ext.app).fr hfr96 (by simp; omega)
     ·rcases hb88 with h | h <;> rcases hb96 with h' | h' <;> refine ⟨?_, ?_, ?_, ?_, ?_, ?_⟩ <;> omega
     ·exact hU0.trans ((Ext.app.trans (Ext.app.trans Ext.app)).upto.trans ((hfr88.upto fun k hk => by simp at hk; omega).trans (Ext.app.upto.trans (hfr96.upto fun k hk => by simp at hk; omega))))
 ·replace h24 := of_decide_eq_false h24
  have e0 : n = i0 := by omega
  subst e0
  exact ⟨rfl, x, y, z, rfl, Upto.ext Ext.app hU0 (by omega), hZ.vs⟩

end Hf
namespace Hf
open Go Classical
variable {P : Program} {ρ : Nat → FuncId}
theorem s_l01Kernel_ok (B : Bs P ρ) (E : F_s_l01Kernel P ρ) {H : List Blk} {p : Int} {n : Nat} {g : By} (hp : Pr p) (hn : n ≤ 8) (hg : ∀ j, j < n → Vp 8 p (rw8 g j)) :
  CallR P ρ 268 [.i .i64 p, .i .i64 (n : Int), .ag [] 64 g] H (fun u G => ∃ b K, u = .one b ∧ Ext H G ∧ VS G b K ∧ RR 8 p K ∧ ∀ v, Sp' 8 p K v ↔ KerM n p g v) := by
 refine call_of_q B.fn B.mo E.1 rfl (fun hAr hHp => ?_) rfl
 refine ⟨_, rfl, ?_⟩
 refine ⟨_, _, _, _, g, get_new, ⟨by simp, by omega⟩, fun x _ => congrArg _ (Nat.zero_add x).symm, ?_⟩
 refine ⟨_, s_l01Solve_ok B E.2.1 hp hn hg, ?_⟩
 rintro _ G14 ⟨a14, b14, c14, rfl, hE14, hV14⟩
 have hI := elI hp hn hg
 have hl := (@elT_len p g n).2
 refine ⟨_, s_l01Reduce_ok B E.2.2 hp hV14 hI.vz (by omega), ?_⟩
 rintro _ G20 ⟨b20, rfl, hE20, hV20⟩
 obtain ⟨r1, r2⟩ := redL_rr hp hI.vz
 exact ⟨rfl, b20, _, rfl, Ext.app.trans (hE14.trans hE20), hV20, r1, fun v => (r2 v).trans (el_iff hp hn hg)⟩

end Hf
namespace Hf
open Go Classical
variable {P : Program} {ρ : Nat → FuncId}
theorem s_l01Whole_ok (B : Bs P ρ) (E : F_s_l01Whole P ρ) {H : List Blk} {n : Nat} (hn : n ≤ 8) :
  CallR P ρ 317 [.i .i64 (n : Int)] H (fun u G => ∃ b, u = .one b ∧ Ext H G ∧ VS G b ((List.range n).map bas)) := by
 refine call_of_q B.fn B.mo E.1 rfl (fun hAr hHp => ?_) rfl
 refine ⟨_, rfl, ?_⟩
 refine ⟨At, (fun a0 (i0 : Nat) (x0 : At) => [(0, a0), (3, .one x0), (4, .one (.i .i64 ((i0 : Nat) : Int)))]) _ , fun (i0 : Nat) (x0 : At) (G0 : List Blk) => (VW H.length G0 x0 ((List.range i0).map bas) ∧ Upto H.length H G0), n, ⟨_, ⟨VW.nil (Nat.le_refl _), Ext.app.upto⟩, ⟨rfl, rfl, rfl, trivial⟩⟩, ?_⟩
 rintro i0 x0 G0 hi0 ⟨hV0, hU0⟩
 have hlH := (Upto.ext (Ext.refl (H := H)) hU0 (Nat.le_refl _)).len
 refine ⟨fun h8 => ?_, fun h8 => ?_⟩
 ·replace h8 := of_decide_eq_true h8
  refine ⟨_, s_l01Basis_ok B E.2 (by omega), rfl, ?_⟩
  refine ⟨_, rfl, ?_⟩
  refine ⟨_, vw_app (hV0.ext Ext.app) VS.one (by simp; omega) (by simp; omega), ?_⟩
  rintro a15 G15 ⟨hv15, hu15⟩
  refine ⟨((i0 + 1 : Nat) : Int), w64_id _ (by omega) (by omega), ?_⟩
  refine ⟨by omega, _, ?_, ⟨rfl, rfl, rfl, trivial⟩⟩
  dsimp only
  rw [List.range_succ, List.map_append]
  exact ⟨hv15, hU0.trans (Ext.app.upto.trans hu15)⟩
 ·replace h8 := of_decide_eq_false h8
  have e0 : n = i0 := by omega
  subst e0
  exact ⟨rfl, x0, rfl, Upto.ext Ext.refl hU0 (Nat.le_refl _), hV0.vs⟩

theorem s_l01Meet_ok (B : Bs P ρ) (E : F_s_l01Meet P ρ) {H : List Blk} {p : Int} {a b : At} {A L : List By} (hp : Pr p) (hA : VS H a A) (hAv : ∀ v ∈ A, Vp 8 p v) (hAn : A.length ≤ 8) (hL : VS H b L) (hLr : RR 8 p L) :
  CallR P ρ 318 [.i .i64 p, a, b] H (fun u G => ∃ c K, u = .one c ∧ Ext H G ∧ VS G c K ∧ RR 8 p K ∧ ∀ v, Sp' 8 p K v ↔ Sp' 8 p A v ∧ Sp' 8 p L v) := by
 have hp2 := hp.1
 have hp3 := hp.2.1
 have hLl := hLr.len
 refine call_of_q B.fn B.mo E.1 rfl (fun hAr hHp => ?_) (by simp only [List.all_cons, List.all_nil, hA.lt, hL.lt]; rfl)
 refine ⟨_, rfl, ?_⟩
 refine ⟨_, rfl, ?_⟩
 refine ⟨_, _, _, get_new, cputs_by (by simp) (by omega), eqBk_rfl, ?_⟩
 rw [app_set0]
 refine ⟨Unit, (fun a0 a1 a2 a7 a8 (i0 : Nat) (x0 : Unit) => [(0, a0), (1, a1), (2, a2), (7, a7), (8, a8), (9, .one (.i .i64 ((i0 : Nat) : Int)))]) _ _ _ _ _ , fun (i0 : Nat) (x0 : Unit) (G0 : List Blk) => (∃ w, G0 = H ++ [⟨false, .by [] (0 * 8) fun _ => 0⟩] ++ [⟨false, .by [] 64 w⟩] ∧ ∀ x, x < 64 → w x = if x / 8 < i0 then byW 8 p (A.getD (x / 8) z0) L (x % 8) else 0), A.length, ⟨(), ⟨_, rfl, fun x hx => by simp [spl, hx]⟩, ⟨rfl, rfl, rfl, rfl, rfl, rfl, trivial⟩⟩, ?_⟩
 rintro i0 _ G0 hi0 ⟨w, rfl, hw⟩
 refine ⟨_, (hA).len, ?_⟩
 refine ⟨fun h19 => ?_, fun h19 => ?_⟩
 ·replace h19 := of_decide_eq_true h19
  obtain ⟨k26, o26, n26, c26, q26, ea26, hl26, hq26, r26, N26, f26, hk26, hN26, hf26⟩ := (hA.ext (Ext.app.trans Ext.app)).at i0 (by omega)
  refine ⟨k26, o26, n26, c26, i0, q26, ea26, rfl, hl26, hq26, ?_⟩
  refine ⟨_, _, _, _, _, hk26, ⟨by simp, hN26⟩, hf26, ?_⟩
  refine ⟨_, s_l01By_ok B E.2.1 (by omega) (by omega) (hL.ext (Ext.app.trans Ext.app)) hLr.fs (by omega), ?_⟩
  rintro _ G0 ⟨rfl, rfl⟩
  refine ⟨i0, _, rfl, by omega, rfl, ?_⟩
  refine ⟨_, _, _, get_new, cputs_by (by simp) (by omega), eqBk_rfl, ?_⟩
  refine ⟨((i0 + 1 : Nat) : Int), w64_id _ (by omega) (by omega), ?_⟩
  refine ⟨by omega, (), ?_, ⟨rfl, rfl, rfl, rfl, rfl, rfl, trivial⟩⟩
  refine ⟨_, app_set0, fun x hx => ?_⟩
  simp only [spl]
  by_cases e : x / 8 = i0
  ·rw [if_pos (by omega), if_pos (by omega), byL_W, e]; congr 1; omega
  ·rw [if_neg (by omega), hw x hx]
   by_cases h : x / 8 < i0
   ·rw [if_pos h, if_pos (by omega)]
   ·rw [if_neg h, if_neg (by omega)]
 ·replace h19 := of_decide_eq_false h19
  have e0 : A.length = i0 := by omega
  subst e0
  refine ⟨_, (hA).len, ?_⟩
  refine ⟨_, _, _, _, w, get_new, ⟨by simp, by omega⟩, fun x _ => congrArg _ (Nat.zero_add x).symm, ?_⟩
  have hwr : ∀ i, i < A.length → ∀ y, y < 8 → rw8 w i y = byW 8 p (A.getD i z0) L y := by
   intro i hi y hy
   unfold rw8
   rw [if_pos hy, hw _ (by omega), show (i * 8 + y) / 8 = i by omega, show (i * 8 + y) % 8 = y by omega, if_pos hi]
  refine ⟨_, s_l01Kernel_ok B E.2.2.1 hp hAn (fun j hj => ⟨fun x => by
   rcases Nat.lt_or_ge x 8 with hx | hx
   ·unfold bz; rw [hwr j hj x hx]; exact (byW_vp (by omega) (by omega) (hAv _ (getD_mem hj))).1 x
   ·unfold bz rw8; rw [if_neg (by omega)]; simp; omega, fun x hx => if_neg (by omega)⟩), ?_⟩
  rintro _ G35 ⟨b35, K, rfl, hE35, hV35, hR35, hK35⟩
  have hkl := hR35.len
  have hH35 : Ext H G35 := Ext.app.trans (Ext.app.trans hE35)
  refine ⟨At, (fun a0 a1 a10 (i1 : Nat) (x1 : At) => [(0, a0), (1, a1), (7, .one x1), (10, a10), (11, .one (.i .i64 ((i1 : Nat) : Int)))]) _ _ _ , fun (i1 : Nat) (x1 : At) (G1 : List Blk) => (VS G1 x1 (redL p ((K.take i1).map (cmF A.length p fun i => A.getD i z0))) ∧ Ext G35 G1), K.length, ⟨_, ⟨(VW.nil (m := 0) (Nat.zero_le _)).vs.ext (Ext.app.trans hE35), Ext.refl⟩, ⟨rfl, rfl, rfl, rfl, rfl, trivial⟩⟩, ?_⟩
  rintro i1 x1 G1 hi1 ⟨hV1, hE1⟩
  refine ⟨_, (hV35).len, ?_⟩
  refine ⟨fun h39 => ?_, fun h39 => ?_⟩
  ·replace h39 := of_decide_eq_true h39
   refine ⟨_, rfl, ?_⟩
   refine ⟨_, _, _, get_new, cputs_by (by simp) (by omega), eqBk_rfl, ?_⟩
   rw [app_set0]
   refine ⟨Unit, (fun a0 a1 a7 a10 a11 a12 (i2 : Nat) (x2 : Unit) => [(0, a0), (1, a1), (7, a7), (10, a10), (11, a11), (12, a12), (13, .one (.i .i64 ((i2 : Nat) : Int)))]) _ _ _ _ _ _ , fun (i2 : Nat) (x2 : Unit) (G2 : List Blk) => (∃ w, G2 = G1 ++ [⟨false, .by [] 8 w⟩] ∧ ∀ y, y < 8 → w y = cmF i2 p (fun i => A.getD i z0) (K.getD i1 z0) y), A.length, ⟨(), ⟨_, rfl, fun y hy => by rw [cmF_0]; simp [spl, hy, z0]⟩, ⟨rfl, rfl, rfl, rfl, rfl, rfl, rfl, trivial⟩⟩, ?_⟩
   rintro i2 _ G2 hi2 ⟨w2, rfl, hw2⟩
   refine ⟨_, (hA).len, ?_⟩
   refine ⟨fun h46 => ?_, fun h46 => ?_⟩
   ·replace h46 := of_decide_eq_true h46
    refine ⟨_, _, _, _, cmF i2 p (fun i => A.getD i z0) (K.getD i1 z0), get_new, ⟨by simp, by omega⟩, fun x hx => by rw [Nat.zero_add]; exact (hw2 x hx).symm, ?_⟩
    obtain ⟨k53, o53, n53, c53, q53, ea53, hl53, hq53, r53, N53, f53, hk53, hN53, hf53⟩ := (hA.ext (hH35.trans (hE1.trans Ext.app))).at i2 (by omega)
    refine ⟨k53, o53, n53, c53, i2, q53, ea53, rfl, hl53, hq53, ?_⟩
    refine ⟨_, _, _, _, _, hk53, ⟨by simp, hN53⟩, hf53, ?_⟩
    obtain ⟨k58, o58, n58, c58, q58, ea58, hl58, hq58, r58, N58, f58, hk58, hN58, hf58⟩ := (hV35.ext (hE1.trans Ext.app)).at i1 (by omega)
    refine ⟨k58, o58, n58, c58, i1, q58, ea58, rfl, hl58, hq58, ?_⟩
    refine ⟨i2, q58 + i2, rfl, by omega, by omega, ?_⟩
    refine ⟨_, .u (K.getD i1 z0 i2), hk58, (by rw [cat_u (by omega), ← hf58 i2 (by omega)]), ?_⟩
    have hxb := toNat_le (K.getD i1 z0 i2)
    refine ⟨_, s_l01Add_ok B E.2.2.2.1 (by omega) (by omega) (by omega) (by omega), rfl, ?_⟩
    refine ⟨_, _, _, get_new, cputs_by (by simp) (by omega), eqBk_rfl, ?_⟩
    rw [app_set0]
    refine ⟨((i2 + 1 : Nat) : Int), w64_id _ (by omega) (by omega), ?_⟩
    refine ⟨by omega, (), ?_, ⟨rfl, rfl, rfl, rfl, rfl, rfl, rfl, trivial⟩⟩
    refine ⟨_, rfl, fun y hy => ?_⟩
    rw [cmF_succ (by omega) (by omega)]
    simp [spl, hy, addW, bz]
   ·replace h46 := of_decide_eq_false h46
    have e2 : A.length = i2 := by omega
    subst e2
    refine ⟨_, _, _, _, cmF A.length p (fun i => A.getD i z0) (K.getD i1 z0), get_new, ⟨by simp, by omega⟩, fun x hx => by rw [Nat.zero_add]; exact (hw2 x hx).symm, ?_⟩
    have hmv : ∀ v ∈ (K.take i1).map (cmF A.length p fun i => A.getD i z0), Vp 8 p v := by
     intro v hv
     obtain ⟨x, -, rfl⟩ := List.mem_map.1 hv
     exact cmF_vp (by omega) (by omega)
    have hr := (redL_rr hp hmv).1
    have hrl := hr.len
    refine ⟨_, s_l01Put_ok B E.2.2.2.2 (by omega) (by omega) (hV1.ext Ext.app) hr.fs (by omega), ?_⟩
    rintro _ G66 ⟨b66, rfl, hE66, hV66⟩
    refine ⟨((i1 + 1 : Nat) : Int), w64_id _ (by omega) (by omega), ?_⟩
    refine ⟨by omega, _, ?_, ⟨rfl, rfl, rfl, rfl, rfl, trivial⟩⟩
    dsimp only
    rw [take_getD (by omega), List.map_append, List.map_cons, List.map_nil, redL_snoc]
    exact ⟨hV66, hE1.trans (Ext.app.trans hE66)⟩
  ·replace h39 := of_decide_eq_false h39
   have e1 : K.length = i1 := by omega
   subst e1
   have hmv : ∀ v ∈ K.map (cmF A.length p fun i => A.getD i z0), Vp 8 p v := by
    intro v hv
    obtain ⟨x, -, rfl⟩ := List.mem_map.1 hv
    exact cmF_vp (by omega) (by omega)
   obtain ⟨r1, r2⟩ := redL_rr hp hmv
   rw [List.take_length] at hV1
   exact ⟨rfl, x1, _, rfl, hH35.trans hE1, hV1, r1, fun v => (r2 v).trans (meet_iff hp hAv hAn hLr hwr hK35)⟩

end Hf
namespace Hf
open Go Classical
variable {P : Program} {ρ : Nat → FuncId}
/-- one element's condition -/
def IntI (n : Nat) (p : Int) (r : Bool) (f : By) (i : Nat) (v : By) : Prop := ∀ k, k < 8 → cg p (sm n fun j => bz v j * mI r f i j k) 0
theorem IntD_I {n : Nat} {p : Int} {r : Bool} {f v : By} (h : HShp p n f) : IntD n p r f v ↔ Vp n p v ∧ ∀ i, i < n → IntI n p r f i v := by
 obtain ⟨h2, h3, h4, h5⟩ := h.b
 refine and_congr Iff.rfl ⟨fun q i hi k hk => ?_, fun q i hi k hk => q i hi k (by omega)⟩
 by_cases hkn : k < n
 ·exact q i hi k hkn
 ·refine cg_of_eq (sm_zero fun j hj => ?_)
  have e : mI r f i j k = 0 := by
   unfold mI
   have e0 : ¬ k = j := by omega
   simp only [if_neg e0, Int.sub_zero]
   cases r
   ·have := h.mul (show i < 8 by omega) (show j < 8 by omega) hk (.inr (.inr (by omega)))
    rw [if_neg (by simp), ← Nat.add_assoc]; exact this
   ·have := h.mul (show j < 8 by omega) (show i < 8 by omega) hk (.inr (.inr (by omega)))
    rw [if_pos rfl, ← Nat.add_assoc]; exact this
  rw [e, Int.mul_zero]
theorem KerM_I {n : Nat} {p : Int} {r : Bool} {f w v : By} {i : Nat} (hp : 1 ≤ p) (hp2 : p ≤ 256) (hn : n ≤ 8) (hw : ∀ j, j < n → ∀ k, k < 8 → w (j * 8 + k) = vec 8 p (mI r f i j) k) : KerM n p w v ↔ Vp n p v ∧ IntI n p r f i v := by
 refine and_congr Iff.rfl ?_
 have e : ∀ k, k < 8 → cg p (sm n fun j => bz v j * bz w (j * 8 + k)) (sm n fun j => bz v j * mI r f i j k) := fun k hk => cg_sm fun j hj => by
  have e2 : bz w (j * 8 + k) = bz (vec 8 p (mI r f i j)) k := by unfold bz; rw [hw j hj k hk]
  rw [e2]
  exact cg_mul cg.rfl' (cg_vec hp hp2 hk)
 exact ⟨fun h k hk => (e k hk).symm.trans (h k hk), fun h k hk => (e k hk).trans (h k hk)⟩
def rowM (r : Bool) (f : By) (i j : Nat) : By := fun y => f (10 + (if r = true then j * 64 + i * 8 else i * 64 + j * 8) + y)
theorem rowM_vec {p : Int} {r : Bool} {f : By} {i j : Nat} : (vec 8 p fun y => bz (rowM r f i j) y + (-(bz f (522 + i))) * bz (bas j) y) = vec 8 p (mI r f i j) := by
 refine vec_congr fun y hy => cg_of_eq ?_
 have hb : bz (rowM r f i j) y = bz f (10 + (if r = true then j * 64 + i * 8 else i * 64 + j * 8) + y) := rfl
 rw [hb]
 unfold mI
 by_cases h : y = j
 ·subst h; rw [if_pos rfl, show bz (bas y) y = 1 from one_bz (by unfold bas; rw [if_pos rfl])]; omega
 ·rw [if_neg h, show bz (bas j) y = 0 from bz_eq0.2 (by unfold bas; rw [if_neg h])]; omega
set_option maxHeartbeats 1000000 in
theorem s_l05Integrals_ok (B : Bs P ρ) (E : F_s_l05Integrals P ρ) {H : List Blk} {p : Int} {n : Nat} {r : Bool} {f : By} (hs : HShp p n f) :
  CallR P ρ 314 [.ag [p, (n : Int)] 1106 f, .b r] H (fun u G => ∃ b, u = .one b ∧ Ext H G ∧ VS G b (intK p n r f)) := by
 obtain ⟨hp2, hp3, hn1, hn⟩ := hs.b
 have hp := hs.1.1
 refine call_of_q B.fn B.mo E.1 rfl (fun hAr hHp => ?_) rfl
 refine ⟨_, rfl, ?_⟩
 refine ⟨_, _, get_new, rfl, ?_⟩
 refine ⟨_, _, get_new, rfl, ?_⟩
 refine ⟨_, _, get_new, rfl, ?_⟩
 refine ⟨_, s_l01Whole_ok B E.2.1 hn, ?_⟩
 rintro _ G18 ⟨b18, rfl, hE18, hV18⟩
 refine ⟨⟨kept1 get_new (hE18 _ _ get_new), kept1 get_new (hE18 _ _ get_new), trivial⟩, ?_⟩
 refine ⟨At × List By, (fun a1 a2 a5 a6 (i0 : Nat) (x0 : At × List By) => match x0 with | ⟨x, K⟩ => [(1, a1), (2, a2), (5, a5), (6, a6), (7, .one x), (8, .one (.i .i64 ((i0 : Nat) : Int)))]) _ _ _ _ , fun (i0 : Nat) (x0 : At × List By) (G0 : List Blk) => match x0 with | ⟨x, K⟩ => (VS G0 x K ∧ (K.length ≤ 8 ∧ ∀ v ∈ K, Vp 8 p v) ∧ (0 < i0 → RR 8 p K) ∧ (∀ v, Sp' 8 p K v ↔ Vp n p v ∧ ∀ i, i < i0 → IntI n p r f i v) ∧ Ext (H ++ [⟨false, .by [p, (n : Int)] 1106 f⟩]) G0), n, ⟨(_, (List.range n).map bas), ?_, ⟨rfl, rfl, rfl, rfl, rfl, rfl, trivial⟩⟩, ?_⟩
 ·refine ⟨hV18, ⟨by simp; omega, fun v hv => ?_⟩, fun h => absurd h (by omega), fun v => (whole_iff (by omega) (by omega) hn).trans ⟨fun h => ⟨h, fun i hi => absurd hi (by omega)⟩, fun h => h.1⟩, hE18⟩
  obtain ⟨i, hi, rfl⟩ := List.mem_map.1 hv
  exact bas_vp (by omega) (by have := List.mem_range.1 hi; omega)
 rintro i0 ⟨x, K⟩ G0 hi0 ⟨hV0, ⟨hKl, hKv⟩, hKr, hKs, hE0⟩
 have hb2 := hE0 _ _ get_new
 refine ⟨fun h21 => ?_, fun h21 => ?_⟩
 ·replace h21 := of_decide_eq_true h21
  refine ⟨_, rfl, ?_⟩
  refine ⟨_, _, _, get_new, cputs_by (by simp) (by omega), eqBk_rfl, ?_⟩
  rw [app_set0]
  refine ⟨Unit, (fun a1 a2 a5 a6 a7 a8 a9 (i1 : Nat) (x1 : Unit) => [(1, a1), (2, a2), (5, a5), (6, a6), (7, a7), (8, a8), (9, a9), (10, .one (.i .i64 ((i1 : Nat) : Int)))]) _ _ _ _ _ _ _ , fun (i1 : Nat) (x1 : Unit) (G1 : List Blk) => (∃ w, G1[G0.length]? = some ⟨false, .by [] 64 w⟩ ∧ Ext G0 G1 ∧ ∀ x, x < 64 → w x = if x / 8 < i1 then vec 8 p (mI r f i0 (x / 8)) (x % 8) else 0), n, ⟨(), ⟨_, get_new, Ext.app, fun x hx => by simp [spl, hx]⟩, ⟨rfl, rfl, rfl, rfl, rfl, rfl, rfl, rfl, trivial⟩⟩, ?_⟩
  rintro i1 _ G1 hi1 ⟨w, hw0, hE1, hw⟩
  have hb2' := hE1 _ _ hb2
  have hl1 := lt_of hw0
  refine ⟨fun h27 => ?_, fun h27 => ?_⟩
  ·replace h27 := of_decide_eq_true h27
   refine ⟨i0, _, rfl, by omega, rfl, ?_⟩
   refine ⟨i1, _, rfl, by omega, rfl, ?_⟩
   refine ⟨_, _, _, _, rowM false f i0 i1, hb2', ⟨by simp; omega, by omega⟩, fun y hy => by unfold rowM; rw [if_neg (by simp)]; congr 1; omega, ?_⟩
   refine ⟨_, rfl, ?_⟩
   refine ⟨_, _, _, get_new, cputs_by (by simp) (by omega), eqBk_rfl, ?_⟩
   rw [app_set0]
   refine ⟨fun h36 => ?_, fun h36 => ?_⟩
   ·skip
    subst h36
    refine ⟨i1, _, rfl, by omega, rfl, ?_⟩
    refine ⟨i0, _, rfl, by omega, rfl, ?_⟩
    refine ⟨_, _, _, _, rowM true f i0 i1, app_old hb2', ⟨by simp; omega, by omega⟩, fun y hy => by unfold rowM; rw [if_pos rfl]; congr 1; omega, ?_⟩
    refine ⟨_, _, _, get_new, cputs_by (by simp) (by omega), eqBk_rfl, ?_⟩
    rw [app_set0]
    refine ⟨_, _, _, _, rowM true f i0 i1, get_new, ⟨by simp, by omega⟩, fun y hy => by simp [spl, hy], ?_⟩
    refine ⟨_, s_l01Basis_ok B E.2.2.1 (by omega), rfl, ?_⟩
    refine ⟨i0, _, rfl, by omega, rfl, ?_⟩
    refine ⟨_, .u (f (522 + i0)), app_old hb2', (by rw [cat_hu (by simp; omega) (by omega)]; congr 3; omega), ?_⟩
    have hxb := toNat_le (f (522 + i0))
    refine ⟨_, w64_id _ (by omega) (by omega), ?_⟩
    refine ⟨_, s_l01Add_ok B E.2.2.2.1 (by omega) (by omega) (by omega) (by omega), rfl, ?_⟩
    refine ⟨i1, _, rfl, by omega, rfl, ?_⟩
    refine ⟨_, _, _, app_old hw0, cputs_by (by simp) (by omega), eqBk_rfl, ?_⟩
    refine ⟨((i1 + 1 : Nat) : Int), w64_id _ (by omega) (by omega), ?_⟩
    refine ⟨by omega, (), ?_, ⟨rfl, rfl, rfl, rfl, rfl, rfl, rfl, rfl, trivial⟩⟩
    refine ⟨_, set_same (app_old hw0), hE1.app'.set (Nat.le_refl _), fun x hx => ?_⟩
    simp only [spl]
    by_cases e : x / 8 = i1
    ·rw [if_pos (by omega), if_pos (by omega), e]
     have := congrFun (@rowM_vec p true f i0 i1) (x % 8)
     rw [show x - (0 + i1 * 8) = x % 8 by omega]
     exact this
    ·rw [if_neg (by omega), hw x hx]
     by_cases h : x / 8 < i1
     ·rw [if_pos h, if_pos (by omega)]
     ·rw [if_neg h, if_neg (by omega)]
   ·skip
    subst h36
    refine ⟨_, _, _, _, rowM false f i0 i1, get_new, ⟨by simp, by omega⟩, fun y hy => by simp [spl, hy], ?_⟩
    refine ⟨_, s_l01Basis_ok B E.2.2.1 (by omega), rfl, ?_⟩
    refine ⟨i0, _, rfl, by omega, rfl, ?_⟩
    refine ⟨_, .u (f (522 + i0)), app_old hb2', (by rw [cat_hu (by simp; omega) (by omega)]; congr 3; omega), ?_⟩
    have hxb := toNat_le (f (522 + i0))
    refine ⟨_, w64_id _ (by omega) (by omega), ?_⟩
    refine ⟨_, s_l01Add_ok B E.2.2.2.1 (by omega) (by omega) (by omega) (by omega), rfl, ?_⟩
    refine ⟨i1, _, rfl, by omega, rfl, ?_⟩
    refine ⟨_, _, _, app_old hw0, cputs_by (by simp) (by omega), eqBk_rfl, ?_⟩
    refine ⟨((i1 + 1 : Nat) : Int), w64_id _ (by omega) (by omega), ?_⟩
    refine ⟨by omega, (), ?_, ⟨rfl, rfl, rfl, rfl, rfl, rfl, rfl, rfl, trivial⟩⟩
    refine ⟨_, set_same (app_old hw0), hE1.app'.set (Nat.le_refl _), fun x hx => ?_⟩
    simp only [spl]
    by_cases e : x / 8 = i1
    ·rw [if_pos (by omega), if_pos (by omega), e]
     have := congrFun (@rowM_vec p false f i0 i1) (x % 8)
     rw [show x - (0 + i1 * 8) = x % 8 by omega]
     exact this
    ·rw [if_neg (by omega), hw x hx]
     by_cases h : x / 8 < i1
     ·rw [if_pos h, if_pos (by omega)]
     ·rw [if_neg h, if_neg (by omega)]
  ·replace h27 := of_decide_eq_false h27
   have e1 : n = i1 := by omega
   subst e1
   refine ⟨_, _, _, _, w, hw0, ⟨by simp, by omega⟩, fun x _ => congrArg _ (Nat.zero_add x).symm, ?_⟩
   have hwr : ∀ j, j < n → ∀ k, k < 8 → w (j * 8 + k) = vec 8 p (mI r f i0 j) k := by
    intro j hj k hk
    rw [hw _ (by omega), show (j * 8 + k) / 8 = j by omega, show (j * 8 + k) % 8 = k by omega, if_pos hj]
   refine ⟨_, s_l01Kernel_ok B E.2.2.2.2.1 hp hn (fun j hj => ⟨fun x => by
    unfold bz rw8
    split
    ·rw [hwr j hj x (by omega)]; exact bz_vec_lt (by omega) (by omega)
    ·simp; omega, fun x hx => if_neg (by omega)⟩), ?_⟩
   rintro _ G61 ⟨b61, K61, rfl, hE61, hV61, hR61, hK61⟩
   refine ⟨_, s_l01Meet_ok B E.2.2.2.2.2 hp (hV0.ext (hE1.trans hE61)) hKv hKl hV61 hR61, ?_⟩
   rintro _ G62 ⟨b62, K62, rfl, hE62, hV62, hR62, hK62⟩
   refine ⟨((i0 + 1 : Nat) : Int), w64_id _ (by omega) (by omega), ?_⟩
   refine ⟨by omega, (_, K62), ?_, ⟨rfl, rfl, rfl, rfl, rfl, rfl, trivial⟩⟩
   refine ⟨hV62, ⟨hR62.len, hR62.vp⟩, fun _ => hR62, fun v => ?_, hE0.trans (hE1.trans (hE61.trans hE62))⟩
   rw [hK62, hKs, hK61, KerM_I (by omega) (by omega) hn hwr]
   constructor
   ·rintro ⟨⟨a1, a2⟩, -, a3⟩
    refine ⟨a1, fun i hi => ?_⟩
    by_cases e : i = i0
    ·subst e; exact a3
    ·exact a2 i (by omega)
   ·rintro ⟨a1, a2⟩
    exact ⟨⟨a1, fun i hi => a2 i (by omega)⟩, a1, a2 i0 (by omega)⟩
 ·replace h21 := of_decide_eq_false h21
  have e0 : n = i0 := by omega
  subst e0
  have e : K = intK p n r f := (hKr (by omega)).unique (by omega) (by omega) (intK_rr hp hn) fun v => by rw [hKs, intK_iff hp hn, IntD_I hs]
  rw [e] at hV0
  exact ⟨rfl, x, rfl, Ext.app.trans hE0, hV0⟩

theorem s_l05Left_ok (B : Bs P ρ) (E : F_s_l05Left P ρ) {p : Int} {n : Nat} {r : Bool} {f : By} (hs : HShp p n f) :
  CallOK P ρ 308 [.ag [p, (n : Int)] 1106 f, .b r] [] (.one (.ag [] 8 (intV p n r f))) [] := by
 refine (CallR.pure (call_of_q B.fn B.mo E.1 rfl (fun _ _ => ?_) rfl) rfl).ok
 refine ⟨_, rfl, ?_⟩
 refine ⟨_, rfl, ?_⟩
 refine .inl ⟨_, _, _, _, app_old get_new, ⟨rfl, by omega⟩, ?_⟩
 refine ⟨_, s_l05Integrals_ok B E.2 hs, ?_⟩
 rintro _ G8 ⟨b8, rfl, hE8, hV8⟩
 refine ⟨_, (hV8).len, ?_⟩
 refine ⟨fun h11 => ?_, fun h11 => ?_⟩
 ·replace h11 := eq_of_beq h11
  have hz : intV p n r f = z0 := by
   have e : intK p n r f = [] := List.length_eq_zero_iff.1 (by omega)
   unfold intV; rw [e]; rfl
  refine ⟨_, _, _, hE8 _ _ get_new, cputs_by (by simp) (by omega), eqBk_rfl, ?_⟩
  refine ⟨rfl, false, [], 8, _, intV p n r f, set_same (hE8 _ _ get_new), ⟨by simp, by omega⟩, fun x hx => ?_, rfl, Ext.nil⟩
  rw [hz]; simp [spl, hx, z0]
 ·replace h11 := ne_of_beq_false h11
  have hl : 0 < (intK p n r f).length := by omega
  obtain ⟨k14, o14, n14, c14, q14, ea14, hl14, hq14, r14, N14, f14, hk14, hN14, hf14⟩ := (hV8).at 0 (by omega)
  refine ⟨k14, o14, n14, c14, 0, q14, ea14, rfl, hl14, hq14, ?_⟩
  refine ⟨_, _, _, _, _, hk14, ⟨by simp, hN14⟩, hf14, ?_⟩
  refine ⟨_, _, _, hE8 _ _ get_new, cputs_by (by simp) (by omega), eqBk_rfl, ?_⟩
  refine ⟨rfl, false, [], 8, _, intV p n r f, set_same (hE8 _ _ get_new), ⟨by simp, by omega⟩, fun x hx => ?_, rfl, Ext.nil⟩
  simp [spl, hx, intV]

end Hf
namespace Hf
open Go Classical
variable {P : Program} {ρ : Nat → FuncId}
theorem i_Hopf_integral_1_ok (B : Bs P ρ) (E : F_i_Hopf_integral_1 P ρ) {H : List Blk} {t c k5 k2 k3 kh n : Nat} {r : Bool} {p p' n' : Int} {f q : By} {r5 r2 r3 rh : Bool} (h5 : H[k5]? = some ⟨r5, .by [p', (n : Int)] 2 q⟩) (h2 : H[k2]? = some ⟨r2, .vr (.pt kh 0)⟩) (h3 : H[k3]? = some ⟨r3, .vr (.b r)⟩) (hh : H[kh]? = some ⟨rh, .by [p, n'] 1106 f⟩) (ht : t < n * n) (hn : n ≤ 8) (hc : c < n) :
  CallR P ρ 315 [.i .i64 (t : Int), .i .i64 (c : Int), .pt k5 0, .pt k2 0, .pt k3 0] H (fun u G => u = .one (.i .i64 (mI r f (t / n) c (t % n))) ∧ G = H) := by
 have htd : t / n < n := Nat.div_lt_of_lt_mul ht
 have htm : t % n < n := Nat.mod_lt _ (by omega)
 have htb : t ≤ 64 := Nat.le_trans (Nat.le_of_lt ht) (Nat.mul_le_mul hn hn)
 have hi1 : (0 : Int) ≤ ((t / n : Nat) : Int) := Int.natCast_nonneg _
 have hi2 : (0 : Int) ≤ ((t % n : Nat) : Int) := Int.natCast_nonneg _
 refine call_of_q B.fn B.mo E rfl (fun hAr hHp => ?_) (by simp [At.lt, lt_of h5, lt_of h2, lt_of h3])
 refine ⟨_, _, h5, rfl, ?_⟩
 refine ⟨by omega, ((t / n : Nat) : Int), by rw [← Int.ofNat_tdiv]; exact w64_id _ (by omega) (by omega), ?_⟩
 refine ⟨_, _, h5, rfl, ?_⟩
 refine ⟨by omega, ((t % n : Nat) : Int), (Int.ofNat_tmod _ _).symm, ?_⟩
 refine ⟨_, _, h2, rfl, ?_⟩
 refine ⟨t / n, _, rfl, by omega, rfl, ?_⟩
 refine ⟨c, _, rfl, by omega, rfl, ?_⟩
 refine ⟨t % n, _, rfl, by omega, rfl, ?_⟩
 refine ⟨_, .u (f (10 + (t / n * 64 + c * 8) + t % n)), hh, (by rw [cat_hu (by simp; omega) (by omega)]; congr 3; omega), ?_⟩
 refine ⟨_, _, h3, rfl, ?_⟩
 refine ⟨fun h30 => ?_, fun h30 => ?_⟩
 ·skip
  subst h30
  refine ⟨_, _, h2, rfl, ?_⟩
  refine ⟨c, _, rfl, by omega, rfl, ?_⟩
  refine ⟨t / n, _, rfl, by omega, rfl, ?_⟩
  refine ⟨t % n, _, rfl, by omega, rfl, ?_⟩
  refine ⟨_, .u (f (10 + (c * 64 + t / n * 8) + t % n)), hh, (by rw [cat_hu (by simp; omega) (by omega)]; congr 3; omega), ?_⟩
  refine ⟨fun h44 => ?_, fun h44 => ?_⟩
  ·replace h44 := eq_of_beq h44
   have e44 : t % n = c := by omega
   refine ⟨_, _, h2, rfl, ?_⟩
   refine ⟨t / n, _, rfl, by omega, rfl, ?_⟩
   refine ⟨_, .u (f (522 + t / n)), hh, (by rw [cat_hu (by simp; omega) (by omega)]; congr 3; omega), ?_⟩
   have hx1 := toNat_le (f (10 + (t / n * 64 + c * 8) + t % n))
   have hx2 := toNat_le (f (10 + (c * 64 + t / n * 8) + t % n))
   have hx3 := toNat_le (f (522 + t / n))
   refine ⟨_, w64_id _ (by omega) (by omega), ?_⟩
   refine ⟨rfl, ?_, rfl⟩
   have e : mI true f (t / n) c (t % n) = bz f (10 + (c * 64 + t / n * 8) + t % n) - bz f (522 + t / n) := by
    unfold mI
    rw [if_pos rfl, if_pos e44]
   rw [e]; rfl
  ·replace h44 := ne_of_beq_false h44
   have e44 : ¬ t % n = c := by omega
   refine ⟨rfl, ?_, rfl⟩
   have e : mI true f (t / n) c (t % n) = bz f (10 + (c * 64 + t / n * 8) + t % n) := by
    unfold mI
    rw [if_pos rfl, if_neg e44, Int.sub_zero]
   rw [e]; rfl
 ·skip
  subst h30
  refine ⟨fun h44 => ?_, fun h44 => ?_⟩
  ·replace h44 := eq_of_beq h44
   have e44 : t % n = c := by omega
   refine ⟨_, _, h2, rfl, ?_⟩
   refine ⟨t / n, _, rfl, by omega, rfl, ?_⟩
   refine ⟨_, .u (f (522 + t / n)), hh, (by rw [cat_hu (by simp; omega) (by omega)]; congr 3; omega), ?_⟩
   have hx1 := toNat_le (f (10 + (t / n * 64 + c * 8) + t % n))
   have hx2 := toNat_le (f (10 + (c * 64 + t / n * 8) + t % n))
   have hx3 := toNat_le (f (522 + t / n))
   refine ⟨_, w64_id _ (by omega) (by omega), ?_⟩
   refine ⟨rfl, ?_, rfl⟩
   have e : mI false f (t / n) c (t % n) = bz f (10 + (t / n * 64 + c * 8) + t % n) - bz f (522 + t / n) := by
    unfold mI
    rw [if_neg (show ¬ (false = true) by simp), if_pos e44]
   rw [e]; rfl
  ·replace h44 := ne_of_beq_false h44
   have e44 : ¬ t % n = c := by omega
   refine ⟨rfl, ?_, rfl⟩
   have e : mI false f (t / n) c (t % n) = bz f (10 + (t / n * 64 + c * 8) + t % n) := by
    unfold mI
    rw [if_neg (show ¬ (false = true) by simp), if_neg e44, Int.sub_zero]
   rw [e]; rfl

theorem i_Hopf_integral_ok (B : Bs P ρ) (E : F_i_Hopf_integral P ρ) {H : List Blk} {kh n : Nat} {r : Bool} {p : Int} {f : By} {rh : Bool} (hp : Pr p) (hn : n ≤ 8) (hh : H[kh]? = some ⟨rh, .by [p, (n : Int)] 1106 f⟩) :
  CallR P ρ 309 [.pt kh 0, .b r] H (fun u G => u = .one (.ag [] 8 (intV p n r f)) ∧ G = H) := by
 have hnn : n * n ≤ 64 := Nat.mul_le_mul hn hn
 refine CallR.pure (call_of_q B.fn B.mo E.1 rfl (fun hAr hHp => ?_) (by simp [At.lt, lt_of hh])) rfl
 refine ⟨_, rfl, ?_⟩
 refine ⟨_, rfl, ?_⟩
 refine ⟨_, rfl, ?_⟩
 refine ⟨_, _, app_old (app_old get_new), rfl, ?_⟩
 refine ⟨_, CallOK.at1 (app_old (app_old (app_old hh))) (i_Hopf_field_ok B E.2.1 (p := p) (n := (n : Int)) (f := f)) rfl rfl, ?_⟩
 rintro _ _ ⟨rfl, rfl⟩
 refine ⟨_, rfl, ?_⟩
 refine ⟨_, _, _, get_new, rfl, eqBk_rfl, ?_⟩
 rw [app_set0]
 refine .inl ⟨_, _, _, _, get_new, ⟨rfl, by omega⟩, ?_⟩
 refine ⟨_, _, get_new, rfl, ?_⟩
 refine ⟨_, _, get_new, rfl, ?_⟩
 refine ⟨((n * n : Nat) : Int), (by rw [← Int.natCast_mul]; exact w64_id _ (by omega) (by omega)), ?_⟩
 refine ⟨_, i_kernel_ok B E.2.2.2 (p := p) (n := n) (m := n * n) (co := fun t c => mI r f (t / n) c (t % n)) hp hn (by omega) (by simp [At.lt]) (fun G i j hE hi hj => i_Hopf_integral_1_ok B E.2.2.1 (hE _ _ get_new) (hE _ _ (app_old (app_old (app_old get_new)))) (hE _ _ (app_old (app_old get_new))) (hE _ _ (app_old (app_old (app_old (app_old hh))))) hi hn hj), ?_⟩
 rintro _ G16 ⟨b16, rfl, hE16, hV16⟩
 have hv4 := hE16 _ _ (app_old get_new)
 refine ⟨_, (hV16.vs).len, ?_⟩
 refine ⟨fun h19 => ?_, fun h19 => ?_⟩
 ·replace h19 := eq_of_beq h19
  have hz : intV p n r f = z0 := by
   have e : intK p n r f = [] := List.length_eq_zero_iff.1 (by unfold intK; omega)
   unfold intV; rw [e]; rfl
  refine ⟨_, _, _, hv4, cputs_by (by simp) (by omega), eqBk_rfl, ?_⟩
  refine ⟨rfl, false, [], 8, _, intV p n r f, set_same hv4, ⟨by simp, by omega⟩, fun x hx => ?_, rfl, ?_⟩
  ·rw [hz]; simp [spl, hx, z0]
  ·exact (Ext.app.trans (Ext.app.trans (Ext.app.trans (Ext.app.trans hE16)))).set (by simp)
 ·replace h19 := ne_of_beq_false h19
  have hl : 0 < (kerL p n (eqnL p n (n * n) fun t c => mI r f (t / n) c (t % n))).length := by omega
  obtain ⟨k22, o22, n22, c22, q22, ea22, hl22, hq22, r22, N22, f22, hk22, hN22, hf22⟩ := (hV16.vs).at 0 (by omega)
  refine ⟨k22, o22, n22, c22, 0, q22, ea22, rfl, hl22, hq22, ?_⟩
  refine ⟨_, _, _, _, _, hk22, ⟨by simp, hN22⟩, hf22, ?_⟩
  refine ⟨_, _, _, hv4, cputs_by (by simp) (by omega), eqBk_rfl, ?_⟩
  refine ⟨rfl, false, [], 8, _, intV p n r f, set_same hv4, ⟨by simp, by omega⟩, fun x hx => ?_, rfl, ?_⟩
  ·simp [spl, hx, intV, intK]
  ·exact (Ext.app.trans (Ext.app.trans (Ext.app.trans (Ext.app.trans hE16)))).set (by simp)

end Hf
namespace Hf
open Go Classical
variable {P : Program} {ρ : Nat → FuncId}
theorem ifc {α : Type} {p q : Prop} {i1 : Decidable p} {i2 : Decidable q} {a b : α} (h : p ↔ q) : @ite α p i1 a b = @ite α q i2 a b := by
 by_cases hp : p
 ·rw [if_pos hp, if_pos (h.1 hp)]
 ·rw [if_neg hp, if_neg (fun q => hp (h.2 q))]
def dTf (f : By) (o : Nat) : By := fun x => f (o + (x / 8 % 8) * 64 + (x % 8) * 8 + x / 64)
def dBf (f : By) (o : Nat) : By := fun x => f (o + (x % 8) * 64 + (x / 64) * 8 + x / 8 % 8)
theorem i_dualTable_ok (B : Bs P ρ) (E : F_i_dualTable P ρ) {H : List Blk} {k off N : Nat} {r : Bool} {hd : List Int} {f : By} (hk : H[k]? = some ⟨r, .by hd N f⟩) (h0 : hd.length ≤ off) (hN : off + 512 ≤ N) :
  CallR P ρ 347 [.pt k off] H (fun u G => u = .one (.ag [] 512 (dTf f off)) ∧ G = H) := by
 refine CallR.pure (call_of_q B.fn B.mo E rfl (fun hAr hHp => ?_) (by simp [At.lt, lt_of hk])) rfl
 refine ⟨_, rfl, ?_⟩
 refine ⟨_, rfl, ?_⟩
 refine ⟨_, _, _, get_new, cputs_by (by simp) (by omega), eqBk_rfl, ?_⟩
 rw [app_set0]
 refine ⟨Unit, (fun a0 a2 a3 (i0 : Nat) (x0 : Unit) => [(0, a0), (2, a2), (3, a3), (8, .one (.i .i64 ((i0 : Nat) : Int)))]) _ _ _ , fun (i0 : Nat) (x0 : Unit) (G0 : List Blk) => (∃ w, G0 = H ++ [⟨false, .by [] 512 fun _ => 0⟩] ++ [⟨false, .by [] 512 w⟩] ∧ ∀ x, x < 512 → w x = if x < i0 * 64 then dTf f off x else 0), 8, ⟨(), ⟨_, rfl, fun x hx => by simp [spl, hx]⟩, ⟨rfl, rfl, rfl, rfl, trivial⟩⟩, ?_⟩
 rintro i0 _ G0 hi0 ⟨w0, rfl, hw0⟩
 refine ⟨fun h9 => ?_, fun h9 => ?_⟩
 ·replace h9 := of_decide_eq_true h9
  refine ⟨Unit, (fun a0 a2 a3 a4 a8 (i1 : Nat) (x1 : Unit) => [(0, a0), (2, a2), (3, a3), (4, a4), (8, a8), (11, .one (.i .i64 ((i1 : Nat) : Int)))]) _ _ _ _ _ , fun (i1 : Nat) (x1 : Unit) (G1 : List Blk) => (∃ w, G1 = H ++ [⟨false, .by [] 512 fun _ => 0⟩] ++ [⟨false, .by [] 512 w⟩] ∧ ∀ x, x < 512 → w x = if x < i0 * 64 + i1 * 8 then dTf f off x else 0), 8, ⟨(), ⟨_, rfl, fun x hx => by rw [hw0 x hx]; exact ifc (by omega)⟩, ⟨rfl, rfl, rfl, rfl, rfl, rfl, trivial⟩⟩, ?_⟩
  rintro i1 _ G1 hi1 ⟨w1, rfl, hw1⟩
  refine ⟨fun h12 => ?_, fun h12 => ?_⟩
  ·replace h12 := of_decide_eq_true h12
   refine ⟨Unit, (fun a0 a2 a3 a4 a5 a8 a11 (i2 : Nat) (x2 : Unit) => [(0, a0), (2, a2), (3, a3), (4, a4), (5, a5), (8, a8), (11, a11), (14, .one (.i .i64 ((i2 : Nat) : Int)))]) _ _ _ _ _ _ _ , fun (i2 : Nat) (x2 : Unit) (G2 : List Blk) => (∃ w, G2 = H ++ [⟨false, .by [] 512 fun _ => 0⟩] ++ [⟨false, .by [] 512 w⟩] ∧ ∀ x, x < 512 → w x = if x < i0 * 64 + i1 * 8 + i2 then dTf f off x else 0), 8, ⟨(), ⟨_, rfl, fun x hx => by rw [hw1 x hx]; exact ifc (by omega)⟩, ⟨rfl, rfl, rfl, rfl, rfl, rfl, rfl, rfl, trivial⟩⟩, ?_⟩
   rintro i2 _ G2 hi2 ⟨w2, rfl, hw2⟩
   refine ⟨fun h15 => ?_, fun h15 => ?_⟩
   ·replace h15 := of_decide_eq_true h15
    refine ⟨i1, _, rfl, by omega, rfl, ?_⟩
    refine ⟨i2, _, rfl, by omega, rfl, ?_⟩
    refine ⟨i0, _, rfl, by omega, rfl, ?_⟩
    refine ⟨_, .u (f (off + i1 * 64 + i2 * 8 + i0)), app_old (app_old hk), (by rw [cat_hu (by omega) (by omega)]; congr 3; omega), ?_⟩
    refine ⟨i0, _, rfl, by omega, rfl, ?_⟩
    refine ⟨i1, _, rfl, by omega, rfl, ?_⟩
    refine ⟨i2, _, rfl, by omega, rfl, ?_⟩
    refine ⟨_, _, _, get_new, cput_u (by simp) (by omega), eqBk_rfl, ?_⟩
    refine ⟨((i2 + 1 : Nat) : Int), w64_id _ (by omega) (by omega), ?_⟩
    refine ⟨by omega, (), ?_, ⟨rfl, rfl, rfl, rfl, rfl, rfl, rfl, rfl, trivial⟩⟩
    refine ⟨_, app_set0, fun x hx => ?_⟩
    by_cases e : x = i0 * 64 + i1 * 8 + i2
    ·rw [show x = 0 + i0 * 64 + i1 * 8 + i2 * 1 from by omega, upd_same, if_pos (by omega)]
     unfold dTf
     congr 1; omega
    ·rw [upd_ne _ _ _ _ (by omega), hw2 x hx]
     exact ifc (by omega)
   ·replace h15 := of_decide_eq_false h15
    have e2 : 8 = i2 := by omega
    subst e2
    refine ⟨((i1 + 1 : Nat) : Int), w64_id _ (by omega) (by omega), ?_⟩
    exact ⟨by omega, (), ⟨_, rfl, fun x hx => by rw [hw2 x hx]; exact ifc (by omega)⟩, ⟨rfl, rfl, rfl, rfl, rfl, rfl, trivial⟩⟩
  ·replace h12 := of_decide_eq_false h12
   have e1 : 8 = i1 := by omega
   subst e1
   refine ⟨((i0 + 1 : Nat) : Int), w64_id _ (by omega) (by omega), ?_⟩
   exact ⟨by omega, (), ⟨_, rfl, fun x hx => by rw [hw1 x hx]; exact ifc (by omega)⟩, ⟨rfl, rfl, rfl, rfl, trivial⟩⟩
 ·replace h9 := of_decide_eq_false h9
  have e0 : 8 = i0 := by omega
  subst e0
  refine ⟨_, _, _, _, dTf f off, get_new, ⟨by simp, by omega⟩, fun x hx => by rw [Nat.zero_add, hw0 x hx, if_pos (by omega)], ?_⟩
  refine ⟨_, _, _, app_old get_new, cputs_by (by simp) (by omega), eqBk_rfl, ?_⟩
  refine ⟨rfl, false, [], 512, _, dTf f off, set_same (app_old get_new), ⟨by simp, by omega⟩, fun x hx => by simp [spl, hx], rfl, ?_⟩
  exact (Ext.app.trans Ext.app).set (by omega)

theorem i_dualBack_ok (B : Bs P ρ) (E : F_i_dualBack P ρ) {H : List Blk} {k off N : Nat} {r : Bool} {hd : List Int} {f : By} (hk : H[k]? = some ⟨r, .by hd N f⟩) (h0 : hd.length ≤ off) (hN : off + 512 ≤ N) :
  CallR P ρ 346 [.pt k off] H (fun u G => u = .one (.ag [] 512 (dBf f off)) ∧ G = H) := by
 refine CallR.pure (call_of_q B.fn B.mo E rfl (fun hAr hHp => ?_) (by simp [At.lt, lt_of hk])) rfl
 refine ⟨_, rfl, ?_⟩
 refine ⟨_, rfl, ?_⟩
 refine ⟨_, _, _, get_new, cputs_by (by simp) (by omega), eqBk_rfl, ?_⟩
 rw [app_set0]
 refine ⟨Unit, (fun a0 a2 a3 (i0 : Nat) (x0 : Unit) => [(0, a0), (2, a2), (3, a3), (8, .one (.i .i64 ((i0 : Nat) : Int)))]) _ _ _ , fun (i0 : Nat) (x0 : Unit) (G0 : List Blk) => (∃ w, G0 = H ++ [⟨false, .by [] 512 fun _ => 0⟩] ++ [⟨false, .by [] 512 w⟩] ∧ ∀ x, x < 512 → w x = if x % 8 < i0 then dBf f off x else 0), 8, ⟨(), ⟨_, rfl, fun x hx => by simp [spl, hx]⟩, ⟨rfl, rfl, rfl, rfl, trivial⟩⟩, ?_⟩
 rintro i0 _ G0 hi0 ⟨w0, rfl, hw0⟩
 refine ⟨fun h9 => ?_, fun h9 => ?_⟩
 ·replace h9 := of_decide_eq_true h9
  refine ⟨Unit, (fun a0 a2 a3 a4 a8 (i1 : Nat) (x1 : Unit) => [(0, a0), (2, a2), (3, a3), (4, a4), (8, a8), (11, .one (.i .i64 ((i1 : Nat) : Int)))]) _ _ _ _ _ , fun (i1 : Nat) (x1 : Unit) (G1 : List Blk) => (∃ w, G1 = H ++ [⟨false, .by [] 512 fun _ => 0⟩] ++ [⟨false, .by [] 512 w⟩] ∧ ∀ x, x < 512 → w x = if x % 8 < i0 ∨ (x % 8 = i0 ∧ x / 8 < i1 * 8) then dBf f off x else 0), 8, ⟨(), ⟨_, rfl, fun x hx => by rw [hw0 x hx]; exact ifc (by omega)⟩, ⟨rfl, rfl, rfl, rfl, rfl, rfl, trivial⟩⟩, ?_⟩
  rintro i1 _ G1 hi1 ⟨w1, rfl, hw1⟩
  refine ⟨fun h12 => ?_, fun h12 => ?_⟩
  ·replace h12 := of_decide_eq_true h12
   refine ⟨Unit, (fun a0 a2 a3 a4 a5 a8 a11 (i2 : Nat) (x2 : Unit) => [(0, a0), (2, a2), (3, a3), (4, a4), (5, a5), (8, a8), (11, a11), (14, .one (.i .i64 ((i2 : Nat) : Int)))]) _ _ _ _ _ _ _ , fun (i2 : Nat) (x2 : Unit) (G2 : List Blk) => (∃ w, G2 = H ++ [⟨false, .by [] 512 fun _ => 0⟩] ++ [⟨false, .by [] 512 w⟩] ∧ ∀ x, x < 512 → w x = if x % 8 < i0 ∨ (x % 8 = i0 ∧ x / 8 < i1 * 8 + i2) then dBf f off x else 0), 8, ⟨(), ⟨_, rfl, fun x hx => by rw [hw1 x hx]; exact ifc (by omega)⟩, ⟨rfl, rfl, rfl, rfl, rfl, rfl, rfl, rfl, trivial⟩⟩, ?_⟩
   rintro i2 _ G2 hi2 ⟨w2, rfl, hw2⟩
   refine ⟨fun h15 => ?_, fun h15 => ?_⟩
   ·replace h15 := of_decide_eq_true h15
    refine ⟨i0, _, rfl, by omega, rfl, ?_⟩
    refine ⟨i1, _, rfl, by omega, rfl, ?_⟩
    refine ⟨i2, _, rfl, by omega, rfl, ?_⟩
    refine ⟨_, .u (f (off + i0 * 64 + i1 * 8 + i2)), app_old (app_old hk), (by rw [cat_hu (by omega) (by omega)]; congr 3; omega), ?_⟩
    refine ⟨i1, _, rfl, by omega, rfl, ?_⟩
    refine ⟨i2, _, rfl, by omega, rfl, ?_⟩
    refine ⟨i0, _, rfl, by omega, rfl, ?_⟩
    refine ⟨_, _, _, get_new, cput_u (by simp) (by omega), eqBk_rfl, ?_⟩
    refine ⟨((i2 + 1 : Nat) : Int), w64_id _ (by omega) (by omega), ?_⟩
    refine ⟨by omega, (), ?_, ⟨rfl, rfl, rfl, rfl, rfl, rfl, rfl, rfl, trivial⟩⟩
    refine ⟨_, app_set0, fun x hx => ?_⟩
    by_cases e : x = i1 * 64 + i2 * 8 + i0
    ·rw [show x = 0 + i1 * 64 + i2 * 8 + i0 * 1 from by omega, upd_same, if_pos (by omega)]
     unfold dBf
     congr 1; omega
    ·rw [upd_ne _ _ _ _ (by omega), hw2 x hx]
     exact ifc (by omega)
   ·replace h15 := of_decide_eq_false h15
    have e2 : 8 = i2 := by omega
    subst e2
    refine ⟨((i1 + 1 : Nat) : Int), w64_id _ (by omega) (by omega), ?_⟩
    exact ⟨by omega, (), ⟨_, rfl, fun x hx => by rw [hw2 x hx]; exact ifc (by omega)⟩, ⟨rfl, rfl, rfl, rfl, rfl, rfl, trivial⟩⟩
  ·replace h12 := of_decide_eq_false h12
   have e1 : 8 = i1 := by omega
   subst e1
   refine ⟨((i0 + 1 : Nat) : Int), w64_id _ (by omega) (by omega), ?_⟩
   exact ⟨by omega, (), ⟨_, rfl, fun x hx => by rw [hw1 x hx]; exact ifc (by omega)⟩, ⟨rfl, rfl, rfl, rfl, trivial⟩⟩
 ·replace h9 := of_decide_eq_false h9
  have e0 : 8 = i0 := by omega
  subst e0
  refine ⟨_, _, _, _, dBf f off, get_new, ⟨by simp, by omega⟩, fun x hx => by rw [Nat.zero_add, hw0 x hx, if_pos (by omega)], ?_⟩
  refine ⟨_, _, _, app_old get_new, cputs_by (by simp) (by omega), eqBk_rfl, ?_⟩
  refine ⟨rfl, false, [], 512, _, dBf f off, set_same (app_old get_new), ⟨by simp, by omega⟩, fun x hx => by simp [spl, hx], rfl, ?_⟩
  exact (Ext.app.trans Ext.app).set (by omega)

end Hf
namespace Hf
open Go Classical
variable {P : Program} {ρ : Nat → FuncId}
theorem i_transposed_h_ok (B : Bs P ρ) (E : E_i_transposed P ρ) {p n : Int} {f : By} :
  CallOK P ρ 227 [.pt 0 1042] [⟨true, .by [p, n] 1106 f⟩] (.one (.ag [] 64 (trT (sh f 1042)))) [⟨true, .by [p, n] 1106 f⟩] := by
 refine call_of_vc B.fn B.mo E rfl rfl ?_
 refine ⟨1, rfl, ?_⟩
 refine ⟨2, rfl, ?_⟩
 refine ⟨⟨rfl, by first | omega | (simp <;> omega), by first | omega | (simp <;> omega)⟩, ?_⟩   -- sta ['.t', 3] ['.t', 6] 64
 refine .inl ⟨(fun a0 b0 b1 i0 => St.mk [(0, a0), (2, .one (.pt 1 0)), (3, .one (.pt 2 0)), (7, .one (.i .i64 ((i0 : Nat) : Int)))] [b0, b1, Blk.mk false (.by [] 64 (s2 (fun a b => a < i0) (trG (sh f 1042))))]) _ _ _ , fun i0 => True, 8, trivial, ⟨⟨rfl, rfl, rfl, rfl, trivial⟩, ⟨rfl, rfl, ?_, trivial⟩, rfl⟩, fun i0 hi0 _ => ?_⟩
 ·exact blk_by (by rw [s2_z fun a b _ _ q => by omega]; exact z_sta.symm)
 refine ⟨fun h8 => ?_, fun h8 => ?_⟩
 ·replace h8 := of_decide_eq_true h8
  refine .inl ⟨(fun a0 a4 a7 b0 b1 i1 => St.mk [(0, a0), (2, .one (.pt 1 0)), (3, .one (.pt 2 0)), (4, a4), (7, a7), (10, .one (.i .i64 ((i1 : Nat) : Int)))] [b0, b1, Blk.mk false (.by [] 64 (s2 (fun a b => a < i0 ∨ (a = i0 ∧ b < i1)) (trG (sh f 1042))))]) _ _ _ _ _ , fun i1 => True, 8, trivial, ⟨⟨rfl, rfl, rfl, rfl, rfl, rfl, trivial⟩, ⟨rfl, rfl, ?_, trivial⟩, rfl⟩, fun i1 hi1 _ => ?_⟩
  ·exact blk_by (s2_eq fun a b _ _ => by omega)
  refine ⟨fun h11 => ?_, fun h11 => ?_⟩
  ·replace h11 := of_decide_eq_true h11
   refine ⟨i1, 1042 + i1 * 8, rfl, by omega, by omega, ?_⟩
   refine ⟨i0, 1042 + (i1 * 8 + i0), rfl, by omega, by omega, ?_⟩
   refine ⟨⟨by first | omega | (simp <;> omega), by first | omega | (simp <;> omega)⟩, ?_⟩
   refine ⟨i0, i0 * 8, rfl, by omega, by omega, ?_⟩
   refine ⟨i1, i0 * 8 + i1, rfl, by omega, by omega, ?_⟩
   refine ⟨⟨by first | omega | (simp <;> omega), by first | omega | (simp <;> omega)⟩, ?_⟩   -- st8 ['.t', 23] ['.t', 21]
   refine ⟨((i1 + 1 : Nat) : Int), w64_id _ (by omega) (by omega), ?_⟩
   refine ⟨by omega, trivial, ⟨rfl, rfl, rfl, rfl, rfl, rfl, trivial⟩, ⟨rfl, rfl, ?_, trivial⟩, rfl⟩
   exact blk_by (s2_upd (G := trG (sh f 1042)) (by omega) (by omega) fun a b _ _ => by omega).symm
  ·replace h11 := of_decide_eq_false h11
   have e1 : 8 = i1 := by omega
   subst e1
   refine ⟨((i0 + 1 : Nat) : Int), w64_id _ (by omega) (by omega), ?_⟩
   refine ⟨by omega, trivial, ⟨rfl, rfl, rfl, rfl, trivial⟩, ⟨rfl, rfl, ?_, trivial⟩, rfl⟩
   exact blk_by (s2_eq fun a b _ _ => by omega)
 ·replace h8 := of_decide_eq_false h8
  have e0 : 8 = i0 := by omega
  subst e0
  refine ⟨⟨by first | omega | (simp <;> omega), by first | omega | (simp <;> omega)⟩, ?_⟩
  refine ⟨⟨rfl, by first | omega | (simp <;> omega), by first | omega | (simp <;> omega)⟩, ?_⟩   -- sta ['.t', 2] ['.t', 26] 64
  refine ⟨rfl, ⟨by first | omega | (simp <;> omega), by first | omega | (simp <;> omega)⟩, [], ?_, rfl, ⟨rfl, trivial⟩, rfl, rfl⟩
  exact one_ag (s2_out.trans (s2_eq fun a b h _ => ⟨fun _ => trivial, fun _ => h⟩))

end Hf
namespace Hf
open Go Classical
variable {P : Program} {ρ : Nat → FuncId}
/-- the dual's bytes -/
def dD (f : By) : By := fun x => if x < 10 then f (522 + (x - 2)) else if x < 522 then dBf f 530 (x - 10) else if x < 530 then f (2 + (x - 522)) else if x < 1042 then dTf f 10 (x - 530) else f (1042 + (x - 1042) % 8 * 8 + (x - 1042) / 8)
theorem dD_u {f : By} {k : Nat} (h : k < 8) : dD f (2 + k) = f (522 + k) := by unfold dD; rw [if_pos (by omega)]; exact congrArg f (by omega)
theorem dD_c {f : By} {k : Nat} (h : k < 8) : dD f (522 + k) = f (2 + k) := by unfold dD; rw [if_neg (by omega), if_neg (by omega), if_pos (by omega)]; exact congrArg f (by omega)
theorem dD_mul {f : By} {i j k : Nat} (hi : i < 8) (hj : j < 8) (hk : k < 8) : dD f (10 + i * 64 + j * 8 + k) = f (530 + k * 64 + i * 8 + j) := by
 unfold dD dBf; rw [if_neg (by omega), if_pos (by omega)]; exact congrArg f (by omega)
theorem dD_com {f : By} {i j k : Nat} (hi : i < 8) (hj : j < 8) (hk : k < 8) : dD f (530 + i * 64 + j * 8 + k) = f (10 + j * 64 + k * 8 + i) := by
 unfold dD dTf; rw [if_neg (by omega), if_neg (by omega), if_neg (by omega), if_pos (by omega)]; exact congrArg f (by omega)
theorem dD_ant {f : By} {i j : Nat} (hi : i < 8) (hj : j < 8) : dD f (1042 + i * 8 + j) = f (1042 + j * 8 + i) := by
 unfold dD; rw [if_neg (by omega), if_neg (by omega), if_neg (by omega), if_neg (by omega)]; exact congrArg f (by omega)
theorem Tab.of {p : Int} {n o : Nat} {g : By} (h : ∀ i j k, i < 8 → j < 8 → k < 8 → bz g (o + i * 64 + j * 8 + k) < p ∧ (n ≤ i ∨ n ≤ j ∨ n ≤ k → bz g (o + i * 64 + j * 8 + k) = 0)) : Tab p n g o := by
 intro i hi
 refine ⟨fun j hj => ⟨fun k hk => ⟨(h i j k hi hj hk).1, fun hz => (h i j k hi hj hk).2 (.inr (.inr (by omega)))⟩, fun hz k hk => (h i j k hi hj hk).2 (.inr (.inl (by omega)))⟩, fun hz k hk => ?_⟩
 have := (h i (k / 8) (k % 8) hi (by omega) (by omega)).2 (.inl (by omega))
 rwa [show o + i * 64 + k / 8 * 8 + k % 8 = o + i * 64 + k by omega] at this
theorem dD_shp {p : Int} {n : Nat} {f : By} (h : HShp p n f) : HShp p n (dD f) := by
 obtain ⟨hs, hu, hm, hc, ht, ha⟩ := h
 have h' : HShp p n f := ⟨hs, hu, hm, hc, ht, ha⟩
 refine ⟨hs, fun k hk => ?_, Tab.of fun i j k hi hj hk => ?_, fun k hk => ?_, Tab.of fun i j k hi hj hk => ?_, fun i hi => ⟨fun k hk => ?_, fun hz k hk => ?_⟩⟩
 ·unfold bz; rw [dD_u hk]; exact hc k hk
 ·unfold bz; rw [dD_mul hi hj hk]
  exact ⟨((ht k hk).1 i hi).1 j hj |>.1, fun hz => h'.com hk hi hj (by omega)⟩
 ·unfold bz; rw [dD_c hk]; exact hu k hk
 ·unfold bz; rw [dD_com hi hj hk]
  exact ⟨((hm j hj).1 k hk).1 i hi |>.1, fun hz => h'.mul hj hk hi (by omega)⟩
 ·unfold bz; rw [dD_ant hi hk]
  exact ⟨((ha k hk).1 i hi).1, fun hz => h'.ant hk hi (by omega)⟩
 ·unfold bz; rw [dD_ant hi hk]
  exact h'.ant hk hi (by omega)
theorem i_Hopf_dual_ok (B : Bs P ρ) (E : F_i_Hopf_dual P ρ) {H : List Blk} {kh : Nat} {p n : Int} {f : By} {rh : Bool} (hh : H[kh]? = some ⟨rh, .by [p, n] 1106 f⟩) :
  CallR P ρ 340 [.pt kh 0] H (fun u G => u = .one (.ag [p, n] 1106 (dD f)) ∧ G = H) := by
 refine CallR.pure (call_of_q B.fn B.mo E.1 rfl (fun hAr hHp => ?_) (by simp [At.lt, lt_of hh])) rfl
 refine ⟨_, rfl, ?_⟩
 refine ⟨_, _, app_old hh, rfl, ?_⟩
 refine ⟨_, _, app_old hh, rfl, ?_⟩
 refine ⟨_, _, _, _, (fun x => f (522 + x)), app_old hh, ⟨by simp, by omega⟩, fun x hx => congrArg f (by omega), ?_⟩
 refine ⟨_, _, _, _, (fun x => f (2 + x)), app_old hh, ⟨by simp, by omega⟩, fun x hx => congrArg f (by omega), ?_⟩
 refine ⟨_, i_dualBack_ok B E.2.1 (app_old hh) (by simp) (by omega), ?_⟩
 rintro _ _ ⟨rfl, rfl⟩
 refine ⟨⟨rfl, rfl, rfl, rfl, trivial⟩, ?_⟩
 refine ⟨_, i_dualTable_ok B E.2.2.1 (app_old hh) (by simp) (by omega), ?_⟩
 rintro _ _ ⟨rfl, rfl⟩
 refine ⟨⟨rfl, rfl, rfl, rfl, trivial⟩, ?_⟩
 refine ⟨_, CallOK.at1 (app_old hh) (i_transposed_h_ok B E.2.2.2 (p := p) (n := n) (f := f)) rfl rfl, ?_⟩
 rintro _ _ ⟨rfl, rfl⟩
 refine ⟨⟨rfl, rfl, rfl, rfl, trivial⟩, ?_⟩
 refine ⟨_, _, .by [p, n] 1106 (dD f), get_new, rfl, ⟨rfl, rfl, fun x h1 h2 => ?_⟩, ?_⟩
 ·have h1 : 2 ≤ x := h1
  simp only [spl]
  unfold dD
  by_cases a1 : x < 10
  ·rw [if_neg (by omega), if_neg (by omega), if_neg (by omega), if_neg (by omega), if_pos (by omega), if_pos (by omega)]
  ·rw [if_neg (show ¬ x < 10 from a1)]
   by_cases a2 : x < 522
   ·rw [if_neg (by omega), if_neg (by omega), if_neg (by omega), if_pos (by omega), if_pos (by omega)]
   ·rw [if_neg (show ¬ x < 522 from a2)]
    by_cases a3 : x < 530
    ·rw [if_neg (by omega), if_neg (by omega), if_pos (by omega), if_pos (by omega)]
    ·rw [if_neg (show ¬ x < 530 from a3)]
     by_cases a4 : x < 1042
     ·rw [if_neg (by omega), if_pos (by omega), if_pos (by omega)]
     ·rw [if_neg (show ¬ x < 1042 from a4), if_pos (by omega)]
      have := trT_app (F := sh f 1042) (a := (x - 1042) / 8) (b := (x - 1042) % 8) (by omega) (by omega)
      rw [show (x - 1042) / 8 * 8 + (x - 1042) % 8 = x - 1042 by omega] at this
      rw [this]
      exact congrArg f (by omega)
 exact ⟨rfl, false, [p, n], 1106, dD f, set_same get_new, ⟨rfl, by omega⟩, rfl, Ext.app.set (Nat.le_refl _)⟩

end Hf
namespace Hf
open Go Classical
variable {P : Program} {ρ : Nat → FuncId}
theorem app_set00 {H : List Blk} {A B C : Blk} : ((H ++ [A]).set H.length B).set H.length C = H ++ [C] := by rw [app_set0, app_set0]
noncomputable def wS (f : By) (Q : Nat → Nat → Nat → Prop) (A : Nat → Nat → Prop) : By := fun x => if x < 10 then f (522 + (x - 2)) else if x < 522 then (if Q ((x - 10) % 8) ((x - 10) / 64) ((x - 10) / 8 % 8) then dBf f 530 (x - 10) else 0) else if x < 530 then f (2 + (x - 522)) else if x < 1042 then (if Q ((x - 530) / 64) ((x - 530) / 8 % 8) ((x - 530) % 8) then dTf f 10 (x - 530) else 0) else (if A ((x - 1042) / 8) ((x - 1042) % 8) then f (1042 + (x - 1042) % 8 * 8 + (x - 1042) / 8) else 0)
theorem wS_congr {f : By} {Q Q' : Nat → Nat → Nat → Prop} {A A' : Nat → Nat → Prop} {x : Nat} (hx : x < 1106) (hQ : ∀ i j k, i < 8 → j < 8 → k < 8 → (Q i j k ↔ Q' i j k)) (hA : ∀ a b, a < 8 → b < 8 → (A a b ↔ A' a b)) : wS f Q A x = wS f Q' A' x := by
 unfold wS
 by_cases a1 : x < 10
 ·rw [if_pos a1, if_pos a1]
 ·rw [if_neg a1, if_neg a1]
  by_cases a2 : x < 522
  ·rw [if_pos a2, if_pos a2]; exact ifc (hQ _ _ _ (by omega) (by omega) (by omega))
  ·rw [if_neg a2, if_neg a2]
   by_cases a3 : x < 530
   ·rw [if_pos a3, if_pos a3]
   ·rw [if_neg a3, if_neg a3]
    by_cases a4 : x < 1042
    ·rw [if_pos a4, if_pos a4]; exact ifc (hQ _ _ _ (by omega) (by omega) (by omega))
    ·rw [if_neg a4, if_neg a4]; exact ifc (hA _ _ (by omega) (by omega))
theorem wS_all {p : Int} {n : Nat} {f : By} (h : HShp p n f) {x : Nat} (hx : x < 1106) : wS f (fun i j k => i < n ∧ j < n ∧ k < n) (fun a b => a < n ∧ b < n) x = dD f x := by
 unfold wS dD
 by_cases a1 : x < 10
 ·rw [if_pos a1, if_pos a1]
 ·rw [if_neg a1, if_neg a1]
  by_cases a2 : x < 522
  ·rw [if_pos a2, if_pos a2]
   split
   ·rfl
   ·rename_i hq
    exact (bz_eq0.1 (h.com (i := (x - 10) % 8) (j := (x - 10) / 64) (k := (x - 10) / 8 % 8) (by omega) (by omega) (by omega) (by omega))).symm
  ·rw [if_neg a2, if_neg a2]
   by_cases a3 : x < 530
   ·rw [if_pos a3, if_pos a3]
   ·rw [if_neg a3, if_neg a3]
    by_cases a4 : x < 1042
    ·rw [if_pos a4, if_pos a4]
     split
     ·rfl
     ·rename_i hq
      exact (bz_eq0.1 (h.mul (i := (x - 530) / 8 % 8) (j := (x - 530) % 8) (k := (x - 530) / 64) (by omega) (by omega) (by omega) (by omega))).symm
    ·rw [if_neg a4, if_neg a4]
     split
     ·rfl
     ·rename_i hq
      exact (bz_eq0.1 (h.ant (i := (x - 1042) % 8) (k := (x - 1042) / 8) (by omega) (by omega) (by omega))).symm
/-- one entry of the antipode -/
theorem wS_ant {f w : By} {Q : Nat → Nat → Nat → Prop} {A A' : Nat → Nat → Prop} {i j : Nat} (hi : i < 8) (hj : j < 8) (hw : ∀ x, 2 ≤ x → x < 1106 → w x = wS f Q A x) (h1 : A' i j) (h2 : ∀ a b, a < 8 → b < 8 → ¬ (a = i ∧ b = j) → (A' a b ↔ A a b)) {q : Nat} (hq : q = 1042 + i * 8 + j) :
  ∀ x, 2 ≤ x → x < 1106 → upd w q (f (1042 + j * 8 + i)) x = wS f Q A' x := by
 intro x hx hx2
 subst hq
 by_cases e : x = 1042 + i * 8 + j
 ·subst e
  rw [upd_same]
  unfold wS
  rw [if_neg (by omega), if_neg (by omega), if_neg (by omega), if_neg (by omega), show (1042 + i * 8 + j - 1042) / 8 = i by omega, show (1042 + i * 8 + j - 1042) % 8 = j by omega, if_pos h1]
 ·rw [upd_ne _ _ _ _ e, hw x hx hx2]
  unfold wS
  by_cases a1 : x < 10
  ·rw [if_pos a1, if_pos a1]
  ·rw [if_neg a1, if_neg a1]
   by_cases a2 : x < 522
   ·rw [if_pos a2, if_pos a2]
   ·rw [if_neg a2, if_neg a2]
    by_cases a3 : x < 530
    ·rw [if_pos a3, if_pos a3]
    ·rw [if_neg a3, if_neg a3]
     by_cases a4 : x < 1042
     ·rw [if_pos a4, if_pos a4]
     ·rw [if_neg a4, if_neg a4]; exact ifc (h2 _ _ (by omega) (by omega) (by omega)).symm
/-- one entry of each table -/
theorem wS_tab {f w : By} {Q Q' : Nat → Nat → Nat → Prop} {A : Nat → Nat → Prop} {i j k : Nat} (hi : i < 8) (hj : j < 8) (hk : k < 8) (hw : ∀ x, 2 ≤ x → x < 1106 → w x = wS f Q A x) (h1 : Q' i j k) (h2 : ∀ a b c, a < 8 → b < 8 → c < 8 → ¬ (a = i ∧ b = j ∧ c = k) → (Q' a b c ↔ Q a b c)) {q r : Nat} (hq : q = 10 + j * 64 + k * 8 + i) (hr : r = 530 + i * 64 + j * 8 + k) :
  ∀ x, 2 ≤ x → x < 1106 → upd (upd w q (f (530 + i * 64 + j * 8 + k))) r (f (10 + j * 64 + k * 8 + i)) x = wS f Q' A x := by
 intro x hx hx2
 subst hq; subst hr
 by_cases e : x = 530 + i * 64 + j * 8 + k
 ·subst e
  rw [upd_same]
  unfold wS
  rw [if_neg (by omega), if_neg (by omega), if_neg (by omega), if_pos (by omega), show (530 + i * 64 + j * 8 + k - 530) / 64 = i by omega, show (530 + i * 64 + j * 8 + k - 530) / 8 % 8 = j by omega, show (530 + i * 64 + j * 8 + k - 530) % 8 = k by omega, if_pos h1]
  unfold dTf
  exact congrArg f (by omega)
 ·rw [upd_ne _ _ _ _ e]
  by_cases e2 : x = 10 + j * 64 + k * 8 + i
  ·subst e2
   rw [upd_same]
   unfold wS
   rw [if_neg (by omega), if_pos (by omega), show (10 + j * 64 + k * 8 + i - 10) % 8 = i by omega, show (10 + j * 64 + k * 8 + i - 10) / 64 = j by omega, show (10 + j * 64 + k * 8 + i - 10) / 8 % 8 = k by omega, if_pos h1]
   unfold dBf
   exact congrArg f (by omega)
  ·rw [upd_ne _ _ _ _ e2, hw x hx hx2]
   unfold wS
   by_cases a1 : x < 10
   ·rw [if_pos a1, if_pos a1]
   ·rw [if_neg a1, if_neg a1]
    by_cases a2 : x < 522
    ·rw [if_pos a2, if_pos a2]; exact ifc (h2 _ _ _ (by omega) (by omega) (by omega) (by omega)).symm
    ·rw [if_neg a2, if_neg a2]
     by_cases a3 : x < 530
     ·rw [if_pos a3, if_pos a3]
     ·rw [if_neg a3, if_neg a3]
      by_cases a4 : x < 1042
      ·rw [if_pos a4, if_pos a4]; exact ifc (h2 _ _ _ (by omega) (by omega) (by omega) (by omega)).symm
      ·rw [if_neg a4, if_neg a4]
theorem s_l03Dual_ok (B : Bs P ρ) (E : F_s_l03Dual P ρ) {n : Nat} {p : Int} {f : By} (hs : HShp p n f) :
  CallOK P ρ 339 [.ag [p, (n : Int)] 1106 f] [] (.one (.ag [p, (n : Int)] 1106 (dD f))) [] := by
 obtain ⟨hp2, hp3, hn1, hn⟩ := hs.b
 refine (CallR.pure (call_of_q B.fn B.mo E rfl (fun _ _ => ?_) rfl) rfl).ok
 refine ⟨_, rfl, ?_⟩
 refine ⟨_, rfl, ?_⟩
 refine ⟨_, _, rfl, rfl, ?_⟩
 refine ⟨_, _, rfl, rfl, ?_⟩
 refine ⟨_, _, _, _, (fun x => f (522 + x)), rfl, ⟨by simp, by omega⟩, fun x hx => congrArg f (by omega), ?_⟩
 refine ⟨_, _, _, _, (fun x => f (2 + x)), rfl, ⟨by simp, by omega⟩, fun x hx => congrArg f (by omega), ?_⟩
 refine ⟨_, rfl, ?_⟩
 refine ⟨_, _, _, get_new, rfl, eqBk_rfl, ?_⟩
 rw [app_set0]
 refine ⟨Unit, (fun a1 a2 a3 a4 (i0 : Nat) (x0 : Unit) => [(1, a1), (2, a2), (3, a3), (4, a4), (5, .one (.i .i64 ((i0 : Nat) : Int)))]) _ _ _ _ , fun (i0 : Nat) (x0 : Unit) (G0 : List Blk) => (∃ w, G0 = [] ++ [⟨false, .by [p, (n : Int)] 1106 f⟩] ++ [⟨false, .by [0, 0] 1106 fun _ => 0⟩] ++ [⟨false, .by [p, (n : Int)] 1106 w⟩] ∧ ∀ x, 2 ≤ x → x < 1106 → w x = wS f (fun i j k => i < i0 ∧ j < n ∧ k < n) (fun a b => a < i0 ∧ b < n) x), n, ⟨(), ⟨_, rfl, fun x h1 h2 => ?_⟩, ⟨rfl, rfl, rfl, rfl, rfl, trivial⟩⟩, ?_⟩
 ·simp only [spl]
  unfold wS
  by_cases a1 : x < 10
  ·rw [if_neg (by omega), if_pos (by omega), if_pos a1]
  ·rw [if_neg a1]
   by_cases a2 : x < 522
   ·rw [if_neg (by omega), if_neg (by omega), if_pos a2, if_neg (by omega)]
   ·rw [if_neg a2]
    by_cases a3 : x < 530
    ·rw [if_pos (by omega), if_pos a3]
    ·rw [if_neg (by omega), if_neg (by omega), if_neg a3]
     by_cases a4 : x < 1042
     ·rw [if_pos a4, if_neg (by omega)]
     ·rw [if_neg a4, if_neg (by omega)]
 rintro i0 _ G0 hi0 ⟨w0, rfl, hw0⟩
 refine ⟨fun h20 => ?_, fun h20 => ?_⟩
 ·replace h20 := of_decide_eq_true h20
  refine ⟨Unit, (fun a1 a2 a3 a4 a5 (i1 : Nat) (x1 : Unit) => [(1, a1), (2, a2), (3, a3), (4, a4), (5, a5), (6, .one (.i .i64 ((i1 : Nat) : Int)))]) _ _ _ _ _ , fun (i1 : Nat) (x1 : Unit) (G1 : List Blk) => (∃ w, G1 = [] ++ [⟨false, .by [p, (n : Int)] 1106 f⟩] ++ [⟨false, .by [0, 0] 1106 fun _ => 0⟩] ++ [⟨false, .by [p, (n : Int)] 1106 w⟩] ∧ ∀ x, 2 ≤ x → x < 1106 → w x = wS f (fun i j k => (i < i0 ∧ j < n ∧ k < n) ∨ (i = i0 ∧ j < i1 ∧ k < n)) (fun a b => (a < i0 ∧ b < n) ∨ (a = i0 ∧ b < i1)) x), n, ⟨(), ⟨_, rfl, fun x h1 h2 => by rw [hw0 x h1 h2]; exact wS_congr h2 (fun i j k _ _ _ => by omega) fun a b _ _ => by omega⟩, ⟨rfl, rfl, rfl, rfl, rfl, rfl, trivial⟩⟩, ?_⟩
  rintro i1 _ G1 hi1 ⟨w1, rfl, hw1⟩
  refine ⟨fun h25 => ?_, fun h25 => ?_⟩
  ·replace h25 := of_decide_eq_true h25
   refine ⟨i1, _, rfl, by omega, rfl, ?_⟩
   refine ⟨i0, _, rfl, by omega, rfl, ?_⟩
   refine ⟨_, .u (f (1042 + i1 * 8 + i0)), rfl, (by rw [cat_hu (by simp; omega) (by omega)]; congr 2; exact congrArg f (by omega)), ?_⟩
   refine ⟨i0, _, rfl, by omega, rfl, ?_⟩
   refine ⟨i1, _, rfl, by omega, rfl, ?_⟩
   refine ⟨_, _, _, get_new, cput_u (by simp; omega) (by omega), eqBk_rfl, ?_⟩
   have hwa := wS_ant (A' := fun a b => (a < i0 ∧ b < n) ∨ (a = i0 ∧ b < i1 + 1)) (i := i0) (j := i1) (by omega) (by omega) hw1 (.inr ⟨rfl, by omega⟩) (fun a b _ _ _ => by omega) (q := 0 + 1042 + i0 * 8 + i1 * 1) (by omega)
   refine ⟨Unit, (fun a1 a2 a3 a4 a5 a6 (i2 : Nat) (x2 : Unit) => [(1, a1), (2, a2), (3, a3), (4, a4), (5, a5), (6, a6), (7, .one (.i .i64 ((i2 : Nat) : Int)))]) _ _ _ _ _ _ , fun (i2 : Nat) (x2 : Unit) (G2 : List Blk) => (∃ w, G2 = [] ++ [⟨false, .by [p, (n : Int)] 1106 f⟩] ++ [⟨false, .by [0, 0] 1106 fun _ => 0⟩] ++ [⟨false, .by [p, (n : Int)] 1106 w⟩] ∧ ∀ x, 2 ≤ x → x < 1106 → w x = wS f (fun i j k => (i < i0 ∧ j < n ∧ k < n) ∨ (i = i0 ∧ j < i1 ∧ k < n) ∨ (i = i0 ∧ j = i1 ∧ k < i2)) (fun a b => (a < i0 ∧ b < n) ∨ (a = i0 ∧ b < i1 + 1)) x), n, ⟨(), ⟨_, app_set0, fun x h1 h2 => by rw [hwa x h1 h2]; exact wS_congr h2 (fun i j k _ _ _ => by omega) fun a b _ _ => Iff.rfl⟩, ⟨rfl, rfl, rfl, rfl, rfl, rfl, rfl, trivial⟩⟩, ?_⟩
   rintro i2 _ G2 hi2 ⟨w2, rfl, hw2⟩
   refine ⟨fun h41 => ?_, fun h41 => ?_⟩
   ·replace h41 := of_decide_eq_true h41
    refine ⟨i0, _, rfl, by omega, rfl, ?_⟩
    refine ⟨i1, _, rfl, by omega, rfl, ?_⟩
    refine ⟨i2, _, rfl, by omega, rfl, ?_⟩
    refine ⟨_, .u (f (530 + i0 * 64 + i1 * 8 + i2)), rfl, (by rw [cat_hu (by simp; omega) (by omega)]; congr 2; exact congrArg f (by omega)), ?_⟩
    refine ⟨i1, _, rfl, by omega, rfl, ?_⟩
    refine ⟨i2, _, rfl, by omega, rfl, ?_⟩
    refine ⟨i0, _, rfl, by omega, rfl, ?_⟩
    refine ⟨_, _, _, get_new, cput_u (by simp; omega) (by omega), eqBk_rfl, ?_⟩
    refine ⟨i1, _, rfl, by omega, rfl, ?_⟩
    refine ⟨i2, _, rfl, by omega, rfl, ?_⟩
    refine ⟨i0, _, rfl, by omega, rfl, ?_⟩
    refine ⟨_, .u (f (10 + i1 * 64 + i2 * 8 + i0)), rfl, (by rw [cat_hu (by simp; omega) (by omega)]; congr 2; exact congrArg f (by omega)), ?_⟩
    refine ⟨i0, _, rfl, by omega, rfl, ?_⟩
    refine ⟨i1, _, rfl, by omega, rfl, ?_⟩
    refine ⟨i2, _, rfl, by omega, rfl, ?_⟩
    refine ⟨_, _, _, set_same get_new, cput_u (by simp; omega) (by omega), eqBk_rfl, ?_⟩
    refine ⟨((i2 + 1 : Nat) : Int), w64_id _ (by omega) (by omega), ?_⟩
    exact ⟨by omega, (), ⟨_, app_set00, wS_tab (i := i0) (j := i1) (k := i2) (by omega) (by omega) (by omega) hw2 (.inr (.inr ⟨rfl, rfl, by omega⟩)) (fun a b c _ _ _ _ => by omega) (by omega) (by omega)⟩, ⟨rfl, rfl, rfl, rfl, rfl, rfl, rfl, trivial⟩⟩
   ·replace h41 := of_decide_eq_false h41
    have e2 : n = i2 := by omega
    subst e2
    refine ⟨((i1 + 1 : Nat) : Int), w64_id _ (by omega) (by omega), ?_⟩
    exact ⟨by omega, (), ⟨_, rfl, fun x h1 h2 => by rw [hw2 x h1 h2]; exact wS_congr h2 (fun i j k _ _ _ => by omega) fun a b _ _ => by omega⟩, ⟨rfl, rfl, rfl, rfl, rfl, rfl, trivial⟩⟩
  ·replace h25 := of_decide_eq_false h25
   have e1 : n = i1 := by omega
   subst e1
   refine ⟨((i0 + 1 : Nat) : Int), w64_id _ (by omega) (by omega), ?_⟩
   exact ⟨by omega, (), ⟨_, rfl, fun x h1 h2 => by rw [hw1 x h1 h2]; exact wS_congr h2 (fun i j k _ _ _ => by omega) fun a b _ _ => by omega⟩, ⟨rfl, rfl, rfl, rfl, rfl, trivial⟩⟩
 ·replace h20 := of_decide_eq_false h20
  have e0 : n = i0 := by omega
  subst e0
  refine .inl ⟨_, _, _, _, get_new, ⟨rfl, by omega⟩, ?_⟩
  refine ⟨_, _, .by [p, (n : Int)] 1106 (dD f), app_old get_new, rfl, ⟨rfl, rfl, fun x h1 h2 => ?_⟩, ?_⟩
  ·rw [hw0 x h1 h2]; exact wS_all hs h2
  exact ⟨rfl, false, [p, (n : Int)], 1106, dD f, set_same (app_old get_new), ⟨rfl, by omega⟩, rfl, Ext.nil⟩

end Hf
namespace Hf
open Go Classical
def zqS (p : Int) : Setoid Int := ⟨cg p, ⟨fun _ => rfl, fun h => Eq.symm h, fun h h' => Eq.trans h h'⟩⟩
def Zq (p : Int) : Type := Quotient (zqS p)
section
variable {p : Int} {n m : Nat}
def zc (a : Int) : Zq p := Quotient.mk (zqS p) a
theorem zc_eq {a b : Int} : (zc a : Zq p) = zc b ↔ cg p a b := ⟨fun h => Quotient.exact h, fun h => Quotient.sound h⟩
def zadd (a b : Zq p) : Zq p := Quotient.lift₂ (fun a b => zc (a + b)) (fun _ _ _ _ h h' => zc_eq.2 (cg_add h h')) a b
def zmul (a b : Zq p) : Zq p := Quotient.lift₂ (fun a b => zc (a * b)) (fun _ _ _ _ h h' => zc_eq.2 (cg_mul h h')) a b
instance : Add (Zq p) := ⟨zadd⟩
instance : Mul (Zq p) := ⟨zmul⟩
theorem zc_add {a b : Int} : (zc (a + b) : Zq p) = zc a + zc b := rfl
theorem zc_mul {a b : Int} : (zc (a * b) : Zq p) = zc a * zc b := rfl
theorem zi {q : Zq p → Prop} (h : ∀ a : Int, q (zc a)) (x : Zq p) : q x := Quotient.ind h x
theorem z_ac (a b : Zq p) : a + b = b + a := by
 induction a using zi with | _ a => induction b using zi with | _ b => rw [← zc_add, ← zc_add, Int.add_comm]
theorem z_aa (a b c : Zq p) : a + b + c = a + (b + c) := by
 induction a using zi with | _ a => induction b using zi with | _ b => induction c using zi with | _ c => simp only [← zc_add]; rw [Int.add_assoc]
theorem z_mc (a b : Zq p) : a * b = b * a := by
 induction a using zi with | _ a => induction b using zi with | _ b => rw [← zc_mul, ← zc_mul, Int.mul_comm]
theorem z_ma (a b c : Zq p) : a * b * c = a * (b * c) := by
 induction a using zi with | _ a => induction b using zi with | _ b => induction c using zi with | _ c => simp only [← zc_mul]; rw [Int.mul_assoc]
theorem z_md (a b c : Zq p) : a * (b + c) = a * b + a * c := by
 induction a using zi with | _ a => induction b using zi with | _ b => induction c using zi with | _ c => simp only [← zc_mul, ← zc_add]; rw [Int.mul_add]
theorem z_m0 (a : Zq p) : a * zc 0 = zc 0 := by
 induction a using zi with | _ a => rw [← zc_mul, Int.mul_zero]
theorem z_a0 (a : Zq p) : a + zc 0 = a := by
 induction a using zi with | _ a => rw [← zc_add, Int.add_zero]
theorem z_0a (a : Zq p) : zc 0 + a = a := by rw [z_ac, z_a0]
theorem z_1m (a : Zq p) : zc 1 * a = a := by
 induction a using zi with | _ a => rw [← zc_mul, Int.one_mul]
theorem z_0m (a : Zq p) : zc 0 * a = zc 0 := by rw [z_mc, z_m0]
theorem z_ml (a b c : Zq p) : a * (b * c) = b * (a * c) := by rw [← z_ma, z_mc a b, z_ma]
/-- a sum over n places -/
def sf : {n : Nat} → (Fin n → Zq p) → Zq p
  | 0, _ => zc 0
  | n + 1, F => sf (fun i : Fin n => F i.castSucc) + F (Fin.last n)
theorem sf_sm {x : Nat → Int} : ∀ {n : Nat}, (zc (sm n x) : Zq p) = sf fun i : Fin n => zc (x i.val)
  | 0 => rfl
  | n + 1 => by rw [sm, zc_add, sf_sm]; rfl
theorem sf_0 : ∀ {n : Nat}, (sf fun _ : Fin n => (zc 0 : Zq p)) = zc 0
  | 0 => rfl
  | n + 1 => by rw [sf, sf_0, z_a0]
theorem sf_add : ∀ {n : Nat} {F G : Fin n → Zq p}, sf (fun i => F i + G i) = sf F + sf G
  | 0, _, _ => (z_a0 _).symm
  | n + 1, F, G => by
    simp only [sf]
    rw [sf_add]
    rw [z_aa, z_aa, ← z_aa (sf fun i => G i.castSucc), z_ac (sf fun i => G i.castSucc), z_aa]
theorem sf_mul {c : Zq p} : ∀ {n : Nat} {F : Fin n → Zq p}, sf (fun i => c * F i) = c * sf F
  | 0, _ => (z_m0 _).symm
  | n + 1, F => by simp only [sf]; rw [sf_mul, z_md]
theorem sf_mulr {c : Zq p} {F : Fin n → Zq p} : sf (fun i => F i * c) = sf F * c := by
 rw [z_mc, ← sf_mul]; exact congrArg sf (funext fun i => z_mc _ _)
theorem sf_sw : ∀ {n m : Nat} {F : Fin n → Fin m → Zq p}, sf (fun i => sf fun j => F i j) = sf fun j => sf fun i => F i j
  | 0, m, F => by simp only [sf]; exact sf_0.symm
  | n + 1, m, F => by
    simp only [sf]
    rw [sf_sw, ← sf_add]
theorem sf_dl : ∀ {n : Nat} {i : Fin n} {F : Fin n → Zq p}, sf (fun y => (if i = y then zc 1 else zc 0) * F y) = F i
  | 0, i, _ => i.elim0
  | n + 1, i, F => by
    simp only [sf]
    rcases Nat.lt_or_ge i.val n with h | h
    · have e : i = Fin.castSucc ⟨i.val, h⟩ := rfl
      rw [e, if_neg (fun q => by have := congrArg Fin.val q; simp at this; omega), z_0m, z_a0]
      rw [← sf_dl (i := (⟨i.val, h⟩ : Fin n)) (F := fun y => F y.castSucc)]
      refine congrArg sf (funext fun y => ?_)
      congr 1
      by_cases hy : (⟨i.val, h⟩ : Fin n) = y
      · rw [if_pos hy, if_pos (congrArg Fin.castSucc hy)]
      · rw [if_neg hy, if_neg (fun q => hy (Fin.castSucc_inj.1 q))]
    · have e : i = Fin.last n := by apply Fin.ext; have := i.isLt; simp; omega
      subst e
      rw [if_pos rfl, z_1m]
      have : (sf fun y : Fin n => (if Fin.last n = y.castSucc then (zc 1 : Zq p) else zc 0) * F y.castSucc) = zc 0 := by
        refine Eq.trans (congrArg sf (funext fun y => ?_)) sf_0
        rw [if_neg (fun q => by have := congrArg Fin.val q; have := y.isLt; simp at *; omega), z_0m]
      rw [this, z_0a]
theorem sf_congr {F G : Fin n → Zq p} (h : ∀ i, F i = G i) : sf F = sf G := congrArg sf (funext h)

/-- linear: over one place, over two -/
def l1 (c : Fin n → Zq p) (F : Fin n → Zq p) : Zq p := sf fun x => c x * F x
def l2 (c : Fin n → Fin n → Zq p) (F : Fin n → Fin n → Zq p) : Zq p := sf fun x => sf fun y => c x y * F x y
variable {c d : Fin n → Zq p} {c2 d2 : Fin n → Fin n → Zq p}
theorem l1_m {r : Zq p} {F : Fin n → Zq p} : l1 c (fun x => r * F x) = r * l1 c F := by
 unfold l1; rw [← sf_mul]; exact sf_congr fun x => z_ml _ _ _
theorem l2_m {r : Zq p} {F : Fin n → Fin n → Zq p} : l2 c2 (fun x y => r * F x y) = r * l2 c2 F := by
 unfold l2; rw [← sf_mul]; refine sf_congr fun x => ?_; rw [← sf_mul]; exact sf_congr fun y => z_ml _ _ _
theorem l1_sf {F : Fin n → Fin m → Zq p} : l1 c (fun x => sf fun y => F x y) = sf fun y => l1 c fun x => F x y := by
 unfold l1; rw [← sf_sw]; exact sf_congr fun x => sf_mul.symm
theorem l2_sf {F : Fin n → Fin n → Fin m → Zq p} : l2 c2 (fun x y => sf fun z => F x y z) = sf fun z => l2 c2 fun x y => F x y z := by
 unfold l2; exact (sf_congr fun x => (sf_congr fun y => sf_mul.symm).trans sf_sw).trans sf_sw
theorem c11 {F : Fin n → Fin n → Zq p} : l1 c (fun x => l1 d fun y => F x y) = l1 d fun y => l1 c fun x => F x y := by
 show l1 c (fun x => sf fun y => d y * F x y) = sf fun y => d y * l1 c fun x => F x y
 rw [l1_sf]; exact sf_congr fun y => l1_m
theorem c12 {F : Fin n → Fin n → Fin n → Zq p} : l1 c (fun x => l2 d2 fun y z => F x y z) = l2 d2 fun y z => l1 c fun x => F x y z := by
 show l1 c (fun x => sf fun y => sf fun z => d2 y z * F x y z) = sf fun y => sf fun z => d2 y z * l1 c fun x => F x y z
 rw [l1_sf]; refine sf_congr fun y => ?_; rw [l1_sf]; exact sf_congr fun z => l1_m
theorem c22 {F : Fin n → Fin n → Fin n → Fin n → Zq p} : l2 c2 (fun w x => l2 d2 fun y z => F w x y z) = l2 d2 fun y z => l2 c2 fun w x => F w x y z := by
 show l2 c2 (fun w x => sf fun y => sf fun z => d2 y z * F w x y z) = sf fun y => sf fun z => d2 y z * l2 c2 fun w x => F w x y z
 rw [l2_sf]; refine sf_congr fun y => ?_; rw [l2_sf]; exact sf_congr fun z => l2_m
/-- one behind the other -/
theorem l11 {D : Fin n → Fin n → Zq p} {F : Fin n → Zq p} : l1 c (fun x => l1 (D x) F) = l1 (fun y => sf fun x => c x * D x y) F := by
 show l1 c (fun x => sf fun y => D x y * F y) = sf fun y => (sf fun x => c x * D x y) * F y
 rw [l1_sf]; refine sf_congr fun y => ?_
 rw [← sf_mulr]; exact sf_congr fun x => (z_ma _ _ _).symm
theorem l12 {D : Fin n → Fin n → Fin n → Zq p} {F : Fin n → Fin n → Zq p} : l1 c (fun x => l2 (D x) F) = l2 (fun y z => sf fun x => c x * D x y z) F := by
 show l1 c (fun x => sf fun y => sf fun z => D x y z * F y z) = sf fun y => sf fun z => (sf fun x => c x * D x y z) * F y z
 rw [l1_sf]; refine sf_congr fun y => ?_
 rw [l1_sf]; refine sf_congr fun z => ?_
 rw [← sf_mulr]; exact sf_congr fun x => (z_ma _ _ _).symm
theorem l1_dl {i : Fin n} {F : Fin n → Zq p} : l1 (fun y => if i = y then zc 1 else zc 0) F = F i := sf_dl
/-- two twos, the second at the first's first place -/
theorem l2l {D : Fin n → Fin n → Fin n → Zq p} {F : Fin n → Fin n → Fin n → Zq p} : l2 c2 (fun j k => l2 (D j) fun a b => F a b k) = sf fun a => sf fun b => sf fun k => (sf fun j => c2 j k * D j a b) * F a b k := by
 show l2 c2 (fun j k => sf fun a => sf fun b => D j a b * F a b k) = _
 rw [l2_sf]; refine sf_congr fun a => ?_
 rw [l2_sf]; refine sf_congr fun b => ?_
 show (sf fun j => sf fun k => c2 j k * (D j a b * F a b k)) = _
 rw [sf_sw]; refine sf_congr fun k => ?_
 rw [← sf_mulr]; exact sf_congr fun j => (z_ma _ _ _).symm
/-- at the second place -/
theorem l2r {D : Fin n → Fin n → Fin n → Zq p} {F : Fin n → Fin n → Fin n → Zq p} : l2 c2 (fun j k => l2 (D k) fun a b => F j a b) = sf fun j => sf fun a => sf fun b => (sf fun k => c2 j k * D k a b) * F j a b := by
 show (sf fun j => sf fun k => c2 j k * l2 (D k) fun a b => F j a b) = _
 refine sf_congr fun j => ?_
 show l1 (c2 j) (fun k => l2 (D k) fun a b => F j a b) = _
 rw [l12]; rfl
end
end Hf
namespace Hf
open Go Classical
section
variable {p : Int} {n : Nat}
theorem ou2 {F : Fin n → Fin n → Fin n → Zq p} : (sf fun a => sf fun b => sf fun x => F a b x) = sf fun x => sf fun a => sf fun b => F a b x := (sf_congr fun a => sf_sw).trans sf_sw
theorem ou4 {F : Fin n → Fin n → Fin n → Fin n → Fin n → Zq p} : (sf fun a => sf fun b => sf fun c => sf fun d => sf fun x => F a b c d x) = sf fun x => sf fun a => sf fun b => sf fun c => sf fun d => F a b c d x :=
 (sf_congr fun a => (sf_congr fun b => ou2).trans sf_sw).trans sf_sw
theorem ou5 {F : Fin n → Fin n → Fin n → Fin n → Fin n → Fin n → Zq p} : (sf fun a => sf fun b => sf fun c => sf fun d => sf fun e => sf fun x => F a b c d e x) = sf fun x => sf fun a => sf fun b => sf fun c => sf fun d => sf fun e => F a b c d e x :=
 (sf_congr fun a => ou4).trans sf_sw
theorem ou3 {F : Fin n → Fin n → Fin n → Fin n → Zq p} : (sf fun a => sf fun b => sf fun c => sf fun x => F a b c x) = sf fun x => sf fun a => sf fun b => sf fun c => F a b c x :=
 (sf_congr fun a => ou2).trans sf_sw

/-- the tables of a Hopf algebra, as numbers modulo p -/
structure HA (p : Int) (n : Nat) where
 m : Fin n → Fin n → Fin n → Zq p
 d : Fin n → Fin n → Fin n → Zq p
 u : Fin n → Zq p
 e : Fin n → Zq p
 s : Fin n → Fin n → Zq p
 as : ∀ i j k y, (sf fun x => m i j x * m x k y) = sf fun x => m j k x * m i x y
 ul : ∀ i y, (sf fun x => u x * m x i y) = if i = y then zc 1 else zc 0
 ur : ∀ i y, (sf fun x => u x * m i x y) = if i = y then zc 1 else zc 0
 ca : ∀ i j k l, (sf fun a => d i a l * d a j k) = sf fun a => d i j a * d a k l
 cl : ∀ i x, (sf fun j => e j * d i j x) = if i = x then zc 1 else zc 0
 cr : ∀ i j, (sf fun k => e k * d i j k) = if i = j then zc 1 else zc 0
 md : ∀ i j y z, (sf fun x => m i j x * d x y z) = sf fun a => sf fun b => m a b y * sf fun c => sf fun q => d i a c * d j b q * m c q z
 me : ∀ i j, (sf fun k => e k * m i j k) = e i * e j
 u1 : (sf fun k => e k * u k) = zc 1
 ud : ∀ y z, (sf fun x => u x * d x y z) = u y * u z
 s1 : ∀ i y, (sf fun j => sf fun k => d i j k * sf fun a => s j a * m a k y) = e i * u y
 s2 : ∀ i y, (sf fun j => sf fun k => d i j k * sf fun a => s k a * m j a y) = e i * u y
namespace HA
variable (A : HA p n)
def M (i j : Fin n) (F : Fin n → Zq p) : Zq p := l1 (A.m i j) F
def D (i : Fin n) (F : Fin n → Fin n → Zq p) : Zq p := l2 (A.d i) F
def S (i : Fin n) (F : Fin n → Zq p) : Zq p := l1 (A.s i) F
def U (F : Fin n → Zq p) : Zq p := l1 A.u F
def N (h j : Fin n) (F : Fin n → Zq p) : Zq p := l1 (fun y => A.m h y j) F
def B (y : Fin n) (F : Fin n → Fin n → Zq p) : Zq p := l2 (fun j k => A.d j y k) F
variable {A} {i j k h x y z : Fin n} {F : Fin n → Zq p} {F2 : Fin n → Fin n → Zq p} {F3 : Fin n → Fin n → Fin n → Zq p} {r : Zq p}
theorem M_as : A.M i j (fun x => A.M x k F) = A.M j k fun x => A.M i x F := by
 unfold M
 rw [l11, l11]
 exact congrArg (fun c => l1 c F) (funext fun y => A.as i j k y)
theorem U_l : A.U (fun x => A.M x i F) = F i := by
 unfold U M
 rw [l11]
 exact (congrArg (fun c => l1 c F) (funext fun y => A.ul i y)).trans l1_dl
theorem U_r : A.U (fun x => A.M i x F) = F i := by
 unfold U M
 rw [l11]
 exact (congrArg (fun c => l1 c F) (funext fun y => A.ur i y)).trans l1_dl
theorem D_a : A.D i (fun j k => A.D j fun a b => F3 a b k) = A.D i fun j k => A.D k fun a b => F3 j a b := by
 unfold D
 rw [l2l, l2r]
 exact sf_congr fun a => sf_congr fun b => sf_congr fun c => by rw [A.ca]
theorem D_l : A.D i (fun j k => A.e j * F k) = F i := by
 show (sf fun j => sf fun k => A.d i j k * (A.e j * F k)) = F i
 rw [sf_sw]
 refine (sf_congr fun k => ?_).trans (sf_dl (i := i) (F := F))
 rw [← A.cl i k, ← sf_mulr]
 exact sf_congr fun j => by rw [z_ml, z_ma]
theorem D_r : A.D i (fun j k => A.e k * F j) = F i := by
 show (sf fun j => sf fun k => A.d i j k * (A.e k * F j)) = F i
 refine (sf_congr fun k => ?_).trans (sf_dl (i := i) (F := F))
 rw [← A.cr i k, ← sf_mulr]
 exact sf_congr fun j => by rw [z_ml, z_ma]
theorem M_e : A.M i j (fun x => A.e x * r) = A.e i * (A.e j * r) := by
 show (sf fun x => A.m i j x * (A.e x * r)) = _
 rw [← z_ma, ← A.me i j, ← sf_mulr]
 exact sf_congr fun x => by rw [z_ml, z_ma]
theorem M_D : A.M i j (fun x => A.D x F2) = A.D i fun a c => A.D j fun b q => A.M a b fun y => A.M c q fun z => F2 y z := by
 unfold M D
 rw [l12]
 show (sf fun y => sf fun z => (sf fun x => A.m i j x * A.d x y z) * F2 y z) = sf fun a => sf fun c => A.d i a c * sf fun b => sf fun q => A.d j b q * sf fun y => A.m a b y * sf fun z => A.m c q z * F2 y z
 simp only [A.md, ← sf_mul, ← sf_mulr]
 refine Eq.symm ?_
 refine ou5.trans (Eq.trans ?_ sf_sw)
 refine sf_congr fun z => ?_
 refine ou4.trans (sf_congr fun y => ?_)
 refine sf_congr fun a => ?_
 rw [sf_sw]
 refine sf_congr fun b => sf_congr fun c => sf_congr fun q => ?_
 simp only [z_mc, z_ml, z_ma]
theorem S_1 : A.D i (fun j k => A.S j fun a => A.M a k F) = A.e i * A.U F := by
 unfold D S M U
 simp only [l11]
 show (l2 (A.d i) fun j k => sf fun y => (sf fun a => A.s j a * A.m a k y) * F y) = A.e i * sf fun y => A.u y * F y
 rw [l2_sf, ← sf_mul]
 refine sf_congr fun y => ?_
 rw [← z_ma, ← A.s1 i y, ← sf_mulr]
 refine sf_congr fun j => ?_
 rw [← sf_mulr]
 exact sf_congr fun k => (z_ma _ _ _).symm
theorem S_2 : A.D i (fun j k => A.S k fun a => A.M j a F) = A.e i * A.U F := by
 unfold D S M U
 simp only [l11]
 show (l2 (A.d i) fun j k => sf fun y => (sf fun a => A.s k a * A.m j a y) * F y) = A.e i * sf fun y => A.u y * F y
 rw [l2_sf, ← sf_mul]
 refine sf_congr fun y => ?_
 rw [← z_ma, ← A.s2 i y, ← sf_mulr]
 refine sf_congr fun j => ?_
 rw [← sf_mulr]
 exact sf_congr fun k => (z_ma _ _ _).symm
theorem B_a : A.B y (fun j k => A.B j fun i l => F3 i k l) = A.B y fun i a => A.D a fun k l => F3 i k l := by
 unfold B D
 rw [l2r]
 rw [l2l (D := fun j i l => A.d i j l) (F := fun i l k => F3 i k l)]
 refine sf_congr fun i => ?_
 rw [sf_sw]
 refine sf_congr fun k => sf_congr fun l => ?_
 rw [← A.ca i y k l]
 congr 1
 exact sf_congr fun j => z_mc _ _
theorem B_r : A.B y (fun i a => A.e a * F i) = F y := by
 show (sf fun i => sf fun a => A.d i y a * (A.e a * F i)) = F y
 refine (sf_congr fun i => ?_).trans (sf_dl (i := y) (F := F))
 have : (if y = i then (zc 1 : Zq p) else zc 0) = if i = y then zc 1 else zc 0 := by
  by_cases q : y = i
  ·rw [if_pos q, if_pos q.symm]
  ·rw [if_neg q, if_neg fun w => q w.symm]
 rw [this, ← A.cr i y, ← sf_mulr]
 exact sf_congr fun j => by rw [z_ml, z_ma]
theorem B_N : A.B z (fun j k => A.N h j fun y => F2 y k) = A.D h fun a c => A.N a z fun b => A.B b fun y q => A.M c q fun k => F2 y k := by
 show (sf fun j => sf fun k => A.d j z k * sf fun y => A.m h y j * F2 y k) = sf fun a => sf fun c => A.d h a c * sf fun b => A.m a b z * sf fun y => sf fun q => A.d y b q * sf fun k => A.m c q k * F2 y k
 simp only [← sf_mul]
 have e : (sf fun j => sf fun k => sf fun y => A.d j z k * (A.m h y j * F2 y k)) = sf fun k => sf fun y => (sf fun j => A.m h y j * A.d j z k) * F2 y k := by
  rw [sf_sw]
  refine sf_congr fun k => ?_
  rw [sf_sw]
  refine sf_congr fun y => ?_
  rw [← sf_mulr]
  exact sf_congr fun j => by simp only [z_mc, z_ml, z_ma]
 rw [e]
 simp only [A.md, ← sf_mul, ← sf_mulr]
 refine Eq.symm ?_
 refine ou5.trans (sf_congr fun k => ?_)
 refine ou3.trans (sf_congr fun y => sf_congr fun a => ?_)
 rw [sf_sw]
 refine sf_congr fun b => sf_congr fun c => sf_congr fun q => ?_
 simp only [z_mc, z_ml, z_ma]
theorem cMB : A.M x k (fun w => A.B y fun i l => F3 w i l) = A.B y fun i l => A.M x k fun w => F3 w i l := c12
theorem cSB : A.S k (fun w => A.B y fun i l => F3 w i l) = A.B y fun i l => A.S k fun w => F3 w i l := c12
theorem cMS : A.M x k (fun w => A.S j fun q => F2 w q) = A.S j fun q => A.M x k fun w => F2 w q := c11
theorem cSM : A.S j (fun q => A.M x k fun w => F2 w q) = A.M x k fun w => A.S j fun q => F2 w q := c11
theorem cMM : A.M i j (fun q => A.M x k fun w => F2 w q) = A.M x k fun w => A.M i j fun q => F2 w q := c11
theorem cSD : A.S k (fun w => A.D y fun i l => F3 w i l) = A.D y fun i l => A.S k fun w => F3 w i l := c12
theorem cDM : (A.D y fun i l => A.M j k fun w => F3 w i l) = A.M j k fun w => A.D y fun i l => F3 w i l := c12.symm
theorem cUD : A.U (fun w => A.D y fun i l => F3 w i l) = A.D y fun i l => A.U fun w => F3 w i l := c12
theorem cUM : A.U (fun q => A.M x k fun w => F2 w q) = A.M x k fun w => A.U fun q => F2 w q := c11
theorem cUS : A.U (fun q => A.S k fun w => F2 w q) = A.S k fun w => A.U fun q => F2 w q := c11
theorem cNM : A.N x k (fun w => A.M j z fun q => F2 w q) = A.M j z fun q => A.N x k fun w => F2 w q := c11
theorem S_m : A.S i (fun j => r * F j) = r * A.S i F := l1_m
theorem M_m : A.M i j (fun x => r * F x) = r * A.M i j F := l1_m

/-- h(1) S(x h(2)) is S(x), times the counit of h -/
theorem turn : A.D h (fun a b => A.M x b fun w => A.S w fun j => A.M a j F) = A.e h * A.S x F := by
 -- S(x(1)) x(2) h(1) S(x(3) h(2))
 have w1 : A.D x (fun a b => A.S a fun c => A.D b fun b1 b2 => A.D h fun h1 h2 => A.M b1 h1 fun r => A.M b2 h2 fun w => A.S w fun j => A.M r j fun q => A.M c q F) = A.e h * A.S x F := by
  simp only [← M_D, S_2, U_r, M_e, S_m]
  exact D_r (F := fun a => A.e h * A.S a F)
 have a1 : ∀ b1 b2 h1 h2 c, (A.M b1 h1 fun r => A.M b2 h2 fun w => A.S w fun j => A.M r j fun q => A.M c q F) = A.M b2 h2 fun w => A.S w fun j => A.M h1 j fun r => A.M c b1 fun q => A.M q r F := by
  intro b1 b2 h1 h2 c
  refine cMM.trans (congrArg (A.M b2 h2) (funext fun w => cMS.trans (congrArg (A.S w) (funext fun j => ?_))))
  exact M_as.trans (congrArg (A.M h1 j) (funext fun r => M_as.symm))
 have a2 : ∀ c b1 b2, (A.D h fun h1 h2 => A.M b2 h2 fun w => A.S w fun j => A.M h1 j fun r => A.M c b1 fun q => A.M q r F) = A.M c b1 fun q => A.D h fun h1 h2 => A.M b2 h2 fun w => A.S w fun j => A.M h1 j fun r => A.M q r F := by
  intro c b1 b2
  exact (congrArg (A.D h) (funext fun h1 => funext fun h2 => (congrArg (A.M b2 h2) (funext fun w => (congrArg (A.S w) (funext fun j => cMM)).trans cSM)).trans cMM)).trans cDM
 have w2 : A.D x (fun a b => A.S a fun c => A.D b fun b1 b2 => A.D h fun h1 h2 => A.M b1 h1 fun r => A.M b2 h2 fun w => A.S w fun j => A.M r j fun q => A.M c q F) = A.D h fun a b => A.M x b fun w => A.S w fun j => A.M a j F := by
  simp only [a1, a2, cSD]
  rw [← D_a (F3 := fun a b1 b2 => A.S a fun c => A.M c b1 fun q => A.D h fun h1 h2 => A.M b2 h2 fun w => A.S w fun j => A.M h1 j fun r => A.M q r F)]
  simp only [S_1, cUD, cUM, cUS, U_l]
  exact D_l (F := fun b2 => A.D h fun h1 h2 => A.M b2 h2 fun w => A.S w fun j => A.M h1 j fun r => F r)
 exact w2.symm.trans w1

variable (A) in
def be (X : Fin n → Fin n → Zq p) (x y : Fin n) : Zq p := A.B y fun j k => A.M x k fun w => X w j
variable (A) in
def bi (X : Fin n → Fin n → Zq p) (x y : Fin n) : Zq p := A.B y fun j k => A.S k fun l => A.M x l fun w => X w j
variable {X : Fin n → Fin n → Zq p}
theorem be_bi : A.be (A.bi X) x y = X x y := by
 simp only [be, bi, cMB, B_a, cMS, M_as, S_2, U_r]
 exact B_r (F := fun i => X x i)
theorem bi_be : A.bi (A.be X) x y = X x y := by
 simp only [be, bi, cMB, cSB, B_a, M_as, S_1, U_r]
 exact B_r (F := fun i => X x i)
theorem be_N : A.be (fun w j => A.N h j fun y => X w y) x z = A.D h fun a c => A.N a z fun b => A.M x c fun k => A.be X k b := by
 have e1 : ∀ j k, (A.M x k fun w => A.N h j fun y => X w y) = A.N h j fun y => A.M x k fun w => X w y := fun j k => c11
 unfold be
 simp only [e1]
 rw [B_N (F2 := fun y k => A.M x k fun w => X w y)]
 refine congrArg (A.D h) (funext fun a => funext fun c => congrArg (A.N a z) (funext fun b => ?_))
 rw [cMB]
 exact congrArg (A.B b) (funext fun y => funext fun q => M_as.symm)
/-- the antipode, led back -/
theorem be_s : (A.D h fun a c => A.N a z fun b => A.M x c fun k => A.s k b) = A.e h * A.s x z := by
 have e1 : ∀ a c, (A.N a z fun b => A.M x c fun k => A.s k b) = A.M x c fun k => A.S k fun j => A.M a j fun y => if z = y then zc 1 else zc 0 := by
  intro a c
  have e2 : ∀ j, (A.M a j fun y => if z = y then (zc 1 : Zq p) else zc 0) = A.m a j z := by
   intro j
   refine Eq.trans (sf_congr fun y => z_mc _ _) (sf_dl (i := z) (F := fun y => A.m a j y))
  simp only [e2]
  refine cNM.trans (congrArg (A.M x c) (funext fun k => ?_))
  exact sf_congr fun y => z_mc _ _
 simp only [e1]
 rw [turn]
 congr 1
 exact Eq.trans (sf_congr fun y => z_mc _ _) (sf_dl (i := z) (F := fun y => A.s x y))
theorem integral (h1 : (zc 1 : Zq p) ≠ zc 0) : ∃ t : Fin n → Zq p, (∀ h z, (sf fun y => A.m h y z * t y) = A.e h * t z) ∧ ∃ y, t y ≠ zc 0 := by
 have key : ∀ h x z, (A.N h z fun y => A.bi A.s x y) = A.e h * A.bi A.s x z := by
  intro h x z
  have q1 : A.be (fun w j => A.N h j fun y => A.bi A.s w y) = A.be fun w j => A.e h * A.bi A.s w j := by
   funext x z
   rw [be_N]
   have e1 : A.be (A.bi A.s) = A.s := funext fun k => funext fun b => be_bi
   rw [e1, be_s]
   show _ = A.B z fun j k => A.M x k fun w => A.e h * A.bi A.s w j
   simp only [M_m]
   have : (A.B z fun j k => A.e h * A.M x k fun w => A.bi A.s w j) = A.e h * A.be (A.bi A.s) x z := l2_m
   rw [this, e1]
  have q2 := congrArg (fun X => A.bi X x z) q1
  rwa [bi_be, bi_be] at q2
 apply Classical.byContradiction
 intro hn
 have z1 : ∀ x y, A.bi A.s x y = zc 0 := by
  intro x y
  apply Classical.byContradiction
  intro hy
  exact hn ⟨A.bi A.s x, fun h z => key h x z, y, hy⟩
 have z2 : ∀ x y, A.s x y = zc 0 := by
  intro x y
  rw [← be_bi (A := A) (X := A.s) (x := x) (y := y)]
  have e : A.bi A.s = fun _ _ => zc 0 := funext fun k => funext fun b => z1 k b
  rw [e]
  show (sf fun j => sf fun k => _ * sf fun w => _ * zc 0) = zc 0
  simp only [z_m0, sf_0]
 have z3 : ∀ i y, A.e i * A.u y = zc 0 := by
  intro i y
  rw [← A.s1 i y]
  simp only [z2, z_0m, z_m0, sf_0]
 apply h1
 rw [← A.u1]
 simp only [z3, sf_0]
/-- the dual's tables -/
def dual (A : HA p n) : HA p n where
 m i j k := A.d k i j
 d i j k := A.m j k i
 u := A.e
 e := A.u
 s i j := A.s j i
 as i j k y := by
  rw [sf_congr fun x => z_mc (A.d x i j) (A.d y x k), sf_congr fun x => z_mc (A.d x j k) (A.d y i x)]
  exact A.ca y i j k
 ul i y := (A.cl y i).trans (by simp only [eq_comm])
 ur i y := (A.cr y i).trans (by simp only [eq_comm])
 ca i j k l := by
  rw [sf_congr fun x => z_mc (A.m x l i) (A.m j k x), sf_congr fun x => z_mc (A.m j x i) (A.m k l x)]
  exact A.as j k l i
 cl i x := (A.ul x i).trans (by simp only [eq_comm])
 cr i j := (A.ur j i).trans (by simp only [eq_comm])
 md i j y z := by
  rw [sf_congr fun x => z_mc (A.d x i j) (A.m y z x), A.md]
  simp only [← sf_mul]
  refine sf_congr fun a => ?_
  rw [sf_sw]
  refine sf_congr fun b => sf_congr fun c => sf_congr fun q => ?_
  simp only [z_mc, z_ml, z_ma]
 me i j := A.ud i j
 u1 := by rw [sf_congr fun k => z_mc (A.u k) (A.e k)]; exact A.u1
 ud y z := A.me y z
 s1 i y := by
  rw [z_mc, ← A.s1 y i]
  simp only [← sf_mul]
  refine ou2.trans (sf_congr fun a => sf_sw.trans (sf_congr fun k => sf_congr fun j => ?_))
  simp only [z_mc, z_ml, z_ma]
 s2 i y := by
  rw [z_mc, ← A.s2 y i]
  simp only [← sf_mul]
  refine sf_congr fun j => sf_sw.trans (sf_congr fun a => sf_congr fun k => ?_)
  simp only [z_mc, z_ml, z_ma]
end HA
end
end Hf
namespace Hf
open Go Classical
theorem vecE {N : Nat} {p : Int} {x y : Nat → Int} (hp : 1 ≤ p) (hp2 : p ≤ 256) (h : vec N p x = vec N p y) {k : Nat} (hk : k < N) : cg p (x k) (y k) := by
 have e := cg_vec (x := x) hp hp2 hk
 rw [h] at e
 exact e.symm.trans (cg_vec hp hp2 hk)
theorem vecE' {N : Nat} {p : Int} {x : Nat → Int} {g : By} (hp : 1 ≤ p) (hp2 : p ≤ 256) (h : vec N p x = g) {k : Nat} (hk : k < N) : cg p (x k) (bz g k) := by
 rw [← h]; exact (cg_vec hp hp2 hk).symm
theorem prd_r {n o : Nat} {f v : By} {k y : Nat} (hk : k < n) : prd n f o v (bas k) y = sm n fun i => bz v i * bz f (o + i * 64 + k * 8 + y) := by
 unfold prd
 refine sm_congr fun i _ => ?_
 rw [← sm_bas (X := fun j => bz f (o + i * 64 + j * 8 + y)) hk, ← sm_mul]
 exact sm_congr fun j _ => Int.mul_assoc _ _ _
theorem prd_l {n o : Nat} {f w : By} {k y : Nat} (hk : k < n) : prd n f o (bas k) w y = sm n fun j => bz w j * bz f (o + k * 64 + j * 8 + y) := by
 unfold prd
 rw [← sm_bas (X := fun i => sm n fun j => bz w j * bz f (o + i * 64 + j * 8 + y)) hk]
 refine sm_congr fun i _ => ?_
 rw [← sm_mul]
 exact sm_congr fun j _ => Int.mul_assoc _ _ _
theorem zc_bas {p : Int} {n : Nat} {i y : Fin n} : (zc (bz (bas i.val) y.val) : Zq p) = if i = y then zc 1 else zc 0 := by
 by_cases h : i = y
 ·subst h; rw [if_pos rfl, one_bz (by unfold bas; rw [if_pos rfl])]
 ·rw [if_neg h, bz_eq0.2 (by unfold bas; rw [if_neg fun q => h (Fin.ext q.symm)])]
theorem Cog.coa {p : Int} {n : Nat} {f : By} (h : Cog p n f) {i j k l : Nat} (hi : i < n) (hj : j < n) (hk : k < n) (hl : l < n) : Coa p n f i j k l := by
 have h1 : i * n + j + 1 ≤ n * n := by
  have := Nat.mul_le_mul_right n (show i + 1 ≤ n by omega)
  rw [Nat.add_mul, Nat.one_mul] at this; omega
 have h2 : (i * n + j) * n + k + 1 ≤ n * n * n := by
  have := Nat.mul_le_mul_right n h1
  rw [Nat.add_mul, Nat.one_mul] at this; omega
 have h3 : ((i * n + j) * n + k) * n + l + 1 ≤ n * n * n * n := by
  have := Nat.mul_le_mul_right n h2
  rw [Nat.add_mul, Nat.one_mul] at this; omega
 have q := h.2.2 (((i * n + j) * n + k) * n + l) (by rw [Int.toNat_natCast]; omega)
 unfold CoaT at q
 rw [Int.toNat_natCast] at q
 have e1 : (((i * n + j) * n + k) * n + l) / n = (i * n + j) * n + k := by
  rw [Nat.mul_comm, Nat.mul_add_div (by omega), Nat.div_eq_of_lt hl, Nat.add_zero]
 have e2 : ((i * n + j) * n + k) / n = i * n + j := by
  rw [Nat.mul_comm, Nat.mul_add_div (by omega), Nat.div_eq_of_lt hk, Nat.add_zero]
 have e3 : (i * n + j) / n = i := by
  rw [Nat.mul_comm, Nat.mul_add_div (by omega), Nat.div_eq_of_lt hj, Nat.add_zero]
 have m1 : (((i * n + j) * n + k) * n + l) % n = l := by rw [Nat.mul_comm, Nat.mul_add_mod, Nat.mod_eq_of_lt hl]
 have m2 : ((i * n + j) * n + k) % n = k := by rw [Nat.mul_comm, Nat.mul_add_mod, Nat.mod_eq_of_lt hk]
 have m3 : (i * n + j) % n = j := by rw [Nat.mul_comm, Nat.mul_add_mod, Nat.mod_eq_of_lt hj]
 rw [← Nat.div_div_eq_div_mul, ← Nat.div_div_eq_div_mul, e1, e2, e3, m1, m2, m3] at q
 exact q

section
variable {p : Int} {n : Nat} {f : By}
theorem bz_sh' {o x : Nat} : bz (sh f o) x = bz f (o + x) := rfl
/-- the tables modulo p -/
def toHA (h : Hop p n f) : HA p n := by
 have hb := h.1.b
 have hp1 : 1 ≤ p := by omega
 have hp2 : p ≤ 256 := by omega
 have hA : Alg p n f := h.2 0 (by omega)
 have hC : Cog p n (sh f 520) := h.2 1 (by omega)
 have h3 : ∀ i j, i < n → j < n → Ax3 p n f i j := fun i j hi hj => h.2 2 (by omega) i j (by simpa using hi) (by simpa using hj)
 have h4 : Ax4 p n f := h.2 3 (by omega)
 have h5 : (∀ i j, i < n → j < n → Ax5 p n f i j) ∧ ctu n f (sh f 2) % p = 1 := ⟨fun i j hi hj => (h.2 4 (by omega)).1 i j (by simpa using hi) (by simpa using hj), (h.2 4 (by omega)).2⟩
 have h6 : ∀ i, i < n → AxS p n f true i := fun i hi => h.2 5 (by omega) i (by simpa using hi)
 have h7 : ∀ i, i < n → AxS p n f false i := fun i hi => h.2 6 (by omega) i (by simpa using hi)
 refine ⟨fun i j k => zc (bz f (10 + i.val * 64 + j.val * 8 + k.val)), fun i j k => zc (bz f (530 + i.val * 64 + j.val * 8 + k.val)), fun k => zc (bz f (2 + k.val)), fun k => zc (bz f (522 + k.val)), fun i j => zc (bz f (1042 + i.val * 8 + j.val)), ?_, ?_, ?_, ?_, ?_, ?_, ?_, ?_, ?_, ?_, ?_, ?_⟩
 ·intro i j k y
  have q := zc_eq.2 (vecE hp1 hp2 (hA.2.2 i.val j.val k.val (by simp) (by simp) (by simp)) (k := y.val) (by omega))
  rw [Int.toNat_natCast, prd_r k.isLt, prd_l i.isLt] at q
  simp only [sf_sm, zc_mul, bz_sh'] at q
  exact q
 ·intro i y
  have q := zc_eq.2 (vecE' hp1 hp2 (hA.2.1 i.val (by omega)).1 (k := y.val) (by omega))
  rw [Int.toNat_natCast, prd_r i.isLt, zc_bas] at q
  simp only [sf_sm, zc_mul, bz_sh'] at q
  exact q
 ·intro i y
  have q := zc_eq.2 (vecE' hp1 hp2 (hA.2.1 i.val (by omega)).2 (k := y.val) (by omega))
  rw [Int.toNat_natCast, prd_l i.isLt, zc_bas] at q
  simp only [sf_sm, zc_mul, bz_sh'] at q
  exact q
 ·intro i j k l
  have q : cg p (coL n (sh f 520) i.val j.val k.val l.val) (coR n (sh f 520) i.val j.val k.val l.val) := hC.coa i.isLt j.isLt k.isLt l.isLt
  have q := zc_eq.2 q
  unfold coL coR at q
  simp only [sf_sm, zc_mul, bz_sh', ← Nat.add_assoc, Nat.reduceAdd] at q
  exact q
 ·intro i x
  have q := zc_eq.2 (vecE' hp1 hp2 (hC.2.1 i.val (by simp)).1 (k := x.val) (by omega))
  rw [Int.toNat_natCast, zc_bas] at q
  unfold cuL at q
  simp only [sf_sm, zc_mul, bz_sh', ← Nat.add_assoc, Nat.reduceAdd] at q
  exact q
 ·intro i j
  have q := hC.2.1 i.val (by simp)
  rw [Int.toNat_natCast] at q
  have q := zc_eq.2 (vecE' hp1 hp2 q.2 (k := j.val) (by omega))
  rw [zc_bas] at q
  unfold cuR at q
  simp only [sf_sm, zc_mul, bz_sh', ← Nat.add_assoc, Nat.reduceAdd] at q
  exact q
 ·intro i j y z
  have q := zc_eq.2 (vecE hp1 hp2 (h3 i.val j.val i.isLt j.isLt) (k := y.val * 8 + z.val) (by omega))
  have e1 : (y.val * 8 + z.val) / 8 = y.val := by omega
  have e2 : (y.val * 8 + z.val) % 8 = z.val := by omega
  unfold cop tns prd mu at q
  rw [e1, e2, if_pos y.isLt] at q
  simp only [sf_sm, zc_mul, bz_sh', ← Nat.add_assoc] at q
  exact q
 ·intro i j
  have q : cg p (ctu n f (sh f (10 + i.val * 64 + j.val * 8))) (bz f (522 + i.val) * bz f (522 + j.val)) := h5.1 i.val j.val i.isLt j.isLt
  have q := zc_eq.2 q
  unfold ctu at q
  simp only [sf_sm, zc_mul, bz_sh'] at q
  exact q
 ·have q : cg p (ctu n f (sh f 2)) 1 := by
   unfold cg
   rw [h5.2, Int.emod_eq_of_lt (by omega) (by omega)]
  have q := zc_eq.2 q
  unfold ctu at q
  simp only [sf_sm, zc_mul, bz_sh'] at q
  exact q
 ·intro y z
  have q := zc_eq.2 (vecE hp1 hp2 h4 (k := y.val * 8 + z.val) (by omega))
  have e1 : (y.val * 8 + z.val) / 8 = y.val := by omega
  have e2 : (y.val * 8 + z.val) % 8 = z.val := by omega
  unfold cop at q
  rw [e1, e2, if_pos y.isLt] at q
  simp only [sf_sm, zc_mul, bz_sh', ← Nat.add_assoc] at q
  exact q
 ·intro i y
  have q := zc_eq.2 (vecE hp1 hp2 (h6 i.val i.isLt) (k := y.val) (by omega))
  unfold fld prS at q
  simp only [if_true] at q
  rw [sm_congr fun j _ => sm_congr fun k hk => by rw [prd_r hk]] at q
  simp only [sf_sm, zc_mul, bz_sh'] at q
  exact q
 ·intro i y
  have q := zc_eq.2 (vecE hp1 hp2 (h7 i.val i.isLt) (k := y.val) (by omega))
  unfold fld prS at q
  rw [sm_congr fun j hj => sm_congr fun k _ => by rw [if_neg (by simp), prd_l hj]] at q
  simp only [sf_sm, zc_mul, bz_sh'] at q
  exact q
/-- a left integral other than 0 -/
theorem int_exA (hp : 2 ≤ p) (hp2 : p ≤ 256) (A : HA p n) (hm : ∀ i j k, A.m i j k = zc (bz f (10 + i.val * 64 + j.val * 8 + k.val))) (he : ∀ k, A.e k = zc (bz f (522 + k.val))) : ∃ v, IntD n p false f v ∧ v ≠ z0 := by
 have hp1 : 1 ≤ p := by omega
 have h1 : (zc 1 : Zq p) ≠ zc 0 := fun q => by
  have q := zc_eq.1 q
  unfold cg at q
  rw [Int.emod_eq_of_lt (by omega) (by omega)] at q
  simp at q
 obtain ⟨t, ht, y, hy⟩ := A.integral h1
 simp only [hm, he] at ht
 have hex : ∀ x : Zq p, ∃ a : Int, x = zc a := fun x => by induction x using zi with | _ a => exact ⟨a, rfl⟩
 have : ∃ g : Nat → Int, ∀ i : Fin n, t i = zc (g i.val) := by
  refine ⟨fun k => if hk : k < n then Classical.choose (hex (t ⟨k, hk⟩)) else 0, fun i => ?_⟩
  have e := Classical.choose_spec (hex (t i))
  simp only [i.isLt, dif_pos]
  exact e
 obtain ⟨g, hg⟩ := this
 refine ⟨vec n p g, ⟨⟨fun x => bz_vec_lt hp1 hp2, fun x hx => vec_out hx⟩, fun i hi k hk => ?_⟩, fun q => ?_⟩
 ·have q := ht ⟨i, hi⟩ ⟨k, hk⟩
  have e1 : cg p (sm n fun j => bz (vec n p g) j * mI false f i j k) (sm n (fun j => bz f (10 + i * 64 + j * 8 + k) * g j) + (-(bz f (522 + i)) * g k)) := by
   have e2 : -(bz f (522 + i)) * g k = sm n fun j => bz (bas k) j * (-(bz f (522 + i)) * g j) := (sm_bas (X := fun j => -(bz f (522 + i)) * g j) hk).symm
   rw [e2, ← sm_add]
   refine cg_sm fun j hj => (cg_mul (cg_vec hp1 hp2 hj) cg.rfl').trans (cg_of_eq ?_)
   unfold mI
   rw [if_neg (by simp), ← Nat.add_assoc]
   by_cases e : k = j
   ·subst e; rw [if_pos rfl, one_bz (show bas k k = 1 by unfold bas; rw [if_pos rfl])]; grind
   ·rw [if_neg e, bz_eq0.2 (show bas k j = 0 by unfold bas; rw [if_neg (Ne.symm e)])]; grind
  refine e1.trans ?_
  have e3 : cg p (sm n fun j => bz f (10 + i * 64 + j * 8 + k) * g j) (bz f (522 + i) * g k) := by
   apply zc_eq.1
   rw [zc_mul, sf_sm]
   simp only [zc_mul]
   rw [← hg ⟨k, hk⟩, sf_congr fun x : Fin n => congrArg _ (hg x).symm]
   exact q
  exact (cg_add e3 cg.rfl').trans (cg_of_eq (by grind))
 ·apply hy
  rw [hg y]
  have e : bz (vec n p g) y.val = 0 := by rw [q]; rfl
  exact (zc_eq.2 (cg_vec hp1 hp2 y.isLt)).symm.trans (by rw [e])
end
end Hf
namespace Hf
open Go Classical
variable {P : Program} {ρ : Nat → FuncId}
theorem x_IndexFunc_B_ok (B : Bs P ρ) (E : F_x_IndexFunc_B P ρ) {g k off n cap N : Nat} {caps : List (Nat × Nat)} {H : List Blk} {r : Bool} {f : By} {q : Nat → Bool} {z : Int} (hz : firstQ q n 0 = z) (hk : H[k]? = some ⟨r, .by [] N f⟩) (hN : off + n ≤ N) (hcaps : (At.fn g [] caps).lt H.length = true) (hlen : n ≤ 1000000) (hq : ∀ i, i < n → CallR P ρ g ([.u (f (off + i * 1))] ++ caps.map (fun p => .pt p.1 p.2)) H fun u G => u = .one (.b (q i)) ∧ G = H) :
  CallR P ρ 319 [.sl k off n cap, .fn g [] caps] H (fun u G => u = .one (.i .i64 z) ∧ G = H) := by
 refine call_of_q B.fn B.mo E rfl (fun hAr hHp => ?_) (by simp only [List.all_cons, List.all_nil, hcaps]; simp [At.lt, lt_of hk])
 refine ⟨_, rfl, ?_⟩
 refine ⟨Unit, (fun a0 a1 a7 (i0 : Nat) (x0 : Unit) => [(0, a0), (1, a1), (7, a7), (8, .one (.i .i64 ((i0 : Nat) : Int)))]) _ _ _ , fun (i0 : Nat) (x0 : Unit) (G0 : List Blk) => (G0 = H ∧ ∀ j, j < i0 → q j = false), n, ⟨(), ⟨rfl, fun j h => by omega⟩, ⟨rfl, rfl, rfl, rfl, trivial⟩⟩, ?_⟩
 rintro i0 _ G0 hi0 ⟨rfl, hF0⟩
 refine ⟨fun h9 => ?_, fun h9 => ?_⟩
 ·replace h9 := of_decide_eq_true h9
  refine ⟨_, _, _, _, _, _, rfl, rfl, by omega, rfl, ?_⟩
  refine ⟨_, _, hk, cat_u (by omega), ?_⟩
  refine ⟨_, hq i0 (by omega), ?_⟩
  rintro _ _ ⟨rfl, rfl⟩
  refine ⟨fun h16 => ?_, fun h16 => ?_⟩
  ·skip
   have e : z = (i0 : Int) := hz.symm.trans <| firstQ_some (by omega) (by omega) h16 fun j _ h => hF0 j h
   exact ⟨rfl, by rw [e]; rfl, rfl⟩
  ·skip
   refine ⟨((i0 + 1 : Nat) : Int), w64_id _ (by omega) (by omega), ?_⟩
   refine ⟨by omega, (), ?_, ⟨rfl, rfl, rfl, rfl, trivial⟩⟩
   refine ⟨rfl, fun j hj => ?_⟩
   by_cases e : j = i0
   ·subst e; exact h16
   ·exact hF0 j (by omega)
 ·replace h9 := of_decide_eq_false h9
  have e0 : n = i0 := by omega
  subst e0
  have e : z = -1 := hz.symm.trans <| firstQ_none fun j _ h => hF0 j (by omega)
  exact ⟨rfl, by rw [e]; rfl, rfl⟩

theorem i_lead_1_ok (B : Bs P ρ) (E : F_i_lead_1 P ρ) {x : UInt8} :
  CallOK P ρ 320 [.u x] [] (.one (.b (x != 0))) [] := by
 refine (CallR.pure (call_of_q B.fn B.mo E rfl (fun _ _ => ?_) rfl) rfl).ok
 exact ⟨rfl, rfl, Ext.nil⟩

/-- the place of the first entry other than 0, or -1 -/
def ldI (v : By) : Int := if fst8 v < 8 then ((fst8 v : Nat) : Int) else -1
theorem ldI_eq {v : By} : firstQ (fun i => v (0 + 0 * 1 + i * 1) != 0) (8 - 0) 0 = ldI v := by
 have e0 : (fun i => v (0 + 0 * 1 + i * 1) != 0) = fun i => v i != 0 := funext fun i => by rw [show 0 + 0 * 1 + i * 1 = i by omega]
 rw [e0]
 have hle := @fst8_le v
 unfold ldI
 by_cases h : fst8 v < 8
 ·rw [if_pos h]
  have h1 : (v (fst8 v) != 0) = true := @fstN_some (fun i => v i != 0) 8 0 (by unfold fst8 at h; omega)
  exact firstQ_some (by omega) (by omega) h1 fun j _ hj => @fstN_none (fun i => v i != 0) 8 0 j (by omega) hj
 ·rw [if_neg h]
  exact firstQ_none fun j _ hj => @fstN_none (fun i => v i != 0) 8 0 j (by omega) (by unfold fst8 at h; omega)
theorem ldI_lt {v : By} (h : fst8 v < 8) : ldI v = ((fst8 v : Nat) : Int) := if_pos h
theorem i_lead_ok (B : Bs P ρ) (E : F_i_lead P ρ) {v : By} :
  CallOK P ρ 316 [.ag [] 8 v] [] (.one (.i .i64 (ldI v))) [] := by
 refine (CallR.pure (call_of_q B.fn B.mo E.1 rfl (fun _ _ => ?_) rfl) rfl).ok
 refine ⟨_, rfl, ?_⟩
 refine ⟨0, 8, rfl, rfl, ⟨by omega, by omega, by omega⟩, ?_⟩
 refine ⟨_, x_IndexFunc_B_ok B E.2.1 (f := v) (q := fun i => v (0 + 0 * 1 + i * 1) != 0) ldI_eq get_new (by omega) rfl (by omega) (fun i hi => (i_lead_1_ok B E.2.2).at0 rfl rfl), ?_⟩
 rintro _ _ ⟨rfl, rfl⟩
 exact ⟨rfl, rfl, Ext.nil⟩

theorem VS.shape {H : List Blk} {a : At} {L : List By} (h : VS H a L) : a = .sn ∨ ∃ k o n c, a = .sl k o n c := by
 rcases h with ⟨h, -⟩ | ⟨k, off, cap, r, N, f, h, -⟩
 ·exact .inl h
 ·exact .inr ⟨_, _, _, _, h⟩
end Hf
namespace Hf
open Go Classical
variable {P : Program} {ρ : Nat → FuncId}
theorem intV_nz {p : Int} {n : Nat} {f : By} (hp : Pr p) (hn : n ≤ 8) (h : ∃ v, IntD n p false f v ∧ v ≠ z0) : fst8 (intV p n false f) < 8 := by
  obtain ⟨v, h1, h2⟩ := h
  have h3 := (intK_iff hp hn).2 h1
  have hr := intK_rr hp hn (r := false) (f := f)
  have hl : 0 < (intK p n false f).length := by
    rcases Nat.eq_zero_or_pos (intK p n false f).length with e | e
    · rw [List.length_eq_zero_iff.1 e] at h3
      exfalso
      apply h2
      cases h3 with
      | z => rfl
      | a _ q => cases q
    · exact e
  exact hr.fs _ (getD_mem hl)
theorem hop_nzd {p : Int} {n : Nat} {f : By} (h : Hop p n f) : fst8 (intV p n false (dD f)) < 8 := by
 have hb := h.1.b
 refine intV_nz h.1.1.1 (by have := h.1.1.2.2; omega) (int_exA (by omega) (by omega) (toHA h).dual (fun i j k => ?_) fun k => ?_)
 ·show zc (bz f (530 + k.val * 64 + i.val * 8 + j.val)) = _
  unfold bz; rw [dD_mul (by omega) (by omega) (by omega)]
 ·show zc (bz f (2 + k.val)) = _
  unfold bz; rw [dD_c (by omega)]
/-- the modular form -/
noncomputable def modV (p : Int) (n : Nat) (f : By) : By := fun x => if x < n then vec 8 p (prd n f 10 (intV p n false f) (bas x)) (fst8 (intV p n false f)) else 0
theorem q3_1 {H : List Blk} {A B C : Blk} : (H ++ [A] ++ [B] ++ [C])[H.length + 1]? = some B := by simp
theorem q3_s1 {H : List Blk} {A B C X : Blk} : (H ++ [A] ++ [B] ++ [C]).set (H.length + 1) X = H ++ [A] ++ [X] ++ [C] := by simp [List.set_append]
theorem q3_2 {H : List Blk} {A B C : Blk} : (H ++ [A] ++ [B] ++ [C])[H.length + 2]? = some C := by simp
theorem q3_s2 {H : List Blk} {A B C X : Blk} : (H ++ [A] ++ [B] ++ [C]).set (H.length + 2) X = H ++ [A] ++ [B] ++ [X] := by simp [List.set_append]
theorem i_Hopf_modular_ok (B : Bs P ρ) (E : F_i_Hopf_modular P ρ) {H : List Blk} {kh n : Nat} {p : Int} {f : By} {rh : Bool} (hp : Pr p) (hn : n ≤ 8) (hh : H[kh]? = some ⟨rh, .by [p, (n : Int)] 1106 f⟩) (hnz : fst8 (intV p n false f) < 8) :
  CallR P ρ 313 [.pt kh 0] H (fun u G => u = .one (.ag [] 8 (modV p n f)) ∧ G = H) := by
 have hp2 := hp.1
 have hp3 := hp.2.1
 refine CallR.pure (call_of_q B.fn B.mo E.1 rfl (fun hAr hHp => ?_) (by simp [At.lt, lt_of hh])) rfl
 refine ⟨_, rfl, ?_⟩
 refine ⟨_, i_Hopf_integral_ok B E.2.1 (r := false) hp hn (app_old hh), ?_⟩
 rintro _ _ ⟨rfl, rfl⟩
 refine ⟨H.length + 1, by simp, ?_⟩
 refine ⟨H.length + 2, by simp, ?_⟩
 refine ⟨_, _, _, q3_1, cputs_by (by simp) (by omega), eqBk_rfl, ?_⟩
 rw [q3_s1]
 refine ⟨_, _, _, q3_2, cputs_by (by simp) (by omega), eqBk_rfl, ?_⟩
 rw [q3_s2]
 refine ⟨_, _, _, _, intV p n false f, q3_1, ⟨by simp, by omega⟩, fun x hx => by simp [spl, hx], ?_⟩
 refine ⟨_, i_lead_ok B E.2.2.1 , rfl, ?_⟩
 rw [ldI_lt hnz]
 refine ⟨_, _, app_old (app_old (app_old hh)), rfl, ?_⟩
 refine ⟨Unit, (fun a0 a2 a3 a4 a5 a15 (i0 : Nat) (x0 : Unit) => [(0, a0), (2, a2), (3, a3), (4, a4), (5, a5), (15, a15), (16, .one (.i .i64 ((i0 : Nat) : Int)))]) _ _ _ _ _ _ , fun (i0 : Nat) (x0 : Unit) (G0 : List Blk) => (∃ w, G0 = H ++ [⟨false, .by [] 8 fun _ => 0⟩] ++ [⟨false, .by [] 8 (spl (fun _ => 0) 0 8 (intV p n false f))⟩] ++ [⟨false, .by [] 8 w⟩] ∧ ∀ x, x < 8 → w x = if x < i0 then modV p n f x else 0), n, ⟨(), ⟨_, rfl, fun x hx => by simp [spl, hx]⟩, ⟨rfl, rfl, rfl, rfl, rfl, rfl, rfl, trivial⟩⟩, ?_⟩
 rintro i0 _ G0 hi0 ⟨w, rfl, hw⟩
 refine ⟨fun h17 => ?_, fun h17 => ?_⟩
 ·replace h17 := of_decide_eq_true h17
  refine ⟨_, _, _, _, intV p n false f, q3_1, ⟨by simp, by omega⟩, fun x hx => by simp [spl, hx], ?_⟩
  refine ⟨_, i_basis_ok B E.2.2.2.1 (by omega), rfl, ?_⟩
  refine ⟨_, CallOK.at1 (app_old (app_old (app_old hh))) (i_Hopf_product_ok B E.2.2.2.2 (p := p) (n := n) (f := f) (by omega) (by omega) hn) rfl rfl, ?_⟩
  rintro _ _ ⟨rfl, rfl⟩
  refine ⟨_, rfl, by omega, by omega, ?_⟩
  refine ⟨i0, _, rfl, by omega, rfl, ?_⟩
  refine ⟨_, _, _, q3_2, cput_u (by simp) (by omega), eqBk_rfl, ?_⟩
  refine ⟨((i0 + 1 : Nat) : Int), w64_id _ (by omega) (by omega), ?_⟩
  refine ⟨by omega, (), ?_, ⟨rfl, rfl, rfl, rfl, rfl, rfl, rfl, trivial⟩⟩
  refine ⟨_, q3_s2, fun x hx => ?_⟩
  by_cases e : x = i0
  ·rw [show x = 0 + i0 * 1 by omega, upd_same, if_pos (by omega), show 0 + i0 * 1 = i0 by omega]
   unfold modV
   rw [if_pos (by omega)]
  ·rw [upd_ne _ _ _ _ (by omega), hw x hx]
   exact ifc (by omega)
 ·replace h17 := of_decide_eq_false h17
  have e0 : n = i0 := by omega
  subst e0
  refine ⟨_, _, _, _, modV p n f, q3_2, ⟨by simp, by omega⟩, fun x hx => by rw [Nat.zero_add, hw x hx]; unfold modV; split <;> rfl, ?_⟩
  refine ⟨_, _, _, app_old (app_old get_new), cputs_by (by simp) (by omega), eqBk_rfl, ?_⟩
  refine ⟨rfl, false, [], 8, _, modV p n f, set_same (app_old (app_old get_new)), ⟨by simp, by omega⟩, fun x hx => by simp [spl, hx], rfl, ?_⟩
  exact (Ext.app.trans (Ext.app.trans Ext.app)).set (by omega)

theorem s_l05Modular_ok (B : Bs P ρ) (E : F_s_l05Modular P ρ) {n : Nat} {p : Int} {f : By} (hs : HShp p n f) (hnz : fst8 (intV p n false f) < 8) :
  CallOK P ρ 312 [.ag [p, (n : Int)] 1106 f] [] (.one (.ag [] 8 (modV p n f))) [] := by
 obtain ⟨hp2, hp3, hn1, hn⟩ := hs.b
 refine (CallR.pure (call_of_q B.fn B.mo E.1 rfl (fun _ _ => ?_) rfl) rfl).ok
 refine ⟨0, rfl, ?_⟩
 refine ⟨1, rfl, ?_⟩
 refine .inl ⟨_, _, _, _, rfl, ⟨rfl, by omega⟩, ?_⟩
 refine ⟨_, s_l05Left_ok B E.2.1 (r := false) hs, rfl, ?_⟩
 refine ⟨2, rfl, ?_⟩
 refine ⟨3, rfl, ?_⟩
 refine ⟨_, _, _, rfl, cputs_by (by simp) (by omega), eqBk_rfl, ?_⟩
 refine ⟨_, _, _, rfl, cputs_by (by simp) (by omega), eqBk_rfl, ?_⟩
 refine ⟨_, _, _, _, intV p n false f, rfl, ⟨by simp, by omega⟩, fun x hx => by simp [spl, hx], ?_⟩
 refine ⟨_, s_l01First_ok B E.2.2.1 , rfl, ?_⟩
 refine ⟨Unit, (fun a1 a2 a3 a4 a5 (i0 : Nat) (x0 : Unit) => [(1, a1), (2, a2), (3, a3), (4, a4), (5, a5), (6, .one (.i .i64 ((i0 : Nat) : Int)))]) _ _ _ _ _ , fun (i0 : Nat) (x0 : Unit) (G0 : List Blk) => (∃ w, (G0[0]? = some ⟨false, .by [p, (n : Int)] 1106 f⟩ ∧ G0[1]? = some ⟨false, .by [] 8 fun _ => 0⟩ ∧ G0[2]? = some ⟨false, .by [] 8 (spl (fun _ => 0) 0 8 (intV p n false f))⟩ ∧ G0[3]? = some ⟨false, .by [] 8 w⟩) ∧ ∀ x, x < 8 → w x = if x < i0 then modV p n f x else 0), n, ⟨(), ⟨_, ⟨rfl, rfl, rfl, rfl⟩, fun x hx => by simp [spl, hx]⟩, ⟨rfl, rfl, rfl, rfl, rfl, rfl, trivial⟩⟩, ?_⟩
 rintro i0 _ G0 hi0 ⟨w, ⟨hb1, hb2, hb3, hb4⟩, hw⟩
 refine ⟨_, _, hb1, rfl, ?_⟩
 refine ⟨fun h17 => ?_, fun h17 => ?_⟩
 ·replace h17 := of_decide_eq_true h17
  iterate 2 refine brB_t ?_
  refine ⟨fun h20 => ?_, fun h20 => ?_⟩
  ·replace h20 := of_decide_eq_true h20
   refine .inl ⟨_, _, _, _, hb1, ⟨rfl, by omega⟩, ?_⟩
   refine ⟨_, s_l03Algebra_ok B E.2.2.2.1 , rfl, ?_⟩
   refine ⟨_, _, _, _, intV p n false f, hb3, ⟨by simp, by omega⟩, fun x hx => by simp [spl, hx], ?_⟩
   refine ⟨_, s_l01Basis_ok B E.2.2.2.2.1 (by omega), rfl, ?_⟩
   refine ⟨_, s_l01Times_ok B E.2.2.2.2.2 (by omega) (by omega) hn, rfl, ?_⟩
   refine ⟨_, rfl, ?_⟩
   refine ⟨⟨by first | exact kept1 hb1 (app_old hb1) | exact kept1 hb3 (app_old hb3), by first | exact kept1 hb1 (app_old hb1) | exact kept1 hb3 (app_old hb3), trivial⟩, ?_⟩
   refine ⟨_, _, _, get_new, cputs_by (by simp) (by omega), eqBk_rfl, ?_⟩
   rw [app_set0]
   refine ⟨fst8 (intV p n false f), fst8 (intV p n false f), rfl, hnz, by omega, ?_⟩
   refine ⟨_, _, get_new, cat_u hnz, ?_⟩
   refine ⟨i0, _, rfl, by omega, rfl, ?_⟩
   refine ⟨_, _, _, app_old hb4, cput_u (by simp) (by omega), eqBk_rfl, ?_⟩
   refine ⟨((i0 + 1 : Nat) : Int), w64_id _ (by omega) (by omega), ?_⟩
   refine ⟨by omega, (), ?_, ⟨rfl, rfl, rfl, rfl, rfl, rfl, trivial⟩⟩
   refine ⟨_, ⟨set_other (app_old hb1) (by omega), set_other (app_old hb2) (by omega), set_other (app_old hb3) (by omega), set_same (app_old hb4)⟩, fun x hx => ?_⟩
   by_cases e : x = i0
   ·rw [show x = 0 + i0 * 1 by omega, upd_same, if_pos (by omega), show 0 + i0 * 1 = i0 by omega]
    unfold modV
    rw [if_pos (by omega)]
    simp [spl, hnz]
   ·rw [upd_ne _ _ _ _ (by omega), hw x hx]
    exact ifc (by omega)
  ·replace h20 := of_decide_eq_false h20
   exact absurd hnz (by omega)
 ·replace h17 := of_decide_eq_false h17
  iterate 3 refine brB_f ?_
  refine ⟨_, _, _, _, modV p n f, hb4, ⟨by simp, by omega⟩, fun x hx => by
   rw [Nat.zero_add, hw x hx]
   by_cases e : x < i0
   ·rw [if_pos e]
   ·rw [if_neg e]; unfold modV; rw [if_neg (by omega)], ?_⟩
  refine ⟨_, _, _, hb2, cputs_by (by simp) (by omega), eqBk_rfl, ?_⟩
  refine ⟨rfl, false, [], 8, _, modV p n f, set_same hb2, ⟨by simp, by omega⟩, fun x hx => by simp [spl, hx], rfl, Ext.nil⟩

end Hf
namespace Hf
open Go Classical
variable {P : Program} {ρ : Nat → FuncId}
theorem i_ModularElement_ok (B : Bs P ρ) (E : F_i_ModularElement P ρ) {p n : Int} {f : By} :
  CallOK P ρ 328 [.ag [p, n] 1106 f] [] (.tup [.ag [] 8 (if Hop p n f then modV p n.toNat (dD f) else z0), .i .i64 (oc (Hop p n f) 1)]) [] := by
 refine (CallR.pure (call_of_q B.fn B.mo E.1 rfl (fun _ _ => ?_) rfl) rfl).ok
 refine ⟨_, rfl, ?_⟩
 refine ⟨_, rfl, ?_⟩
 refine ⟨_, CallOK.at1 (app_old get_new) (i_Hopf_code_nil_ok B E.2.1 (p := p) (n := n) (f := f)) rfl rfl, ?_⟩
 rintro _ _ ⟨rfl, rfl⟩
 refine ⟨fun h8 => ?_, fun h8 => ?_⟩
 ·replace h8 := bne_t h8
  have hq : ¬ Hop p n f := fun q => h8 (if_pos q)
  refine ⟨_, _, _, get_new, cputs_by (by simp) (by omega), eqBk_rfl, ?_⟩
  refine ⟨rfl, false, [], 8, _, (if Hop p n f then modV p n.toNat (dD f) else z0), set_same get_new, ⟨by simp, by omega⟩, fun x hx => ?_, by first | rfl | (rw [show oc (Hop p n f) 1 = 1 from oc_f hq]; rfl), Ext.nil⟩
  rw [if_neg hq]; simp [spl, hx, z0]
 ·replace h8 := bne_f h8
  have hq : Hop p n f := oc_0 (q := Hop p n f) h8
  obtain ⟨n, rfl⟩ : ∃ m : Nat, n = (m : Int) := ⟨n.toNat, by have := hq.1.1.2.1; omega⟩
  have hpr := hq.1.1.1
  have hp2 := hpr.1
  have hp3 := hpr.2.1
  have hn8 : n ≤ 8 := by have := hq.1.1.2.2; omega
  refine ⟨_, i_Hopf_dual_ok B E.2.2.1 (app_old get_new), ?_⟩
  rintro _ _ ⟨rfl, rfl⟩
  refine ⟨_, rfl, ?_⟩
  refine ⟨_, _, _, get_new, rfl, eqBk_rfl, ?_⟩
  rw [app_set0]
  refine ⟨_, i_Hopf_modular_ok B E.2.2.2 hpr hn8 get_new (hop_nzd hq), ?_⟩
  rintro _ _ ⟨rfl, rfl⟩
  refine ⟨_, _, _, app_old get_new, cputs_by (by simp) (by omega), eqBk_rfl, ?_⟩
  refine ⟨rfl, false, [], 8, _, (if Hop p n f then modV p (n : Int).toNat (dD f) else z0), set_same (app_old get_new), ⟨by simp, by omega⟩, fun x hx => ?_, by rw [show oc (Hop p n f) 1 = 0 from oc_t hq]; rfl, Ext.nil⟩
  rw [if_pos hq, Int.toNat_natCast]; simp [spl, hx]

theorem s_ModularElement_ok (B : Bs P ρ) (E : F_s_ModularElement P ρ) {p n : Int} {f : By} :
  CallOK P ρ 327 [.ag [p, n] 1106 f] [] (.tup [.ag [] 8 (if Hop p n f then modV p n.toNat (dD f) else z0), .i .i64 (oc (Hop p n f) 1)]) [] := by
 refine (CallR.pure (call_of_q B.fn B.mo E.1 rfl (fun _ _ => ?_) rfl) rfl).ok
 refine ⟨_, rfl, ?_⟩
 refine ⟨_, rfl, ?_⟩
 refine .inl ⟨_, _, _, _, app_old get_new, ⟨rfl, by omega⟩, ?_⟩
 refine ⟨_, s_l03Is_ok B E.2.1 , rfl, ?_⟩
 refine ⟨fun h6 => ?_, fun h6 => ?_⟩
 ·skip
  have hq : ¬ Hop p n f := fun q => by rw [decide_eq_true q] at h6; cases h6
  refine ⟨_, _, _, get_new, cputs_by (by simp) (by omega), eqBk_rfl, ?_⟩
  refine ⟨rfl, false, [], 8, _, (if Hop p n f then modV p n.toNat (dD f) else z0), set_same get_new, ⟨by simp, by omega⟩, fun x hx => ?_, by first | rfl | (rw [show oc (Hop p n f) 1 = 1 from oc_f hq]; rfl), Ext.nil⟩
  rw [if_neg hq]; simp [spl, hx, z0]
 ·skip
  have hq : Hop p n f := by simpa using h6
  obtain ⟨n, rfl⟩ : ∃ m : Nat, n = (m : Int) := ⟨n.toNat, by have := hq.1.1.2.1; omega⟩
  have hpr := hq.1.1.1
  have hp2 := hpr.1
  have hp3 := hpr.2.1
  have hn8 : n ≤ 8 := by have := hq.1.1.2.2; omega
  refine .inl ⟨_, _, _, _, app_old get_new, ⟨rfl, by omega⟩, ?_⟩
  refine ⟨_, s_l03Dual_ok B E.2.2.1 hq.1, rfl, ?_⟩
  refine ⟨_, s_l05Modular_ok B E.2.2.2 (dD_shp hq.1) (hop_nzd hq), rfl, ?_⟩
  refine ⟨_, _, _, get_new, cputs_by (by simp) (by omega), eqBk_rfl, ?_⟩
  refine ⟨rfl, false, [], 8, _, (if Hop p n f then modV p (n : Int).toNat (dD f) else z0), set_same get_new, ⟨by simp, by omega⟩, fun x hx => ?_, by rw [show oc (Hop p n f) 1 = 0 from oc_t hq]; rfl, Ext.nil⟩
  rw [if_pos hq, Int.toNat_natCast]; simp [spl, hx]

theorem l_FnExactModularElement_ok (B : Bs P ρ) (E : F_l_FnExactModularElement P ρ) {p n : Int} {f : By} :
  CallOK P ρ 329 [.ag [p, n] 1106 f] [] (.one (.b true)) [] := by
 refine (CallR.pure (call_of_q B.fn B.mo E.1 rfl (fun _ _ => ?_) rfl) rfl).ok
 refine ⟨_, rfl, ?_⟩
 have hEx : Ext ([] ++ [(⟨false, .by [p, n] 1106 f⟩ : Blk)]) ([] ++ [(⟨false, .by [p, n] 1106 f⟩ : Blk)]) := Ext.refl
 refine .inl ⟨_, _, _, _, rfl, ⟨rfl, by omega⟩, ?_⟩
 refine ⟨_, l_toHopf_ok B E.2.1 , rfl, ?_⟩
 refine ⟨_, s_ModularElement_ok B E.2.2.1 , rfl, ?_⟩
 refine ⟨_, rfl, ?_⟩
 refine ⟨_, _, _, get_new, cputs_by (by simp) (by omega), eqBk_rfl, ?_⟩
 refine .inl ⟨_, _, _, _, rfl, ⟨rfl, by omega⟩, ?_⟩
 refine ⟨_, l_toHopf_ok B E.2.1 , rfl, ?_⟩
 refine ⟨_, i_ModularElement_ok B E.2.2.2.1 , rfl, ?_⟩
 refine ⟨_, rfl, ?_⟩
 refine ⟨_, _, _, get_new, cputs_by (by simp) (by omega), eqBk_rfl, ?_⟩
 refine ⟨_, _, _, _, _, rfl, ⟨by simp, by omega⟩, fun _ _ => rfl, ?_⟩
 refine ⟨_, _, _, _, _, rfl, ⟨by simp, by omega⟩, fun _ _ => rfl, ?_⟩
 refine ⟨_, l_eqVector_ok B E.2.2.2.2 , rfl, ?_⟩
 iterate 4 refine brB_f ?_
 refine brB_f' (by simp) ?_
 exact ⟨rfl, rfl, Ext.nil⟩

end Hf
