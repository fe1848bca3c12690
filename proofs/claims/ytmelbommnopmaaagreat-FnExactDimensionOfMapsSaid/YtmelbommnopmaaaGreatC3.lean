/- Contracts of the functions that the law reaches. -/
import Derived.Test.YtmelbommnopmaaaGreatC2
set_option linter.unusedVariables false
set_option linter.unusedSimpArgs false
namespace Hf
open Go Classical
section
variable {W : Nat} {p : Int}
/-- the first row from r on with an entry in column c, or all -/
def fwB (R : List By) (r c : Nat) : Nat := fstN (fun i => (R.getD i z0) c != 0) (R.length - r) r
def fwF (p : Int) (v row : By) (c : Nat) : Int := bz v c * ((invN p (row c) : Nat) : Int) % p
/-- row i behind the step -/
def fwR (W : Nat) (p : Int) (R : List By) (r c b i : Nat) : By :=
  if i = r then R.getD b z0 else if r < i then addW W p (if i = b then R.getD r z0 else R.getD i z0) (R.getD b z0) (-(fwF p (if i = b then R.getD r z0 else R.getD i z0) (R.getD b z0) c)) else R.getD i z0
def fwL (W : Nat) (p : Int) (R : List By) (r c b : Nat) : List By := (List.range R.length).map (fwR W p R r c b)
theorem fwL_len {R : List By} {r c b : Nat} : (fwL W p R r c b).length = R.length := by simp [fwL]
theorem fwL_at {R : List By} {r c b i : Nat} (h : i < R.length) : (fwL W p R r c b).getD i z0 = fwR W p R r c b i := by simp [fwL, List.getD_eq_getElem?_getD, h]
/-- after so many columns -/
def fw (W : Nat) (p : Int) (R : List By) : Nat → List By × Nat
  | 0 => (R, 0)
  | c + 1 => let x := fw W p R c; let b := fwB x.1 x.2 c; if b = x.1.length then x else (fwL W p x.1 x.2 c b, x.2 + 1)
structure Fw (W : Nat) (p : Int) (R0 : List By) (c : Nat) (R : List By) (r : Nat) : Prop where
  len : R.length = R0.length
  vp : ∀ v ∈ R, Vp W p v
  sp : SpE W p R R0
  le : r ≤ R.length
  ld : ∀ i, i < r → fstW W (R.getD i z0) < c ∧ fstW W (R.getD i z0) < W
  st : ∀ i j, i < j → j < r → fstW W (R.getD i z0) < fstW W (R.getD j z0)
  ze : ∀ i, r ≤ i → i < R.length → ∀ y, y < c → (R.getD i z0) y = 0
theorem vp_at {R : List By} (hp : 1 ≤ p) (h : ∀ v ∈ R, Vp W p v) (i : Nat) : Vp W p (R.getD i z0) := by
  by_cases hi : i < R.length
  · exact h _ (getD_mem hi)
  · rw [List.getD_eq_getElem?_getD, List.getElem?_eq_none (by omega)]; exact Vp.z hp
theorem mem_at' {L : List By} {u : By} (h : u ∈ L) : ∃ j, j < L.length ∧ L.getD j z0 = u := by
  obtain ⟨t, ht, rfl⟩ := List.mem_iff_getElem.1 h
  exact ⟨t, ht, by rw [List.getD_eq_getElem?_getD, List.getElem?_eq_getElem ht]; rfl⟩
theorem Fw.step (hp : Pr p) {R0 R : List By} {r c : Nat} (h : Fw W p R0 c R r) (hc : c < W) :
    if fwB R r c = R.length then Fw W p R0 (c + 1) R r else Fw W p R0 (c + 1) (fwL W p R r c (fwB R r c)) (r + 1) := by
  have hp1 := hp.1
  have hp2 := hp.2.1
  have hle := h.le
  have hva := vp_at (by omega) h.vp
  have hge := @fstN_ge (fun i => (R.getD i z0) c != 0) (R.length - r) r
  have hb1 : r ≤ fwB R r c := hge.1
  have hb2 : fwB R r c ≤ R.length := by unfold fwB; omega
  split
  · rename_i e
    refine ⟨h.len, h.vp, h.sp, h.le, fun i hi => ⟨by have := (h.ld i hi).1; omega, (h.ld i hi).2⟩, h.st, fun i h1 h2 y hy => ?_⟩
    by_cases q : y < c
    · exact h.ze i h1 h2 y q
    · obtain rfl : y = c := by omega
      have := @fstN_none (fun i => (R.getD i z0) y != 0) (R.length - r) r i h1 (by have e' : fstN (fun i => (R.getD i z0) y != 0) (R.length - r) r = R.length := e; omega)
      simpa using this
  · rename_i e
    have hbl : fwB R r c < R.length := by omega
    generalize hbd : fwB R r c = b at *
    have hbne : (R.getD b z0) c ≠ 0 := by
      have := @fstN_some (fun i => (R.getD i z0) c != 0) (R.length - r) r (by have e' : fstN (fun i => (R.getD i z0) c != 0) (R.length - r) r = b := hbd; omega)
      rw [show fstN (fun i => (R.getD i z0) c != 0) (R.length - r) r = b from hbd] at this
      simpa using this
    have hb0 : ∀ y, y < c → (R.getD b z0) y = 0 := h.ze b hb1 hbl
    have hbf : fstW W (R.getD b z0) = c := fstW_eq hc hbne hb0
    -- the row that is reduced
    have hw : ∀ i, r < i → i < R.length → ∃ j, r ≤ j ∧ j < R.length ∧ (if i = b then R.getD r z0 else R.getD i z0) = R.getD j z0 := fun i h1 h2 => by
      by_cases q : i = b
      · exact ⟨r, Nat.le_refl _, by omega, if_pos q⟩
      · exact ⟨i, by omega, h2, if_neg q⟩
    have hN : ∀ i, i < R.length → Vp W p (fwR W p R r c b i) := fun i hi => by
      unfold fwR
      split
      · exact hva b
      · split
        · exact Vp.add (by omega) (by omega)
        · exact hva i
    have hNm : ∀ i, i < R.length → fwR W p R r c b i ∈ fwL W p R r c b := fun i hi => List.mem_map_of_mem (List.mem_range.2 hi)
    have hRm : ∀ i, i < R.length → Sp' W p R (R.getD i z0) := fun i hi => .mem (by omega) (by omega) (getD_mem hi) (hva i)
    have hNs : ∀ i, i < R.length → Sp' W p (fwL W p R r c b) (fwR W p R r c b i) := fun i hi => .mem (by omega) (by omega) (hNm i hi) (hN i hi)
    have hrow : Sp' W p (fwL W p R r c b) (R.getD b z0) := by
      have := hNs r (by omega)
      unfold fwR at this; rwa [if_pos rfl] at this
    have back : ∀ i, r < i → i < R.length → Sp' W p (fwL W p R r c b) (if i = b then R.getD r z0 else R.getD i z0) := fun i h1 h2 => by
      have q := hNs i h2
      unfold fwR at q
      rw [if_neg (by omega), if_pos h1] at q
      generalize hv : (if i = b then R.getD r z0 else R.getD i z0) = v at q ⊢
      have q2 := q.add (k := fwF p v (R.getD b z0) c) (by omega) (by omega) hrow
      rw [add_add (by omega) (by omega), show -(fwF p v (R.getD b z0) c) + fwF p v (R.getD b z0) c = 0 by omega] at q2
      have hvv : Vp W p v := by
        rw [← hv]; split
        · exact hva r
        · exact hva i
      rwa [add_0 (by omega) (by omega) hvv] at q2
    refine ⟨by rw [fwL_len]; exact h.len, ?_, ?_, by rw [fwL_len]; omega, ?_, ?_, ?_⟩
    · intro v hv
      obtain ⟨i, hi, rfl⟩ := List.mem_map.1 hv
      exact hN i (List.mem_range.1 hi)
    · refine (SpE.of (by omega) (by omega) (fun v hv => ?_) fun v hv => ?_).trans h.sp
      · obtain ⟨i, hi, rfl⟩ := List.mem_map.1 hv
        have hi := List.mem_range.1 hi
        unfold fwR
        split
        · exact hRm b hbl
        · split
          · rename_i h1
            obtain ⟨j, hj1, hj2, ej⟩ := hw i h1 hi
            rw [ej]
            exact (hRm j hj2).add (by omega) (by omega) (hRm b hbl)
          · exact hRm i hi
      · obtain ⟨i, hi, rfl⟩ := mem_at' hv
        rcases Nat.lt_trichotomy i r with q | q | q
        · have := hNs i hi
          unfold fwR at this
          rwa [if_neg (by omega), if_neg (by omega)] at this
        · subst q
          by_cases e2 : b = i
          · rw [← e2]; rw [← e2] at hrow; exact hrow
          · have := back b (by omega) hbl
            rwa [if_pos rfl] at this
        · by_cases e2 : i = b
          · rw [e2]; exact hrow
          · have := back i q hi
            rwa [if_neg e2] at this
    · intro i hi
      rw [fwL_at (by omega)]
      unfold fwR
      by_cases q : i = r
      · rw [if_pos q, hbf]; exact ⟨by omega, hc⟩
      · rw [if_neg q, if_neg (by omega)]
        have := h.ld i (by omega)
        exact ⟨by omega, this.2⟩
    · intro i j hij hj
      rw [fwL_at (by omega), fwL_at (by omega)]
      unfold fwR
      rw [if_neg (show i ≠ r by omega), if_neg (show ¬ r < i by omega)]
      by_cases q : j = r
      · rw [if_pos q, hbf]; exact (h.ld i (by omega)).1
      · rw [if_neg q, if_neg (by omega)]
        exact h.st i j hij (by omega)
    · intro i h1 h2 y hy
      rw [fwL_len] at h2
      rw [fwL_at h2]
      unfold fwR
      rw [if_neg (by omega), if_pos (by omega)]
      obtain ⟨j, hj1, hj2, ej⟩ := hw i (by omega) h2
      rw [ej]
      refine bz_eq0.1 ?_
      rw [bz_add (by omega) (by omega) (by omega)]
      by_cases q : y < c
      · rw [bz_eq0.2 (h.ze j hj1 hj2 y q), bz_eq0.2 (hb0 y q)]; simp
      · obtain rfl : y = c := by omega
        have hx2 := (hva b).1 y
        obtain ⟨-, hinv⟩ := inv_ok hp hbne hx2
        have e1 : cg p (((invN p ((R.getD b z0) y) : Nat) : Int) * bz (R.getD b z0) y) 1 := by
          unfold cg; rw [show bz (R.getD b z0) y = (((R.getD b z0) y).toNat : Int) from rfl, hinv, Int.emod_eq_of_lt (by omega) (by omega)]
        have e2 : cg p (fwF p (R.getD j z0) (R.getD b z0) y * bz (R.getD b z0) y) (bz (R.getD j z0) y) := by
          have : cg p (fwF p (R.getD j z0) (R.getD b z0) y) (bz (R.getD j z0) y * ((invN p ((R.getD b z0) y) : Nat) : Int)) := by unfold fwF cg; rw [Int.emod_emod_of_dvd _ (Int.dvd_refl p)]
          refine (cg_mul this cg.rfl').trans ((cg_of_eq (by rw [Int.mul_assoc])).trans ((cg_mul cg.rfl' e1).trans (cg_of_eq (by omega))))
        have e3 : cg p (bz (R.getD j z0) y + -(fwF p (R.getD j z0) (R.getD b z0) y) * bz (R.getD b z0) y) 0 := by
          refine (cg_of_eq (by grind)).trans ((cg_add (cg.rfl' (a := bz (R.getD j z0) y)) (cg_mul (cg.rfl' (a := -1)) e2)).trans (cg_of_eq (by grind)))
        unfold cg at e3; rw [e3]; simp
theorem Fw.all (hp : Pr p) {R0 : List By} (h : ∀ v ∈ R0, Vp W p v) : ∀ {c : Nat}, c ≤ W → Fw W p R0 c (fw W p R0 c).1 (fw W p R0 c).2
  | 0, _ => ⟨rfl, h, SpE.rfl', Nat.zero_le _, fun i hi => absurd hi (Nat.not_lt_zero _), fun i j _ hj => absurd hj (Nat.not_lt_zero _), fun i _ _ y hy => absurd hy (Nat.not_lt_zero _)⟩
  | c + 1, hc => by
    have q := (Fw.all hp h (c := c) (by omega)).step hp (by omega)
    simp only [fw]
    split
    · rename_i e; rw [if_pos e] at q; exact q
    · rename_i e; rw [if_neg e] at q; exact q
/-- the rank is the length of the reduced list -/
theorem fw_rank (hp : Pr p) {R B : List By} (h : ∀ v ∈ R, Vp W p v) (hB : RR W p B) (hs : SpE W p R B) : (fw W p R W).2 = B.length := by
  have hp1 := hp.1
  have hp2 := hp.2.1
  have f := Fw.all hp h (Nat.le_refl W)
  generalize (fw W p R W).1 = N at f
  generalize (fw W p R W).2 = r at f
  have hle := f.le
  have hE : Ech W p (N.take r) := by
    refine ⟨fun e he => f.vp e (List.mem_of_mem_take he), fun e he => ?_, ?_⟩
    · obtain ⟨i, hi, rfl⟩ := mem_at' he
      rw [List.length_take] at hi
      rw [show (N.take r).getD i z0 = N.getD i z0 from by rw [List.getD_eq_getElem?_getD, List.getD_eq_getElem?_getD, List.getElem?_take_of_lt (by omega)]]
      exact (f.ld i (by omega)).2
    · rw [List.pairwise_iff_getElem]
      intro i j hi hj hij
      rw [List.length_take] at hi hj
      have g : ∀ k, k < r → ∀ hk, (N.take r)[k]'hk = N.getD k z0 := fun k hk hk2 => by
        rw [List.getElem_take, List.getD_eq_getElem?_getD, List.getElem?_eq_getElem (by omega)]; rfl
      rw [g i (by omega), g j (by omega)]
      exact f.st i j hij (by omega)
  have hsp : SpE W p (N.take r) B := by
    refine (SpE.of (by omega) (by omega) (fun v hv => .mem (by omega) (by omega) (List.mem_of_mem_take hv) (f.vp v (List.mem_of_mem_take hv))) fun v hv => ?_).trans (f.sp.trans hs)
    obtain ⟨i, hi, rfl⟩ := mem_at' hv
    by_cases q : i < r
    · refine .mem (by omega) (by omega) ?_ (f.vp _ (getD_mem hi))
      have : (N.take r).getD i z0 = N.getD i z0 := by rw [List.getD_eq_getElem?_getD, List.getD_eq_getElem?_getD, List.getElem?_take_of_lt (by omega)]
      rw [← this]; exact getD_mem (by rw [List.length_take]; omega)
    · have : N.getD i z0 = z0 := by
        funext x
        by_cases hx : x < W
        · exact f.ze i (by omega) hi x hx
        · exact (f.vp _ (getD_mem hi)).2 x (by omega)
      rw [this]; exact .z
  have := hE.len hp hB hsp
  rwa [List.length_take, Nat.min_eq_left hle] at this
end
end Hf
namespace Hf
open Go Classical
variable {P : Program} {ρ : Nat → FuncId}
/-- a row of numbers -/
def IRow (H : List Blk) (W : Nat) (a : At) (v : By) : Prop := VI H a ((List.range W).map fun x => bz v x) ∧ a.cell1 = true
def IRows (H : List Blk) (W : Nat) (ra : At) (As : List At) (R : List By) : Prop := As.length = R.length ∧ ∀ i, i < As.length → IRow H W (As.getD i .sn) (R.getD i z0) ∧ ∀ k ∈ spB (As.getD i .sn), k ∉ spB ra
theorem rdR_fr {l : List Nat} {H H' : List Blk} {a : At} {L : List At} (h : rdR H a L) (e : Fr l H H') (hn : ∀ k ∈ spB a, k ∉ l) : rdR H' a L := by
  cases a with
  | sl k o m c =>
    obtain ⟨r, q, hk, h1, h2⟩ := h
    exact ⟨r, q, e _ _ (hn k (by simp [spB])) hk, h1, h2⟩
  | sn => exact h
  | _ => exact h.elim
theorem IRow.fr {l : List Nat} {H H' : List Blk} {W : Nat} {a : At} {v : By} (h : IRow H W a v) (e : Fr l H H') (hn : ∀ k ∈ spB a, k ∉ l) : IRow H' W a v := ⟨rdR_fr h.1 e hn, h.2⟩
theorem IRow.ext {H H' : List Blk} {W : Nat} {a : At} {v : By} (h : IRow H W a v) (e : Ext H H') : IRow H' W a v := ⟨h.1.ext e, h.2⟩
theorem IRow.len {H : List Blk} {W : Nat} {a : At} {v : By} (h : IRow H W a v) : lenA a = some W := by have := h.1.len; rwa [List.length_map, List.length_range] at this
theorem IRow.at {H : List Blk} {W : Nat} {a : At} {v : By} (h : IRow H W a v) (x : Nat) (hx : x < W) :
    ∃ k off len cap q, a = .sl k off len cap ∧ x < len ∧ off + x * 1 = q ∧ ∃ r l, H[k]? = some ⟨r, .rw l⟩ ∧ l[q]? = some (.i .i64 (bz v x)) := by
  obtain ⟨k, off, len, cap, q, h1, h2, h3, r, l, h4, h5⟩ := h.1.at x (by simpa using hx)
  refine ⟨k, off, len, cap, q, h1, h2, h3, r, l, h4, ?_⟩
  rw [h5]; simp [List.getD_eq_getElem?_getD, hx]
theorem fw_nil {W : Nat} {p : Int} : ∀ {c : Nat}, fw W p [] c = ([], 0)
  | 0 => rfl
  | c + 1 => by simp only [fw]; rw [fw_nil]; simp [fwB, fstN]
theorem getD_set {α : Type} {z x : α} {L : List α} {i j : Nat} (hj : j < L.length) : (L.set i x).getD j z = if i = j then x else L.getD j z := by
  rw [List.getD_eq_getElem?_getD, List.getD_eq_getElem?_getD, List.getElem?_set]
  by_cases e : i = j
  · subst e; rw [if_pos rfl, if_pos rfl, if_pos hj]; rfl
  · rw [if_neg e, if_neg e]
/-- the rows while those behind row r are reduced -/
def fwM (W : Nat) (p : Int) (N : List By) (r c b k : Nat) : List By := (List.range N.length).map fun j => if j < r + 1 + k then fwR W p N r c b j else if j = b then N.getD r z0 else N.getD j z0
theorem fwM_at {W : Nat} {p : Int} {N : List By} {r c b k j : Nat} (h : j < N.length) : (fwM W p N r c b k).getD j z0 = if j < r + 1 + k then fwR W p N r c b j else if j = b then N.getD r z0 else N.getD j z0 := by simp [fwM, List.getD_eq_getElem?_getD, h]
theorem fwM_len {W : Nat} {p : Int} {N : List By} {r c b k : Nat} : (fwM W p N r c b k).length = N.length := by simp [fwM]
theorem fwM_0 {W : Nat} {p : Int} {N : List By} {r c b j : Nat} (h : j < N.length) : (fwM W p N r c b 0).getD j z0 = if j = r then N.getD b z0 else if j = b ∧ r < j then N.getD r z0 else N.getD j z0 := by
  rw [fwM_at h]
  unfold fwR
  by_cases h1 : j = r
  · rw [if_pos (by omega), if_pos h1, if_pos h1]
  · by_cases h2 : j < r
    · rw [if_pos (by omega), if_neg h1, if_neg (by omega), if_neg h1, if_neg (by omega)]
    · rw [if_neg (by omega), if_neg h1]
      by_cases h3 : j = b
      · rw [if_pos h3, if_pos ⟨h3, by omega⟩]
      · rw [if_neg h3, if_neg fun q => h3 q.1]
theorem fwM_all {W : Nat} {p : Int} {N : List By} {r c b k : Nat} (h : N.length ≤ r + 1 + k) : fwM W p N r c b k = fwL W p N r c b := by
  unfold fwM fwL
  refine List.map_congr_left fun j hj => ?_
  have := List.mem_range.1 hj
  rw [if_pos (by omega)]
theorem fwM_succ {W : Nat} {p : Int} {N : List By} {r c b k j : Nat} (h : j < N.length) : (fwM W p N r c b (k + 1)).getD j z0 = if j = r + 1 + k then fwR W p N r c b j else (fwM W p N r c b k).getD j z0 := by
  rw [fwM_at h, fwM_at h]
  by_cases e : j = r + 1 + k
  · rw [if_pos e, if_pos (by omega)]
  · rw [if_neg e]
    by_cases q : j < r + 1 + k
    · rw [if_pos q, if_pos (by omega)]
    · rw [if_neg q, if_neg (by omega)]
theorem Spn.ext' {H H' : List Blk} {ra : At} {As : List At} (h : Spn H ra As) (e : Ext H H') : Spn H' ra As := h.fr (l := []) e.fr (by simp)
def nwL (W : Nat) (p : Int) (w row : By) (f : Int) (k : Nat) : List At := (List.range k).map fun x => At.i .i64 (bz (addW W p w row (-f)) x)
theorem nwL_succ {W : Nat} {p : Int} {w row : By} {f : Int} {k : Nat} : nwL W p w row f (k + 1) = nwL W p w row f k ++ [At.i .i64 (bz (addW W p w row (-f)) k)] := by unfold nwL; rw [List.range_succ, List.map_append]; rfl
/-- the row at j is what it is to be -/
theorem IRows.keep {G2 G3 : List Blk} {W : Nat} {p : Int} {ra : At} {A : List At} {N : List By} {r c b k : Nat} (h : IRows G2 W ra A (fwM W p N r c b k)) (e : Ext G2 G3) (hk : r + 1 + k < N.length) (hw : fwR W p N r c b (r + 1 + k) = (fwM W p N r c b k).getD (r + 1 + k) z0) : IRows G3 W ra A (fwM W p N r c b (k + 1)) := by
  have hl := h.1
  rw [fwM_len] at hl
  refine ⟨by rw [fwM_len]; exact hl, fun i hi => ?_⟩
  obtain ⟨h1, h2⟩ := h.2 i hi
  refine ⟨?_, h2⟩
  rw [fwM_succ (by omega)]
  by_cases q : i = r + 1 + k
  · rw [if_pos q, show fwR W p N r c b i = (fwM W p N r c b k).getD i z0 from by rw [q]; exact hw]; exact h1.ext e
  · rw [if_neg q]; exact h1.ext e
theorem IRows.put {G2 G3 G4 : List Blk} {W : Nat} {p : Int} {ra x : At} {A : List At} {N : List By} {r c b k : Nat} (h : IRows G2 W ra A (fwM W p N r c b k)) (e : Ext G2 G3) (f : Fr (spB ra) G3 G4) (hk : r + 1 + k < N.length)
    (hx : IRow G3 W x (fwR W p N r c b (r + 1 + k))) (hd : ∀ j ∈ spB x, j ∉ spB ra) : IRows G4 W ra (A.set (r + 1 + k) x) (fwM W p N r c b (k + 1)) := by
  have hl := h.1
  rw [fwM_len] at hl
  refine ⟨by rw [List.length_set, fwM_len]; exact hl, fun i hi => ?_⟩
  rw [List.length_set] at hi
  obtain ⟨h1, h2⟩ := h.2 i hi
  rw [fwM_succ (by omega), getD_set hi]
  by_cases q : i = r + 1 + k
  · rw [if_pos q, if_pos q.symm, q]; exact ⟨hx.fr f hd, hd⟩
  · rw [if_neg q, if_neg fun z => q z.symm]
    exact ⟨(h1.ext e).fr f h2, h2⟩
theorem nwL_row {G : List Blk} {W : Nat} {p f : Int} {w row : By} {x : At} (h : Spn G x (nwL W p w row f W)) : IRow G W x (addW W p w row (-f)) := by
  refine ⟨?_, h.cell⟩
  have := h.rd
  show rdR G x (((List.range W).map fun y => bz (addW W p w row (-f)) y).map (At.i .i64))
  rw [List.map_map]
  exact this
theorem bd_mul {a b p : Int} (h1 : 0 ≤ a) (h2 : a < p) (h3 : 0 ≤ b) (h4 : b < p) (hp : p ≤ 31) : 0 ≤ a * b ∧ a * b ≤ 961 :=  mul_bd2 (c := 31) (d := 31) h1 (by omega) h3 (by omega)
theorem w_mul {a b p : Int} (h1 : 0 ≤ a) (h2 : a < p) (h3 : 0 ≤ b) (h4 : b < p) (hp : p ≤ 31) : w64 (a * b) = a * b := by
  obtain ⟨q1, q2⟩ := bd_mul h1 h2 h3 h4 hp
  exact w64_id _ (by omega) (by omega)
theorem w_sub {x a b p : Int} (h1 : 0 ≤ a) (h2 : a < p) (h3 : 0 ≤ b) (h4 : b < p) (h5 : 0 ≤ x) (h6 : x < p) (hp : p ≤ 31) : w64 (x - a * b) = x - a * b := by
  obtain ⟨q1, q2⟩ := bd_mul h1 h2 h3 h4 hp
  exact w64_id _ (by omega) (by omega)
theorem w_tm {a p : Int} (h : 0 < p) (hp : p ≤ 31) : w64 (a.tmod p + p) = a.tmod p + p := by
  have h1 := Int.tmod_lt_of_pos a h
  have h2 := Int.lt_tmod_of_pos a h
  exact w64_id _ (by omega) (by omega)
theorem tm_em {a p : Int} (hp : 0 < p) : (a.tmod p + p).tmod p = a % p := by
  have h1 := Int.tmod_lt_of_pos a hp
  have h2 := Int.lt_tmod_of_pos a hp
  rw [Int.tmod_eq_emod_of_nonneg (by omega)]
  rw [Int.add_emod_right]
  rcases Int.lt_or_le a 0 with h | h
  · have e := Int.tmod_add_mul_tdiv a p
    rw [show a.tmod p = a + p * (-(a.tdiv p)) by rw [Int.mul_neg]; omega, Int.add_mul_emod_self_left]
  · rw [Int.tmod_eq_emod_of_nonneg h, Int.emod_emod_of_dvd _ (Int.dvd_refl p)]
set_option maxHeartbeats 4000000 in
theorem s_l06Rank_ok (B : Bs P ρ) (E : F_s_l06Rank P ρ) {m0 : Nat} {H : List Blk} {p : Int} {W : Nat} {ra : At} {As : List At} {R : List By} (hp : Pr p) (hW : 1 ≤ W) (hW2 : W ≤ 100000) (hra : Spn H ra As) (hrow : IRows H W ra As R) (hv : ∀ v ∈ R, Vp W p v) (hlen : R.length ≤ 100000) (hm0 : ∀ k ∈ spB ra, m0 ≤ k) (hm : m0 ≤ H.length) :
    CallR P ρ 394 [.i .i64 p, ra] H (fun u G => u = .one (.i .i64 (((fw W p R W).2 : Nat) : Int)) ∧ Upto m0 H G) := by
  have hp2 := hp.1
  have hp3 := hp.2.1
  have hge0 := hm0
  refine call_of_q B.fn B.mo E.1 rfl (fun hAr hHp => ?_) (by simp only [List.all_cons, List.all_nil, hra.lt.1]; rfl)
  refine ⟨Nat × List At × List By, (fun a0 a1 (i0 : Nat) (x0 : Nat × List At × List By) => match x0 with | ⟨r, A0, N⟩ => [(0, a0), (1, a1), (5, .one (.i .i64 ((r : Nat) : Int))), (6, .one (.i .i64 ((i0 : Nat) : Int)))]) _ _ , fun (i0 : Nat) (x0 : Nat × List At × List By) (G0 : List Blk) => match x0 with | ⟨r, A0, N⟩ => (Spn G0 ra A0 ∧ IRows G0 W ra A0 N ∧ (N, r) = fw W p R i0 ∧ Upto m0 H G0), W, ⟨(0, As, R), ⟨hra, hrow, rfl, Upto.refl⟩, ⟨rfl, rfl, rfl, rfl, trivial⟩⟩, ?_⟩
  rintro i0 ⟨r, A0, N⟩ G0 hi0 ⟨hS0, hR0, hF0, hU0⟩
  have hFw := Fw.all hp hv (c := i0) hi0
  rw [← hF0] at hFw
  dsimp only at hFw
  have hNl := hFw.len
  have hAl := hR0.1
  have hrle := hFw.le
  refine ⟨A0.length, hS0.len, ?_⟩
  refine ⟨fun h17 => ?_, fun h17 => ?_⟩
  · replace h17 := of_decide_eq_true h17
    refine brB_t ?_
    refine brB_t ?_
    have zz20 := rdR_at (hS0.rd) 0 (by omega)
    obtain ⟨k20, o20, n20, c20, q20, ea20, hl20, hq20, r20, l20, hk20, hi20⟩ := zz20
    refine ⟨k20, o20, n20, c20, 0, q20, ea20, rfl, hl20, hq20, ?_⟩
    refine brB_t ?_
    refine ⟨_, _, hk20, hi20, ?_⟩
    refine brB_t ?_
    refine ⟨W, ((hR0.2 0 (by omega)).1).len, ?_⟩
    refine brB_t ?_
    refine brB_t ?_
    refine ⟨fun h24 => ?_, fun h24 => ?_⟩
    · replace h24 := of_decide_eq_true h24
      refine ⟨Unit, (fun a0 a1 a5 a6 (i1 : Nat) (x1 : Unit) => [(0, a0), (1, a1), (5, a5), (6, a6), (7, .one (.i .i64 ((r + i1 : Nat) : Int)))]) _ _ _ _ , fun (i1 : Nat) (x1 : Unit) (G1 : List Blk) => ((∀ j, r ≤ j → j < r + i1 → (N.getD j z0) i0 = 0) ∧ G1 = G0), N.length - r, ⟨(), ⟨fun j h1 h2 => absurd h2 (by omega), rfl⟩, ⟨rfl, rfl, rfl, rfl, rfl, trivial⟩⟩, ?_⟩
      rintro i1 _ G1 hi1 ⟨hF1, rfl⟩
      refine ⟨A0.length, hS0.len, ?_⟩
      refine ⟨fun h32 => ?_, fun h32 => ?_⟩
      · replace h32 := of_decide_eq_true h32
        refine brB_t ?_
        refine brB_t ?_
        have zz35 := rdR_at (hS0.rd) ((r + i1)) (by omega)
        obtain ⟨k35, o35, n35, c35, q35, ea35, hl35, hq35, r35, l35, hk35, hi35⟩ := zz35
        refine ⟨k35, o35, n35, c35, (r + i1), q35, ea35, rfl, hl35, hq35, ?_⟩
        refine brB_t ?_
        refine ⟨_, _, hk35, hi35, ?_⟩
        refine brB_t ?_
        refine brB_t ?_
        have zz38 := IRow.at ((hR0.2 (r + i1) (by omega)).1) i0 (by omega)
        obtain ⟨k38, o38, n38, c38, q38, ea38, hl38, hq38, r38, l38, hk38, hi38⟩ := zz38
        refine ⟨k38, o38, n38, c38, i0, q38, ea38, rfl, hl38, hq38, ?_⟩
        refine brB_t ?_
        refine ⟨_, _, hk38, hi38, ?_⟩
        refine brB_t ?_
        refine brB_t ?_
        refine ⟨fun h41 => ?_, fun h41 => ?_⟩
        · replace h41 := eq_of_beq h41
          refine ⟨((r + (i1 + 1) : Nat) : Int), w64_id _ (by omega) (by omega), ?_⟩
          refine ⟨by omega, (), ?_, ⟨rfl, rfl, rfl, rfl, rfl, trivial⟩⟩
          refine ⟨fun j h1 h2 => ?_, rfl⟩
          by_cases e : j = r + i1
          · subst e; exact bz_eq0.1 h41
          · exact hF1 j h1 (by omega)
        · replace h41 := ne_of_beq_false h41
          have hbz : (N.getD (r + i1) z0) i0 ≠ 0 := fun q => h41 (bz_eq0.2 q)
          have hbd : fwB N r i0 = r + i1 := fstN_eq (by omega) (by omega) (by simpa using hbz) fun j h1 h2 => by simpa using hF1 j h1 h2
          refine ⟨A0.length, hS0.len, ?_⟩
          refine ⟨fun h47 => ?_, fun h47 => ?_⟩
          · replace h47 := eq_of_beq h47
            omega
          · replace h47 := ne_of_beq_false h47
            have zz50 := rdR_at (hS0.rd) ((r + i1)) (by omega)
            obtain ⟨k50, o50, n50, c50, q50, ea50, hl50, hq50, r50, l50, hk50, hi50⟩ := zz50
            refine ⟨k50, o50, n50, c50, (r + i1), q50, ea50, rfl, hl50, hq50, ?_⟩
            refine ⟨_, _, hk50, hi50, ?_⟩
            have zz56 := rdR_at (hS0.rd) r (by omega)
            obtain ⟨k56, o56, n56, c56, q56, ea56, hl56, hq56, r56, l56, hk56, hi56⟩ := zz56
            refine ⟨k56, o56, n56, c56, r, q56, ea56, rfl, hl56, hq56, ?_⟩
            refine ⟨_, _, hk56, hi56, ?_⟩
            have hcb := (hR0.2 (r + i1) (by omega)).1.2
            have hcr := (hR0.2 r (by omega)).1.2
            have zz58 := Spn.st (hS0) ((r + i1)) (by omega)
            obtain ⟨k58, o58, n58, c58, q58, C58, ea58, hl58, hq58, hk58, hs58⟩ := zz58
            refine ⟨k58, o58, n58, c58, (r + i1), q58, ea58, rfl, hl58, hq58, ?_⟩
            refine ⟨_, _, _, hk58, (hs58 _ hcr).1, eqBk_rfl, ?_⟩
            have hy58 := hs58 _ hcr
            obtain ⟨-, hsp1, hf1⟩ := hy58
            have zz62 := Spn.st (hsp1) r (by rw [List.length_set]; omega)
            obtain ⟨k62, o62, n62, c62, q62, C62, ea62, hl62, hq62, hk62, hs62⟩ := zz62
            refine ⟨k62, o62, n62, c62, r, q62, ea62, rfl, hl62, hq62, ?_⟩
            refine ⟨_, _, _, hk62, (hs62 _ hcb).1, eqBk_rfl, ?_⟩
            have hy62 := hs62 _ hcb
            obtain ⟨-, hsp2, hf2⟩ := hy62
            have hf := hf1.trans hf2
            have hrb := (hR0.2 (r + i1) (by omega)).1.fr hf (hR0.2 (r + i1) (by omega)).2
            have zz66 := IRow.at (hrb) i0 (by omega)
            obtain ⟨k66, o66, n66, c66, q66, ea66, hl66, hq66, r66, l66, hk66, hi66⟩ := zz66
            refine ⟨k66, o66, n66, c66, i0, q66, ea66, rfl, hl66, hq66, ?_⟩
            refine ⟨_, _, hk66, hi66, ?_⟩
            have hxp : (((N.getD (r + i1) z0) i0).toNat : Int) < p := (vp_at (by omega) hFw.vp (r + i1)).1 i0
            have hinv := inv_ok hp hbz hxp
            refine ⟨_, s_l01Inverse_ok B E.2 (p := p) (x := byt (bz (N.getD (r + i1) z0) i0)) (by omega) (by omega), rfl, ?_⟩
            rw [byt_bz, if_pos hinv.1]
            skip
            refine ⟨((r + 1 : Nat) : Int), w64_id _ (by omega) (by omega), ?_⟩
            refine ⟨List At, (fun a0 a1 a5 a6 a8 a9 (i2 : Nat) (x2 : List At) => [(0, a0), (1, a1), (5, a5), (6, a6), (8, a8), (9, a9), (10, .one (.i .i64 ((r + 1 + i2 : Nat) : Int)))]) _ _ _ _ _ _ , fun (i2 : Nat) (x2 : List At) (G2 : List Blk) => (Spn G2 ra x2 ∧ IRows G2 W ra x2 (fwM W p N r i0 (r + i1) i2) ∧ IRow G2 W (A0.getD (r + i1) .sn) (N.getD (r + i1) z0) ∧ Upto m0 H G2), N.length - (r + 1), ⟨_, ⟨hsp2, ⟨by rw [List.length_set, List.length_set, fwM_len]; omega, fun i hi => ?_⟩, hrb, hU0.trans (hf.upto hge0)⟩, ⟨rfl, rfl, rfl, rfl, rfl, rfl, rfl, trivial⟩⟩, ?_⟩
            · rw [List.length_set, List.length_set] at hi
              rw [fwM_0 (by omega), getD_set (by rw [List.length_set]; omega), getD_set (by omega)]
              by_cases h1 : r = i
              · rw [if_pos h1, if_pos h1.symm]
                exact ⟨hrb, (hR0.2 (r + i1) (by omega)).2⟩
              · rw [if_neg h1, if_neg (Ne.symm h1)]
                by_cases h2 : r + i1 = i
                · rw [if_pos h2, if_pos ⟨h2.symm, by omega⟩]
                  exact ⟨(hR0.2 r (by omega)).1.fr hf (hR0.2 r (by omega)).2, (hR0.2 r (by omega)).2⟩
                · rw [if_neg h2, if_neg fun q => h2 q.1.symm]
                  exact ⟨(hR0.2 i (by omega)).1.fr hf (hR0.2 i (by omega)).2, (hR0.2 i (by omega)).2⟩
            rintro i2 x2 G2 hi2 ⟨hS2, hR2, hB2, hU2⟩
            have hAl2 := hR2.1
            rw [fwM_len] at hAl2
            refine ⟨x2.length, hS2.len, ?_⟩
            refine ⟨fun h76 => ?_, fun h76 => ?_⟩
            · replace h76 := of_decide_eq_true h76
              have hjx : r + 1 + i2 < x2.length := by omega
              have hjN : r + 1 + i2 < N.length := by omega
              have hp0 : 0 < p := by omega
              have hpn : p ≠ 0 := by omega
              have hp1 : 1 ≤ p := by omega
              have hp256 : p ≤ 256 := by omega
              have zz81 := rdR_at (hS2.rd) ((r + 1 + i2)) (hjx)
              obtain ⟨k81, o81, n81, c81, q81, ea81, hl81, hq81, r81, l81, hk81, hi81⟩ := zz81
              refine ⟨k81, o81, n81, c81, (r + 1 + i2), q81, ea81, rfl, hl81, hq81, ?_⟩
              refine ⟨_, _, hk81, hi81, ?_⟩
              have zz84 := IRow.at ((hR2.2 (r + 1 + i2) (by omega)).1) i0 (by omega)
              obtain ⟨k84, o84, n84, c84, q84, ea84, hl84, hq84, r84, l84, hk84, hi84⟩ := zz84
              refine ⟨k84, o84, n84, c84, i0, q84, ea84, rfl, hl84, hq84, ?_⟩
              refine ⟨_, _, hk84, hi84, ?_⟩
              have hvw : Vp W p ((fwM W p N r i0 (r + i1) i2).getD (r + 1 + i2) z0) := by
                rw [fwM_at (by omega), if_neg (by omega)]
                split
                · exact vp_at (by omega) hFw.vp r
                · exact vp_at (by omega) hFw.vp (r + 1 + i2)
              have hmid : (fwM W p N r i0 (r + i1) i2).getD (r + 1 + i2) z0 = if r + 1 + i2 = r + i1 then N.getD r z0 else N.getD (r + 1 + i2) z0 := by rw [fwM_at (by omega), if_neg (by omega)]
              have hRi := hR2.2 (r + 1 + i2) (by omega)
              generalize (fwM W p N r i0 (r + i1) i2).getD (r + 1 + i2) z0 = w at hvw hmid hRi hi84
              have hvb := vp_at (W := W) (p := p) (by omega) hFw.vp (r + i1)
              have hbw := bz_nn w i0
              have hbw2 := hvw.1 i0
              have hib : ((byt ((invN p ((N.getD (r + i1) z0) i0) : Nat) : Int)).toNat : Int) = ((invN p ((N.getD (r + i1) z0) i0) : Nat) : Int) := bz_byt _ (by omega) (by omega)
              have hmb := mul_bd2 (a := bz w i0) (b := ((invN p ((N.getD (r + i1) z0) i0) : Nat) : Int)) (c := 31) (d := 31) (by omega) (by omega) (by omega) (by omega)
              refine ⟨bz w i0 * ((invN p ((N.getD (r + i1) z0) i0) : Nat) : Int), by rw [hib]; exact w64_id _ (by omega) (by omega), ?_⟩
              refine ⟨by omega, fwF p w (N.getD (r + i1) z0) i0, by unfold fwF; rw [Int.tmod_eq_emod_of_nonneg (by omega)], ?_⟩
              have hfb : 0 ≤ fwF p w (N.getD (r + i1) z0) i0 ∧ fwF p w (N.getD (r + i1) z0) i0 < p := ⟨Int.emod_nonneg _ (by omega), Int.emod_lt_of_pos _ (by omega)⟩
              have hR' : fwR W p N r i0 (r + i1) (r + 1 + i2) = addW W p w (N.getD (r + i1) z0) (-(fwF p w (N.getD (r + i1) z0) i0)) := by
                unfold fwR; rw [if_neg (by omega), if_pos (by omega), hmid]
              clear hmb hib hbw hbw2 hinv hxp hbd
              generalize hfac : fwF p w (N.getD (r + i1) z0) i0 = fac at hfb hR'
              refine ⟨_, rfl, ?_⟩
              refine ⟨At, (fun a0 a1 a5 a6 a8 a9 a10 a11 (i3 : Nat) (x3 : At) => [(0, a0), (1, a1), (5, a5), (6, a6), (8, a8), (9, a9), (10, a10), (11, a11), (12, .one x3), (13, .one (.i .i64 ((i3 : Nat) : Int)))]) _ _ _ _ _ _ _ _ , fun (i3 : Nat) (x3 : At) (G3 : List Blk) => (Spn G3 x3 (nwL W p w (N.getD (r + i1) z0) fac i3) ∧ Ext G2 G3 ∧ (∀ k ∈ spB x3, G2.length ≤ k) ∧ (i3 = 0 ∨ fac ≠ 0)), W, ⟨_, ⟨.inr ⟨G2.length, 0, [], rfl, get_new, ⟨by simp, by simp [nwL]⟩, rfl⟩, Ext.app, by simp [spB], .inl rfl⟩, ⟨rfl, rfl, rfl, rfl, rfl, rfl, rfl, rfl, rfl, rfl, trivial⟩⟩, ?_⟩
              rintro i3 x3 G3 hi3 ⟨hS3, hE3, hg3, hz3⟩
              refine ⟨W, (hB2.ext hE3).len, ?_⟩
              refine ⟨fun h95 => ?_, fun h95 => ?_⟩
              · replace h95 := of_decide_eq_true h95
                refine brB_t ?_
                refine brB_t ?_
                refine ⟨fun h98 => ?_, fun h98 => ?_⟩
                · replace h98 := bne_t h98
                  have hz104 := rdR_ext hS2.rd hE3
                  have hz107 := hRi.1.ext hE3
                  have hz112 := hB2.ext hE3
                  have zz104 := rdR_at (hz104) ((r + 1 + i2)) (hjx)
                  obtain ⟨k104, o104, n104, c104, q104, ea104, hl104, hq104, r104, l104, hk104, hi104⟩ := zz104
                  refine ⟨k104, o104, n104, c104, (r + 1 + i2), q104, ea104, rfl, hl104, hq104, ?_⟩
                  refine ⟨_, _, hk104, hi104, ?_⟩
                  have zz107 := IRow.at (hz107) i3 (Int.ofNat_lt.1 h95)
                  obtain ⟨k107, o107, n107, c107, q107, ea107, hl107, hq107, r107, l107, hk107, hi107⟩ := zz107
                  refine ⟨k107, o107, n107, c107, i3, q107, ea107, rfl, hl107, hq107, ?_⟩
                  refine ⟨_, _, hk107, hi107, ?_⟩
                  have zz112 := IRow.at (hz112) i3 (Int.ofNat_lt.1 h95)
                  obtain ⟨k112, o112, n112, c112, q112, ea112, hl112, hq112, r112, l112, hk112, hi112⟩ := zz112
                  refine ⟨k112, o112, n112, c112, i3, q112, ea112, rfl, hl112, hq112, ?_⟩
                  refine ⟨_, _, hk112, hi112, ?_⟩
                  refine ⟨fac * bz (N.getD (r + i1) z0) i3, w_mul hfb.1 hfb.2 (bz_nn _ _) (hvb.1 i3) hp3, ?_⟩
                  refine ⟨bz w i3 - fac * bz (N.getD (r + i1) z0) i3, w_sub hfb.1 hfb.2 (bz_nn _ _) (hvb.1 i3) (bz_nn _ _) (hvw.1 i3) hp3, ?_⟩
                  refine ⟨hpn, _, rfl, ?_⟩
                  refine ⟨_, w_tm hp0 hp3, ?_⟩
                  refine ⟨hpn, bz (addW W p w (N.getD (r + i1) z0) (-fac)) i3, by rw [tm_em hp0, bz_add hp1 hp256 (Int.ofNat_lt.1 h95), Int.neg_mul]; rfl, ?_⟩
                  refine ⟨_, rfl, ?_⟩
                  refine ⟨_, spn_app (x := .i .i64 (bz (addW W p w (N.getD (r + i1) z0) (-fac)) i3)) (hS3.ext' Ext.app) ⟨false, _, get_new, by simp, rfl⟩ (by rw [nwL, List.length_map, List.length_range]; exact Nat.le_trans hi3 (Nat.le_trans hW2 (by decide))) (by decide), ?_⟩
                  rintro a123 G123 ⟨hp123, hf123, hb123, hl123⟩
                  refine ⟨((i3 + 1 : Nat) : Int), w64_id _ (by omega) (by omega), ?_⟩
                  refine ⟨by omega, _, ?_, ⟨rfl, rfl, rfl, rfl, rfl, rfl, rfl, rfl, rfl, rfl, trivial⟩⟩
                  refine ⟨by rw [nwL_succ]; exact hp123, Upto.ext (hE3.trans Ext.app) (hf123.upto hg3) (Nat.le_refl _), fun k hk => ?_, .inr h98⟩
                  rcases hb123 with q | q
                  · rw [q.1] at hk; exact hg3 k hk
                  · rw [q] at hk; have := hE3.len; simp at hk; omega
                · replace h98 := bne_f h98
                  refine ⟨fun h125 => ?_, fun h125 => ?_⟩
                  · replace h125 := bne_t h125
                    exact absurd h98 h125
                  · replace h125 := bne_f h125
                    refine ⟨((r + 1 + i2 + 1 : Nat) : Int), w64_id _ (by omega) (by omega), ?_⟩
                    refine ⟨by omega, x2, ?_, ⟨rfl, rfl, rfl, rfl, rfl, rfl, rfl, trivial⟩⟩
                    refine ⟨hS2.ext' hE3, hR2.keep hE3 hjN ?_, hB2.ext hE3, hU2.trans hE3.upto⟩
                    rw [hR', fwM_at hjN, if_neg (by omega), ← hmid, h125, Int.neg_zero, add_0 hp1 hp256 hvw]
              · replace h95 := of_decide_eq_false h95
                refine brB_f ?_
                refine brB_f ?_
                refine brB_f ?_
                refine ⟨fun h125 => ?_, fun h125 => ?_⟩
                · replace h125 := bne_t h125
                  have zz129 := Spn.st ((hS2.ext' hE3)) ((r + 1 + i2)) (hjx)
                  obtain ⟨k129, o129, n129, c129, q129, C129, ea129, hl129, hq129, hk129, hs129⟩ := zz129
                  refine ⟨k129, o129, n129, c129, (r + 1 + i2), q129, ea129, rfl, hl129, hq129, ?_⟩
                  refine ⟨_, _, _, hk129, (hs129 _ hS3.cell).1, eqBk_rfl, ?_⟩
                  have hy129 := hs129 _ hS3.cell
                  obtain ⟨-, hS4, hf4⟩ := hy129
                  refine ⟨((r + 1 + i2 + 1 : Nat) : Int), w64_id _ (by omega) (by omega), ?_⟩
                  refine ⟨by omega, (x2.set (r + 1 + i2) x3), ?_, ⟨rfl, rfl, rfl, rfl, rfl, rfl, rfl, trivial⟩⟩
                  have hd : ∀ j ∈ spB x3, j ∉ spB ra := fun j hj q => absurd (hg3 j hj) (Nat.not_le.2 (hS2.lt.2 j q))
                  refine ⟨hS4, hR2.put hE3 hf4 hjN ?_ hd, (hB2.ext hE3).fr hf4 ?_, (hU2.trans hE3.upto).trans (hf4.upto hge0)⟩
                  · rw [show i3 = W from by omega] at hS3; rw [hR']; exact nwL_row hS3
                  · exact (hR0.2 (r + i1) (by omega)).2
                · replace h125 := bne_f h125
                  refine ⟨((r + 1 + i2 + 1 : Nat) : Int), w64_id _ (by omega) (by omega), ?_⟩
                  refine ⟨by omega, x2, ?_, ⟨rfl, rfl, rfl, rfl, rfl, rfl, rfl, trivial⟩⟩
                  refine ⟨hS2.ext' hE3, hR2.keep hE3 hjN ?_, hB2.ext hE3, hU2.trans hE3.upto⟩
                  rw [hR', fwM_at hjN, if_neg (by omega), ← hmid, h125, Int.neg_zero, add_0 hp1 hp256 hvw]
            · replace h76 := of_decide_eq_false h76
              have e2 : N.length - (r + 1) = i2 := by omega
              subst e2
              refine ⟨_, w64_id _ (by omega) (by omega), ?_⟩
              refine ⟨((i0 + 1 : Nat) : Int), w64_id _ (by omega) (by omega), ?_⟩
              refine ⟨by omega, (r + 1, x2, fwL W p N r i0 (r + i1)), ?_, ⟨rfl, rfl, rfl, rfl, trivial⟩⟩
              refine ⟨hS2, by rw [← fwM_all (k := N.length - (r + 1)) (by omega)]; exact hR2, ?_, hU2⟩
              simp only [fw]
              rw [← hF0]
              dsimp only
              rw [hbd, if_neg (by omega)]
      · replace h32 := of_decide_eq_false h32
        have hbd2 : fwB N r i0 = N.length := by
          unfold fwB
          rw [fstN_end (i := r) (n := N.length - r) fun j h1 h2 => by simpa using hF1 j h1 (by omega)]; omega
        refine brB_f ?_
        refine brB_f ?_
        refine brB_f ?_
        refine brB_f ?_
        refine brB_f ?_
        refine brB_f ?_
        refine brB_f ?_
        refine brB_f ?_
        refine brB_f ?_
        refine ⟨A0.length, hS0.len, ?_⟩
        refine ⟨fun h47 => ?_, fun h47 => ?_⟩
        · replace h47 := eq_of_beq h47
          refine ⟨((i0 + 1 : Nat) : Int), w64_id _ (by omega) (by omega), ?_⟩
          refine ⟨by omega, (r, A0, N), ?_, ⟨rfl, rfl, rfl, rfl, trivial⟩⟩
          refine ⟨hS0, hR0, ?_, hU0⟩
          simp only [fw]
          rw [← hF0]
          dsimp only
          rw [if_pos hbd2]
        · replace h47 := ne_of_beq_false h47
          omega
    · replace h24 := of_decide_eq_false h24
      have e0 : W = i0 := by omega
      subst e0
      first
        | exact ⟨rfl, by rw [show (fw W p R W).2 = r from by rw [← hF0]]; rfl, hU0⟩
        | exact ⟨rfl, by
            obtain rfl : R = [] := List.length_eq_zero_iff.1 (by omega)
            rw [fw_nil] at hF0 ⊢
            rw [show r = 0 from congrArg Prod.snd hF0]; rfl, hU0⟩
  · replace h17 := of_decide_eq_false h17
    refine brB_f ?_
    refine brB_f ?_
    refine brB_f ?_
    refine brB_f ?_
    refine brB_f ?_
    refine brB_f ?_
    refine brB_f ?_
    first
      | exact ⟨rfl, by rw [show (fw W p R W).2 = r from by rw [← hF0]]; rfl, hU0⟩
      | exact ⟨rfl, by
          obtain rfl : R = [] := List.length_eq_zero_iff.1 (by omega)
          rw [fw_nil] at hF0 ⊢
          rw [show r = 0 from congrArg Prod.snd hF0]; rfl, hU0⟩

end Hf
namespace Hf
open Go Classical
section
variable {a b i x z y w t W : Nat} {p : Int} {m k : By}
/-- the entry c while y (w) summands are in -/
def homE1 (b : Nat) (m : By) (i x z y c : Nat) : Int := if c % b = z ∧ c / b < y then bz m (1 + i * 64 + x * 8 + c / b) else 0
def homE2 (a b : Nat) (m k : By) (i x z w c : Nat) : Int := homE1 b m i x z a c - (if c / b = x ∧ c % b < w then bz k (1 + i * 64 + c % b * 8 + z) else 0)
def homX (a b : Nat) (m k : By) (i x z c : Nat) : Int := homE2 a b m k i x z b c
def homV (p : Int) (a b : Nat) (m k : By) (t : Nat) : By := vec (a * b) p (homX a b m k (t / b / a) (t / b % a) (t % b))
def homL (p : Int) (a b : Nat) (m k : By) (t : Nat) : List By := (List.range t).map (homV p a b m k)
theorem homL_succ : homL p a b m k (t + 1) = homL p a b m k t ++ [homV p a b m k t] := by unfold homL; rw [List.range_succ, List.map_append]; rfl
theorem homL_len : (homL p a b m k t).length = t := by simp [homL]
theorem homL_vp (hp : 1 ≤ p) (hp2 : p ≤ 256) : ∀ v ∈ homL p a b m k t, Vp (a * b) p v := by
  intro v hv
  obtain ⟨i, -, rfl⟩ := List.mem_map.1 hv
  exact ⟨fun x => bz_vec_lt hp hp2, fun x hx => vec_out hx⟩
theorem dm (hz : z < b) : (b * y + z) / b = y ∧ (b * y + z) % b = z :=
  ⟨by rw [Nat.mul_add_div (by omega), Nat.div_eq_of_lt hz, Nat.add_zero], by rw [Nat.mul_add_mod, Nat.mod_eq_of_lt hz]⟩
theorem dm' (hz : z < b) {c : Nat} : c = b * y + z ↔ c / b = y ∧ c % b = z :=
  ⟨fun h => h ▸ dm hz, fun h => by rw [← h.1, ← h.2]; exact (Nat.div_add_mod c b).symm⟩
theorem ix_lt (hy : y < a) (hz : z < b) : b * y + z < a * b := by
  have : b * y + b ≤ b * a := by rw [← Nat.mul_succ]; exact Nat.mul_le_mul_left b hy
  rw [Nat.mul_comm a b]; omega
theorem homV_at (hx : x < a) (hz : z < b) : homV p a b m k ((i * a + x) * b + z) = vec (a * b) p (homX a b m k i x z) := by
  unfold homV
  rw [show (i * a + x) * b + z = b * (i * a + x) + z by rw [Nat.mul_comm], (dm hz).1, (dm hz).2, show i * a + x = a * i + x by rw [Nat.mul_comm], (dm hx).1, (dm hx).2]
theorem w_bd {a b : Nat} (ha : a ≤ 8) (hb : b ≤ 8) : a * b ≤ 64 := Nat.le_trans (Nat.mul_le_mul ha hb) (by decide)
theorem homE1_bd {c : Nat} : 0 ≤ homE1 b m i x z y c ∧ homE1 b m i x z y c ≤ 255 := by
  unfold homE1
  split
  · exact ⟨bz_nn _ _, bz_le _ _⟩
  · omega
theorem homE2_bd {c : Nat} : -255 ≤ homE2 a b m k i x z w c ∧ homE2 a b m k i x z w c ≤ 255 := by
  unfold homE2
  have h1 := @homE1_bd b i x z a m c
  split
  · have := bz_nn k (1 + i * 64 + c % b * 8 + z); have := bz_le k (1 + i * 64 + c % b * 8 + z); omega
  · omega
/-- a row of numbers -/
def rowI (W : Nat) (X : Nat → Int) : List At := (List.range W).map fun c => At.i .i64 (X c)
theorem rowI_len {X : Nat → Int} : (rowI W X).length = W := by simp [rowI]
theorem rowI_get {X : Nat → Int} {q : Nat} (h : q < W) : (rowI W X)[q]? = some (.i .i64 (X q)) := by simp [rowI, h]
theorem rowI_congr {X Y : Nat → Int} (h : ∀ c, c < W → X c = Y c) : rowI W X = rowI W Y := List.map_congr_left fun c hc => by rw [h c (List.mem_range.1 hc)]
theorem rowI_set {X : Nat → Int} {q : Nat} {v : Int} : (rowI W X).set q (.i .i64 v) = rowI W fun c => if c = q then v else X c := by
  apply List.ext_getElem?
  intro j
  by_cases hj : j < W
  · rw [rowI_get hj, List.getElem?_set]
    by_cases e : q = j
    · subst e; rw [if_pos rfl, if_pos (by rw [rowI_len]; exact hj), if_pos rfl]
    · rw [if_neg e, rowI_get hj, if_neg (Ne.symm e)]
  · rw [List.getElem?_eq_none (by rw [List.length_set, rowI_len]; omega), List.getElem?_eq_none (by rw [rowI_len]; omega)]
theorem rowI_0 : List.replicate W (C1.i 0).at = rowI W fun _ => 0 := by
  apply List.ext_getElem?
  intro j
  by_cases hj : j < W
  · rw [rowI_get hj]; simp [hj, C1.at]
  · rw [List.getElem?_eq_none (by simp; omega), List.getElem?_eq_none (by rw [rowI_len]; omega)]
theorem rowI_e0 : (fun _ => (0 : Int)) = homE1 b m i x z 0 := by funext c; unfold homE1; rw [if_neg fun h => Nat.not_lt_zero _ h.2]
theorem rowI_1 (hz : z < b) : (rowI W (homE1 b m i x z y)).set (b * y + z) (.i .i64 (homE1 b m i x z y (b * y + z) + bz m (1 + i * 64 + x * 8 + y))) = rowI W (homE1 b m i x z (y + 1)) := by
  rw [rowI_set]
  refine rowI_congr fun c hc => ?_
  by_cases e : c = b * y + z
  · rw [if_pos e, e]
    unfold homE1
    rw [(dm hz).1, (dm hz).2, if_neg (by omega), if_pos ⟨rfl, by omega⟩]; omega
  · rw [if_neg e]
    unfold homE1
    by_cases q : c % b = z ∧ c / b < y
    · rw [if_pos q, if_pos ⟨q.1, by omega⟩]
    · rw [if_neg q, if_neg]
      rintro ⟨q1, q2⟩
      exact e ((dm' hz).2 ⟨by have : ¬ c / b < y := fun h => q ⟨q1, h⟩; omega, q1⟩)
theorem rowI_2 : homE1 b m i x z a = homE2 a b m k i x z 0 := by funext c; unfold homE2; rw [if_neg fun h => Nat.not_lt_zero _ h.2, Int.sub_zero]
theorem rowI_3 (hw : w < b) : (rowI W (homE2 a b m k i x z w)).set (b * x + w) (.i .i64 (homE2 a b m k i x z w (b * x + w) - bz k (1 + i * 64 + w * 8 + z))) = rowI W (homE2 a b m k i x z (w + 1)) := by
  rw [rowI_set]
  refine rowI_congr fun c hc => ?_
  by_cases e : c = b * x + w
  · rw [if_pos e, e]
    unfold homE2
    rw [(dm hw).1, (dm hw).2, if_neg (by omega), if_pos ⟨rfl, by omega⟩]; omega
  · rw [if_neg e]
    unfold homE2
    congr 1
    by_cases q : c / b = x ∧ c % b < w
    · rw [if_pos q, if_pos ⟨q.1, by omega⟩]
    · rw [if_neg q, if_neg]
      rintro ⟨q1, q2⟩
      exact e ((dm' hw).2 ⟨q1, by have : ¬ c % b < w := fun h => q ⟨q1, h⟩; omega⟩)
/-- modulo p, up to place j -/
def modX (p : Int) (X : Nat → Int) (j c : Nat) : Int := if c < j then X c % p else X c
theorem modX_set {X : Nat → Int} {j : Nat} : (rowI W (modX p X j)).set j (.i .i64 (X j % p)) = rowI W (modX p X (j + 1)) := by
  rw [rowI_set]
  refine rowI_congr fun c hc => ?_
  unfold modX
  by_cases e : c = j
  · rw [if_pos e, e, if_pos (by omega)]
  · rw [if_neg e]
    by_cases q : c < j
    · rw [if_pos q, if_pos (by omega)]
    · rw [if_neg q, if_neg (by omega)]
theorem modX_0 {X : Nat → Int} : X = modX p X 0 := by funext c; unfold modX; rw [if_neg (by omega)]
theorem irow_mod {G : List Blk} {n : Nat} {r : Bool} {cap : Nat} {X : Nat → Int} (hp : 1 ≤ p) (hp2 : p ≤ 256) (h : G[n]? = some ⟨r, .rw (rowI W (modX p X W))⟩) : IRow G W (.sl n 0 W cap) (vec W p X) := by
  refine ⟨⟨r, _, h, by rw [rowI_len]; omega, ?_⟩, rfl⟩
  rw [List.drop_zero, List.take_of_length_le (by rw [rowI_len]; exact Nat.le_refl _), List.map_map]
  refine List.map_congr_left fun c hc => ?_
  have hc := List.mem_range.1 hc
  show At.i .i64 (modX p X W c) = At.i .i64 (bz (vec W p X) c)
  rw [bz_vec hp hp2 hc]; unfold modX; rw [if_pos hc]
theorem vi_row {G : List Blk} {n : Nat} {r : Bool} {cap : Nat} {X : Nat → Int} (h : G[n]? = some ⟨r, .rw (rowI W X)⟩) : VI G (.sl n 0 W cap) ((List.range W).map X) := by
  refine ⟨r, _, h, by rw [rowI_len]; omega, ?_⟩
  rw [List.drop_zero, List.take_of_length_le (by rw [rowI_len]; exact Nat.le_refl _), List.map_map]
  rfl
/-- one more row -/
theorem IRows.app {G G' : List Blk} {ra ra' r : At} {As : List At} {R : List By} {v : By} (h : IRows G W ra As R) (hf : Fr (spB ra) G G') (hr : IRow G W r v) (hd : ∀ j ∈ spB r, j ∉ spB ra) (hb : (spB ra' = spB ra ∧ ra ≠ .sn) ∨ spB ra' = [G.length]) (hlt : ∀ i, i < As.length → ∀ j ∈ spB (As.getD i .sn), j < G.length) (hrl : ∀ j ∈ spB r, j < G.length) :
    IRows G' W ra' (As ++ [r]) (R ++ [v]) := by
  have hnot : ∀ s : At, (∀ j ∈ spB s, j ∉ spB ra) → (∀ j ∈ spB s, j < G.length) → ∀ j ∈ spB s, j ∉ spB ra' := fun s h1 h2 j hj => by
    rcases hb with q | q
    · rw [q.1]; exact h1 j hj
    · rw [q]; have := h2 j hj; simp; omega
  refine ⟨by simp [h.1], fun i hi => ?_⟩
  by_cases e : i < As.length
  · have e1 : (As ++ [r]).getD i .sn = As.getD i .sn := by simp [List.getD_eq_getElem?_getD, List.getElem?_append_left e]
    have e2 : (R ++ [v]).getD i z0 = R.getD i z0 := by simp [List.getD_eq_getElem?_getD, List.getElem?_append_left (h.1 ▸ e)]
    rw [e1, e2]
    obtain ⟨h1, h2⟩ := h.2 i e
    exact ⟨h1.fr hf h2, hnot _ h2 (hlt i e)⟩
  · obtain rfl : i = As.length := by simp at hi; omega
    have e1 : (As ++ [r]).getD As.length .sn = r := by simp [List.getD_eq_getElem?_getD]
    have e2 : (R ++ [v]).getD As.length z0 = v := by rw [h.1]; simp [List.getD_eq_getElem?_getD]
    rw [e1, e2]
    exact ⟨hr.fr hf hd, hnot _ hd hrl⟩
theorem IRow.blt {G : List Blk} {r : At} {v : By} (h : IRow G W r v) : ∀ j ∈ spB r, j < G.length := by
  cases r with
  | sl k o n c =>
    obtain ⟨⟨_, _, h1, -⟩, -⟩ := h
    have := lt_of h1
    simp [spB, this]
  | _ => simp [spB]
theorem rank_eq (hp : Pr p) {R : List By} (h : ∀ v ∈ R, Vp W p v) : (fw W p R W).2 = (solT (W + 1) p R W).2.length := by
  obtain ⟨C, hC, hs, -, -, h4, h5, -⟩ := sol_rr (m := W) hp h
  rw [fw_rank hp h h4 (fun v => (h5 v).symm), hC]
  have := hs.cl
  simp; omega
end
end Hf
namespace Hf
open Go Classical
variable {P : Program} {ρ : Nat → FuncId}
theorem mulN {x y : Nat} (h : x * y ≤ 1000000) : w64 ((x : Int) * (y : Int)) = ((x * y : Nat) : Int) := by
  rw [← Int.natCast_mul]; exact w64_id _ (by omega) (by omega)
theorem addN {x y : Nat} (h : x + y ≤ 1000000) : w64 ((x : Int) + (y : Int)) = ((x + y : Nat) : Int) := by
  rw [← Int.natCast_add]; exact w64_id _ (by omega) (by omega)
theorem cat_bq {hd : List Int} {N x : Nat} {f : By} (q : Nat) (e : x = q) (h1 : hd.length ≤ q) (h2 : q < N) : cat (.by hd N f) x = some (.u (f q)) := by
  subst e
  simp only [cat]
  rw [if_pos h2, List.getElem?_eq_none h1]
theorem rowI_getm {W q : Nat} {p : Int} {X : Nat → Int} (h : q < W) : (rowI W (modX p X q))[q]? = some (.i .i64 (X q)) := by rw [rowI_get h]; unfold modX; rw [if_neg (by omega)]
theorem IRows.ext {H H' : List Blk} {W : Nat} {ra : At} {As : List At} {R : List By} (h : IRows H W ra As R) (e : Ext H H') : IRows H' W ra As R := ⟨h.1, fun i hi => ⟨(h.2 i hi).1.ext e, (h.2 i hi).2⟩⟩
theorem tbd {i d j e k : Nat} (hi : i ≤ 8) (hd : d ≤ 8) (hj : j ≤ 8) (he : e ≤ 8) (hk : k ≤ 8) : (i * d + j) * e + k ≤ 1000 := by
  have h1 : i * d ≤ 64 := w_bd hi hd
  have h2 : (i * d + j) * e ≤ 72 * 8 := Nat.mul_le_mul (by omega) he
  omega
theorem rs0 {G : List Blk} {W b i x z : Nat} {m : By} : G ++ [(⟨false, .rw (List.replicate W (C1.i 0).at)⟩ : Blk)] = G ++ [⟨false, .rw (rowI W (homE1 b m i x z 0))⟩] := by rw [rowI_0, ← rowI_e0]
theorem rs1 {G : List Blk} {W a b i x z : Nat} {m k : By} : G ++ [(⟨false, .rw (rowI W (homE1 b m i x z a))⟩ : Blk)] = G ++ [⟨false, .rw (rowI W (homE2 a b m k i x z 0))⟩] := by rw [rowI_2 (k := k)]
theorem rs2 {G : List Blk} {W a b i x z : Nat} {p : Int} {m k : By} : G ++ [(⟨false, .rw (rowI W (homE2 a b m k i x z b))⟩ : Blk)] = G ++ [⟨false, .rw (rowI W (modX p (homX a b m k i x z) 0))⟩] := by rw [← modX_0]; rfl
def MQ2 (p n d e : Int) (f g g2 : By) : Prop := Hop p n f ∧ Mod p n.toNat d g f ∧ Mod p n.toNat e g2 f
/-- the dimension of the maps -/
noncomputable def dimV (p n d e : Int) (f g g2 : By) : Int := if MQ2 p n d e f g g2 then ((d.toNat * e.toNat : Nat) : Int) - ((solT (d.toNat * e.toNat + 1) p (homL p d.toNat e.toNat g g2 (n.toNat * d.toNat * e.toNat)) (d.toNat * e.toNat)).2.length : Int) else 0
theorem s_l06Code2_at (B : Bs P ρ) (E : E_s_l06Code P ρ) {H : List Blk} {k1 : Nat} {r1 : Bool} {p n d e : Int} {f g g2 : By} (h1 : H[k1]? = some ⟨r1, .gs 513 [([d], g), ([e], g2)]⟩) :
    CallR P ρ 162 [.ag [p, n] 1106 f, .sl k1 0 2 2] H fun u G => u = .one (.i .i64 (oc (MQ2 p n d e f g g2) 1)) ∧ G = H :=
  ((s_l06Code2_ok B E (p := p) (n := n) (d := d) (e := e) (f := f) (g := g) (g2 := g2)).emb (H := H) (H' := H) (args := [.ag [p, n] 1106 f, .sl k1 0 2 2]) [k1] rfl ⟨⟨_, h1, fun h => by cases h⟩, trivial⟩ (by simp [apart]) rfl (by simp [back])).r
theorem i_modulesCode2_at (B : Bs P ρ) (E : E_i_modulesCode P ρ) {H : List Blk} {k1 k2 k3 k4 : Nat} {r1 r2 r3 r4 : Bool} {p n d e : Int} {f g g2 : By} (h1 : H[k1]? = some ⟨r1, .by [p, n] 1106 f⟩) (h2 : H[k2]? = some ⟨r2, .rw [.pt k3 0, .pt k4 0]⟩) (h3 : H[k3]? = some ⟨r3, .by [d] 513 g⟩) (h4 : H[k4]? = some ⟨r4, .by [e] 513 g2⟩) :
    CallR P ρ 164 [.pt k1 0, .sl k2 0 2 2] H fun u G => u = .one (.i .i64 (oc (MQ2 p n d e f g g2) 1)) ∧ G = H :=
  ((i_modulesCode2_ok B E (p := p) (n := n) (d := d) (e := e) (f := f) (g := g) (g2 := g2)).emb (H := H) (H' := H) (args := [.pt k1 0, .sl k2 0 2 2]) [k1, k2, k3, k4] rfl ⟨⟨_, h1, fun h => by cases h⟩, ⟨_, h2, fun h => by cases h⟩, ⟨_, h3, fun h => by cases h⟩, ⟨_, h4, fun h => by cases h⟩, trivial⟩ (by simp [apart]) rfl (by simp [back])).r
def dmH (p n d e : Int) (f g g2 : By) (c : Bk) : List Blk := [⟨false, .by [p, n] 1106 f⟩, ⟨false, .by [d] 513 g⟩, ⟨false, .by [e] 513 g2⟩, ⟨false, c⟩]
set_option maxHeartbeats 4000000 in
theorem s_DimensionOfMaps_ok (B : Bs P ρ) (E : F_s_DimensionOfMaps P ρ) {p n d e : Int} {f g g2 : By} :
    CallOK P ρ 387 [.ag [p, n] 1106 f, .ag [d] 513 g, .ag [e] 513 g2] [] (.tup [.i .i64 (dimV p n d e f g g2), .i .i64 (oc (MQ2 p n d e f g g2) 1)]) [] := by
  refine (CallR.pure (call_of_q B.fn B.mo E.1 rfl (fun _ _ => ?_) rfl) rfl).ok
  refine ⟨_, rfl, ?_⟩
  refine ⟨_, rfl, ?_⟩
  refine ⟨_, rfl, ?_⟩
  refine .inl ⟨_, _, _, _, rfl, ⟨rfl, by omega⟩, ?_⟩
  refine .inl ⟨_, _, _, _, rfl, ⟨rfl, by omega⟩, ?_⟩
  refine .inl ⟨_, _, _, _, rfl, ⟨rfl, by omega⟩, ?_⟩
  refine ⟨_, rfl, ?_⟩
  refine ⟨_, s_l06Code2_at B E.2.1 (p := p) (n := n) (d := d) (e := e) (f := f) (g := g) (g2 := g2) rfl, ?_⟩
  rintro _ _ ⟨rfl, rfl⟩
  refine ⟨fun h23 => ?_, fun h23 => ?_⟩
  · replace h23 := bne_t h23
    have hq : ¬ MQ2 p n d e f g g2 := fun q => h23 (oc_t q)
    exact ⟨rfl, by rw [show dimV p n d e f g g2 = 0 from if_neg hq]; rfl, Ext.nil⟩
  · replace h23 := bne_f h23
    have hq : MQ2 p n d e f g g2 := oc_0 h23
    obtain ⟨n, rfl⟩ : ∃ m : Nat, n = (m : Int) := ⟨n.toNat, by have := hq.1.1.1.2.1; omega⟩
    obtain ⟨d, rfl⟩ : ∃ m : Nat, d = (m : Int) := ⟨d.toNat, by have := hq.2.1.1.1.2.1; omega⟩
    obtain ⟨e, rfl⟩ : ∃ m : Nat, e = (m : Int) := ⟨e.toNat, by have := hq.2.2.1.1.2.1; omega⟩
    have hpr := hq.1.1.1.1
    have hp2 := hpr.1
    have hp3 := hpr.2.1
    have hp0 : 0 < p := by omega
    have hpn : p ≠ 0 := by omega
    have hp1 : 1 ≤ p := by omega
    have hp256 : p ≤ 256 := by omega
    have hn8 : n ≤ 8 := by have := hq.1.1.1.2.2; omega
    have hd8 : d ≤ 8 := by have := hq.2.1.1.1.2.2; omega
    have he8 : e ≤ 8 := by have := hq.2.2.1.1.2.2; omega
    have hd1 : 1 ≤ d := by have := hq.2.1.1.1.2.1; omega
    have he1 : 1 ≤ e := by have := hq.2.2.1.1.2.1; omega
    have hW : d * e ≤ 64 := w_bd hd8 he8
    have hW1 : 1 ≤ d * e := Nat.mul_pos hd1 he1
    refine ⟨_, rfl, ?_⟩
    have hb0 : Ext (dmH p n d e f g g2 (.gs 513 [([(d : Int)], g), ([(e : Int)], g2)])) (dmH p n d e f g g2 (.gs 513 [([(d : Int)], g), ([(e : Int)], g2)]) ++ [⟨false, .rw []⟩]) := Ext.app
    refine ⟨At × List At, (fun a3 a4 a5 (i0 : Nat) (x0 : At × List At) => match x0 with | ⟨ra, As⟩ => [(3, a3), (4, a4), (5, a5), (9, .one ra), (10, .one (.i .i64 ((i0 : Nat) : Int)))]) _ _ _ , fun (i0 : Nat) (x0 : At × List At) (G0 : List Blk) => match x0 with | ⟨ra, As⟩ => (Spn G0 ra As ∧ IRows G0 (d * e) ra As (homL p d e g g2 ((i0 * d + 0) * e + 0)) ∧ Ext (dmH p n d e f g g2 (.gs 513 [([(d : Int)], g), ([(e : Int)], g2)])) G0 ∧ ∀ k ∈ spB ra, 4 ≤ k), n, ⟨(_, []), ⟨.inr ⟨4, 0, [], rfl, rfl, ⟨by simp, by simp⟩, rfl⟩, ⟨by simp [homL], fun i hi => absurd hi (by simp)⟩, hb0, by simp [spB]⟩, ⟨rfl, rfl, rfl, rfl, rfl, trivial⟩⟩, ?_⟩
    rintro i0 ⟨ra, As⟩ G0 hi0 ⟨hS0, hR0, hE0, hg0⟩
    refine ⟨_, _, hE0 0 _ rfl, rfl, ?_⟩
    refine ⟨fun h29 => ?_, fun h29 => ?_⟩
    · replace h29 := of_decide_eq_true h29
      refine ⟨At × List At, (fun a3 a4 a5 a10 (i1 : Nat) (x1 : At × List At) => match x1 with | ⟨ra, As⟩ => [(3, a3), (4, a4), (5, a5), (9, .one ra), (10, a10), (11, .one (.i .i64 ((i1 : Nat) : Int)))]) _ _ _ _ , fun (i1 : Nat) (x1 : At × List At) (G1 : List Blk) => match x1 with | ⟨ra, As⟩ => (Spn G1 ra As ∧ IRows G1 (d * e) ra As (homL p d e g g2 ((i0 * d + i1) * e + 0)) ∧ Ext (dmH p n d e f g g2 (.gs 513 [([(d : Int)], g), ([(e : Int)], g2)])) G1 ∧ ∀ k ∈ spB ra, 4 ≤ k), d, ⟨(_, _), ⟨hS0, hR0, hE0, hg0⟩, ⟨rfl, rfl, rfl, rfl, rfl, rfl, trivial⟩⟩, ?_⟩
      rintro i1 ⟨ra, As⟩ G1 hi1 ⟨hS1, hR1, hE1, hg1⟩
      refine ⟨_, _, hE1 1 _ rfl, rfl, ?_⟩
      refine ⟨fun h35 => ?_, fun h35 => ?_⟩
      · replace h35 := of_decide_eq_true h35
        refine ⟨At × List At, (fun a3 a4 a5 a10 a11 (i2 : Nat) (x2 : At × List At) => match x2 with | ⟨ra, As⟩ => [(3, a3), (4, a4), (5, a5), (9, .one ra), (10, a10), (11, a11), (12, .one (.i .i64 ((i2 : Nat) : Int)))]) _ _ _ _ _ , fun (i2 : Nat) (x2 : At × List At) (G2 : List Blk) => match x2 with | ⟨ra, As⟩ => (Spn G2 ra As ∧ IRows G2 (d * e) ra As (homL p d e g g2 ((i0 * d + i1) * e + i2)) ∧ Ext (dmH p n d e f g g2 (.gs 513 [([(d : Int)], g), ([(e : Int)], g2)])) G2 ∧ ∀ k ∈ spB ra, 4 ≤ k), e, ⟨(_, _), ⟨hS1, hR1, hE1, hg1⟩, ⟨rfl, rfl, rfl, rfl, rfl, rfl, rfl, trivial⟩⟩, ?_⟩
        rintro i2 ⟨ra, As⟩ G2 hi2 ⟨hS2, hR2, hE2, hg2⟩
        refine ⟨_, _, hE2 2 _ rfl, rfl, ?_⟩
        refine ⟨fun h41 => ?_, fun h41 => ?_⟩
        · replace h41 := of_decide_eq_true h41
          refine ⟨_, _, hE2 1 _ rfl, rfl, ?_⟩
          refine ⟨_, _, hE2 2 _ rfl, rfl, ?_⟩
          refine ⟨((d * e : Nat) : Int), mulN (by omega), ?_⟩
          refine ⟨d * e, _, ⟨rfl, by omega, by omega⟩, rfl, ?_⟩
          refine ⟨Unit, (fun a3 a4 a5 a9 a10 a11 a12 a13 (i3 : Nat) (x3 : Unit) => [(3, a3), (4, a4), (5, a5), (9, a9), (10, a10), (11, a11), (12, a12), (13, a13), (14, .one (.i .i64 ((i3 : Nat) : Int)))]) _ _ _ _ _ _ _ _ , fun (i3 : Nat) (x3 : Unit) (G3 : List Blk) => (G3 = G2 ++ [⟨false, .rw (rowI (d * e) (homE1 e g i0 i1 i2 i3))⟩]), d, ⟨(), rs0, ⟨rfl, rfl, rfl, rfl, rfl, rfl, rfl, rfl, rfl, trivial⟩⟩, ?_⟩
          rintro i3 _ G3 hi3 rfl
          refine ⟨_, _, app_old (hE2 1 _ rfl), rfl, ?_⟩
          refine ⟨fun h53 => ?_, fun h53 => ?_⟩
          · replace h53 := of_decide_eq_true h53
            have hix : e * i3 + i2 < d * e := ix_lt (by omega) (by omega)
            refine ⟨_, _, app_old (hE2 2 _ rfl), rfl, ?_⟩
            refine ⟨((e * i3 : Nat) : Int), mulN (by omega), ?_⟩
            refine ⟨((e * i3 + i2 : Nat) : Int), addN (by omega), ?_⟩
            refine ⟨_, _, app_old (hE2 2 _ rfl), rfl, ?_⟩
            refine ⟨((e * i3 : Nat) : Int), mulN (by omega), ?_⟩
            refine ⟨((e * i3 + i2 : Nat) : Int), addN (by omega), ?_⟩
            refine ⟨_, _, _, _, e * i3 + i2, e * i3 + i2, rfl, rfl, hix, by omega, ?_⟩
            refine ⟨_, _, get_new, rowI_get hix, ?_⟩
            refine ⟨i0, _, rfl, by omega, rfl, ?_⟩
            refine ⟨i1, _, rfl, by omega, rfl, ?_⟩
            refine ⟨i3, _, rfl, by omega, rfl, ?_⟩
            refine ⟨_, _, app_old (hE2 1 _ rfl), cat_bq (1 + i0 * 64 + i1 * 8 + i3) (by omega) (by simp <;> omega) (by omega), ?_⟩
            refine ⟨homE1 e g i0 i1 i2 i3 (e * i3 + i2) + bz g (1 + i0 * 64 + i1 * 8 + i3), w64_id _ (by have := @homE1_bd e i0 i1 i2 i3 g (e * i3 + i2); have := bz_nn g (1 + i0 * 64 + i1 * 8 + i3); omega) (by have := @homE1_bd e i0 i1 i2 i3 g (e * i3 + i2); have := toNat_le (g (1 + i0 * 64 + i1 * 8 + i3)); omega), ?_⟩
            refine ⟨_, _, _, _, e * i3 + i2, e * i3 + i2, rfl, rfl, hix, by omega, ?_⟩
            refine ⟨_, _, _, get_new, cput_rw (by rw [rowI_len]; exact hix) rfl, eqBk_rfl, ?_⟩
            refine ⟨((i3 + 1 : Nat) : Int), w64_id _ (by omega) (by omega), ?_⟩
            refine ⟨by omega, (), ?_, ⟨rfl, rfl, rfl, rfl, rfl, rfl, rfl, rfl, rfl, trivial⟩⟩
            rw [app_set0, rowI_1 (by omega)]
          · replace h53 := of_decide_eq_false h53
            have e3 : d = i3 := by omega
            subst e3
            refine ⟨Unit, (fun a3 a4 a5 a9 a10 a11 a12 a13 (i4 : Nat) (x4 : Unit) => [(3, a3), (4, a4), (5, a5), (9, a9), (10, a10), (11, a11), (12, a12), (13, a13), (15, .one (.i .i64 ((i4 : Nat) : Int)))]) _ _ _ _ _ _ _ _ , fun (i4 : Nat) (x4 : Unit) (G4 : List Blk) => (G4 = G2 ++ [⟨false, .rw (rowI (d * e) (homE2 d e g g2 i0 i1 i2 i4))⟩]), e, ⟨(), rs1, ⟨rfl, rfl, rfl, rfl, rfl, rfl, rfl, rfl, rfl, trivial⟩⟩, ?_⟩
            rintro i4 _ G4 hi4 rfl
            refine ⟨_, _, app_old (hE2 2 _ rfl), rfl, ?_⟩
            refine ⟨fun h86 => ?_, fun h86 => ?_⟩
            · replace h86 := of_decide_eq_true h86
              have hix : e * i1 + i4 < d * e := ix_lt (by omega) (by omega)
              refine ⟨_, _, app_old (hE2 2 _ rfl), rfl, ?_⟩
              refine ⟨((e * i1 : Nat) : Int), mulN (by omega), ?_⟩
              refine ⟨((e * i1 + i4 : Nat) : Int), addN (by omega), ?_⟩
              refine ⟨_, _, app_old (hE2 2 _ rfl), rfl, ?_⟩
              refine ⟨((e * i1 : Nat) : Int), mulN (by omega), ?_⟩
              refine ⟨((e * i1 + i4 : Nat) : Int), addN (by omega), ?_⟩
              refine ⟨_, _, _, _, e * i1 + i4, e * i1 + i4, rfl, rfl, hix, by omega, ?_⟩
              refine ⟨_, _, get_new, rowI_get hix, ?_⟩
              refine ⟨i0, _, rfl, by omega, rfl, ?_⟩
              refine ⟨i4, _, rfl, by omega, rfl, ?_⟩
              refine ⟨i2, _, rfl, by omega, rfl, ?_⟩
              refine ⟨_, _, app_old (hE2 2 _ rfl), cat_bq (1 + i0 * 64 + i4 * 8 + i2) (by omega) (by simp <;> omega) (by omega), ?_⟩
              refine ⟨homE2 d e g g2 i0 i1 i2 i4 (e * i1 + i4) - bz g2 (1 + i0 * 64 + i4 * 8 + i2), w64_id _ (by have := @homE2_bd d e i0 i1 i2 i4 g g2 (e * i1 + i4); have := toNat_le (g2 (1 + i0 * 64 + i4 * 8 + i2)); omega) (by have := @homE2_bd d e i0 i1 i2 i4 g g2 (e * i1 + i4); have := bz_nn g2 (1 + i0 * 64 + i4 * 8 + i2); omega), ?_⟩
              refine ⟨_, _, _, _, e * i1 + i4, e * i1 + i4, rfl, rfl, hix, by omega, ?_⟩
              refine ⟨_, _, _, get_new, cput_rw (by rw [rowI_len]; exact hix) rfl, eqBk_rfl, ?_⟩
              refine ⟨((i4 + 1 : Nat) : Int), w64_id _ (by omega) (by omega), ?_⟩
              refine ⟨by omega, (), ?_, ⟨rfl, rfl, rfl, rfl, rfl, rfl, rfl, rfl, rfl, trivial⟩⟩
              rw [app_set0, rowI_3 (by omega)]
            · replace h86 := of_decide_eq_false h86
              have e4 : e = i4 := by omega
              subst e4
              refine ⟨Unit, (fun a3 a4 a5 a9 a10 a11 a12 a13 (i5 : Nat) (x5 : Unit) => [(3, a3), (4, a4), (5, a5), (9, a9), (10, a10), (11, a11), (12, a12), (13, a13), (16, .one (.i .i64 ((i5 : Nat) : Int)))]) _ _ _ _ _ _ _ _ , fun (i5 : Nat) (x5 : Unit) (G5 : List Blk) => (G5 = G2 ++ [⟨false, .rw (rowI (d * e) (modX p (homX d e g g2 i0 i1 i2) i5))⟩]), d * e, ⟨(), rs2, ⟨rfl, rfl, rfl, rfl, rfl, rfl, rfl, rfl, rfl, trivial⟩⟩, ?_⟩
              rintro i5 _ G5 hi5 rfl
              refine ⟨_, rfl, ?_⟩
              refine ⟨fun h119 => ?_, fun h119 => ?_⟩
              · replace h119 := of_decide_eq_true h119
                refine ⟨_, _, _, _, i5, i5, rfl, rfl, by omega, by omega, ?_⟩
                refine ⟨_, _, get_new, rowI_getm (by omega), ?_⟩
                refine ⟨_, _, app_old (hE2 0 _ rfl), rfl, ?_⟩
                refine ⟨hpn, _, rfl, ?_⟩
                refine ⟨_, _, app_old (hE2 0 _ rfl), rfl, ?_⟩
                refine ⟨_, w_tm hp0 hp3, ?_⟩
                refine ⟨_, _, app_old (hE2 0 _ rfl), rfl, ?_⟩
                refine ⟨hpn, homX d e g g2 i0 i1 i2 i5 % p, tm_em hp0, ?_⟩
                refine ⟨_, _, _, _, i5, i5, rfl, rfl, by omega, by omega, ?_⟩
                refine ⟨_, _, _, get_new, cput_rw (by rw [rowI_len]; omega) rfl, eqBk_rfl, ?_⟩
                refine ⟨((i5 + 1 : Nat) : Int), w64_id _ (by omega) (by omega), ?_⟩
                refine ⟨by omega, (), ?_, ⟨rfl, rfl, rfl, rfl, rfl, rfl, rfl, rfl, rfl, trivial⟩⟩
                rw [app_set0, modX_set]
              · replace h119 := of_decide_eq_false h119
                have e5 : d * e = i5 := by omega
                subst e5
                refine ⟨_, rfl, ?_⟩
                have hAl := hR2.1
                rw [homL_len] at hAl
                have htb := @tbd i0 d i1 e i2 (by omega) hd8 (by omega) he8 (by omega)
                refine ⟨_, spn_app (x := .sl G2.length 0 (d * e) (d * e)) (hS2.ext' (Ext.app.trans Ext.app)) ⟨false, _, get_new, by simp, rfl⟩ (by omega) (by decide), ?_⟩
                rintro a141 G141 ⟨hp141, hf141, hb141, hl141⟩
                refine ⟨((i2 + 1 : Nat) : Int), w64_id _ (by omega) (by omega), ?_⟩
                refine ⟨by omega, (a141, As ++ [.sl G2.length 0 (d * e) (d * e)]), ?_, ⟨rfl, rfl, rfl, rfl, rfl, rfl, rfl, trivial⟩⟩
                have hE : Ext G2 (G2 ++ [⟨false, .rw (rowI (d * e) (modX p (homX d e g g2 i0 i1 i2) (d * e)))⟩] ++ [⟨false, .rw [.sl G2.length 0 (d * e) (d * e)]⟩]) := Ext.app.trans Ext.app
                have hr := irow_mod (G := G2 ++ [⟨false, .rw (rowI (d * e) (modX p (homX d e g g2 i0 i1 i2) (d * e)))⟩] ++ [⟨false, .rw [.sl G2.length 0 (d * e) (d * e)]⟩]) (cap := d * e) hp1 hp256 (app_old get_new)
                have hRe := hR2.ext hE
                refine ⟨hp141, ?_, Upto.ext (hE2.trans hE) (hf141.upto hg2) (Nat.le_refl _), fun k hk => ?_⟩
                · rw [show (i0 * d + i1) * e + (i2 + 1) = (i0 * d + i1) * e + i2 + 1 from rfl, homL_succ, homV_at (by omega) (by omega)]
                  refine hRe.app hf141 hr (fun j hj q => ?_) hb141 (fun i hi => (hRe.2 i hi).1.blt) hr.blt
                  have := hS2.lt.2 j q
                  simp [spB] at hj; omega
                · rcases hb141 with q | q
                  · rw [q.1] at hk; exact hg2 k hk
                  · rw [q] at hk; have := hE2.len; simp [dmH] at hk this; omega
        · replace h41 := of_decide_eq_false h41
          have e2 : e = i2 := by omega
          subst e2
          refine ⟨((i1 + 1 : Nat) : Int), w64_id _ (by omega) (by omega), ?_⟩
          refine ⟨by omega, (ra, As), ?_, ⟨rfl, rfl, rfl, rfl, rfl, rfl, trivial⟩⟩
          dsimp only
          rw [show (i0 * d + (i1 + 1)) * e + 0 = (i0 * d + i1) * e + e by rw [← Nat.add_assoc, Nat.succ_mul]; rfl]
          exact ⟨hS2, hR2, hE2, hg2⟩
      · replace h35 := of_decide_eq_false h35
        have e1 : d = i1 := by omega
        subst e1
        refine ⟨((i0 + 1 : Nat) : Int), w64_id _ (by omega) (by omega), ?_⟩
        refine ⟨by omega, (ra, As), ?_, ⟨rfl, rfl, rfl, rfl, rfl, trivial⟩⟩
        dsimp only
        rw [show ((i0 + 1) * d + 0) * e + 0 = (i0 * d + d) * e + 0 by rw [Nat.succ_mul]; rfl]
        exact ⟨hS1, hR1, hE1, hg1⟩
    · replace h29 := of_decide_eq_false h29
      have e0 : n = i0 := by omega
      subst e0
      have hAl := hR0.1
      rw [homL_len] at hAl
      have htb := @tbd n d 0 e 0 hn8 hd8 (by omega) he8 (by omega)
      refine ⟨_, _, hE0 1 _ rfl, rfl, ?_⟩
      refine ⟨_, _, hE0 2 _ rfl, rfl, ?_⟩
      refine ⟨((d * e : Nat) : Int), mulN (by omega), ?_⟩
      refine ⟨_, _, hE0 0 _ rfl, rfl, ?_⟩
      refine ⟨_, s_l06Rank_ok B E.2.2 (m0 := 4) (W := d * e) hpr hW1 (by omega) hS0 hR0 (homL_vp hp1 hp256) (by rw [homL_len]; omega) hg0 hE0.len, ?_⟩
      rintro _ G150 ⟨rfl, hU150⟩
      refine ⟨⟨kept1 (hE0 2 _ rfl) (hU150 2 _ (by decide) (hE0 2 _ rfl)), kept1 (hE0 1 _ rfl) (hU150 1 _ (by decide) (hE0 1 _ rfl)), trivial⟩, ?_⟩
      have hrk := rank_eq (W := d * e) hpr (homL_vp (a := d) (b := e) (m := g) (k := g2) (t := (n * d + 0) * e + 0) hp1 hp256)
      have hrl := (@solT_len (d * e + 1) p (homL p d e g g2 ((n * d + 0) * e + 0)) (d * e)).2.2
      rw [hrk]
      refine ⟨_, w64_id _ (by omega) (by omega), ?_⟩
      refine ⟨rfl, ?_, Ext.nil⟩
      rw [show dimV p n d e f g g2 = ((d * e : Nat) : Int) - ((solT (d * e + 1) p (homL p d e g g2 (n * d * e)) (d * e)).2.length : Int) from if_pos hq, oc_t hq]
      rfl

theorem i_system_free_ok (B : Bs P ρ) (E : F_i_system_free P ρ) {m0 : Nat} {H : List Blk} {s m : Nat} {p n0 : Int} {R : List By} {T : List Int} (hm : m ≤ 100000) (hS : SY m0 H s p n0 m R T) (hT : T.length ≤ 100000) :
    CallR P ρ 395 [.pt s 0] H (fun u G => u = .one (.i .i64 ((m : Int) - (T.length : Int))) ∧ G = H) := by
  obtain ⟨ra, As, pa, hs, hra, hR, hpa, hnd, hge⟩ := hS
  refine call_of_q B.fn B.mo E rfl (fun hAr hHp => ?_) (by simp only [List.all_cons, List.all_nil]; simp [At.lt, lt_of hs])
  refine ⟨_, _, hs, rfl, ?_⟩
  refine ⟨_, _, hs, rfl, ?_⟩
  refine ⟨T.length, by rw [hpa.len, List.length_map], ?_⟩
  refine ⟨_, w64_id _ (by omega) (by omega), ?_⟩
  exact ⟨rfl, rfl, rfl⟩

set_option maxHeartbeats 4000000 in
theorem i_DimensionOfMaps_ok (B : Bs P ρ) (E : F_i_DimensionOfMaps P ρ) {p n d e : Int} {f g g2 : By} :
    CallOK P ρ 388 [.ag [p, n] 1106 f, .ag [d] 513 g, .ag [e] 513 g2] [] (.tup [.i .i64 (dimV p n d e f g g2), .i .i64 (oc (MQ2 p n d e f g g2) 1)]) [] := by
  refine (CallR.pure (call_of_q B.fn B.mo E.1 rfl (fun _ _ => ?_) rfl) rfl).ok
  refine ⟨_, rfl, ?_⟩
  refine ⟨_, rfl, ?_⟩
  refine ⟨_, rfl, ?_⟩
  refine ⟨_, rfl, ?_⟩
  refine ⟨_, i_modulesCode2_at B E.2.1 (p := p) (n := n) (d := d) (e := e) (f := f) (g := g) (g2 := g2) rfl rfl rfl rfl, ?_⟩
  rintro _ _ ⟨rfl, rfl⟩
  refine ⟨fun h21 => ?_, fun h21 => ?_⟩
  · replace h21 := bne_t h21
    have hq : ¬ MQ2 p n d e f g g2 := fun q => h21 (oc_t q)
    exact ⟨rfl, by rw [show dimV p n d e f g g2 = 0 from if_neg hq]; rfl, Ext.nil⟩
  · replace h21 := bne_f h21
    have hq : MQ2 p n d e f g g2 := oc_0 h21
    obtain ⟨n, rfl⟩ : ∃ m : Nat, n = (m : Int) := ⟨n.toNat, by have := hq.1.1.1.2.1; omega⟩
    obtain ⟨d, rfl⟩ : ∃ m : Nat, d = (m : Int) := ⟨d.toNat, by have := hq.2.1.1.1.2.1; omega⟩
    obtain ⟨e, rfl⟩ : ∃ m : Nat, e = (m : Int) := ⟨e.toNat, by have := hq.2.2.1.1.2.1; omega⟩
    have hpr := hq.1.1.1.1
    have hp2 := hpr.1
    have hp3 := hpr.2.1
    have hp1 : 1 ≤ p := by omega
    have hp256 : p ≤ 256 := by omega
    have hn8 : n ≤ 8 := by have := hq.1.1.1.2.2; omega
    have hd8 : d ≤ 8 := by have := hq.2.1.1.1.2.2; omega
    have he8 : e ≤ 8 := by have := hq.2.2.1.1.2.2; omega
    have hW : d * e ≤ 64 := w_bd hd8 he8
    refine ⟨_, _, rfl, rfl, ?_⟩
    refine ⟨_, _, rfl, rfl, ?_⟩
    refine ⟨_, _, rfl, rfl, ?_⟩
    refine ⟨((d * e : Nat) : Int), mulN (by omega), ?_⟩
    refine ⟨_, i_newSystem_ok B E.2.2.1 , ?_⟩
    rintro _ _ ⟨rfl, rfl⟩
    refine ⟨_, _, rfl, rfl, ?_⟩
    refine ⟨Unit, (fun a4 a5 a9 a10 a11 a34 (i0 : Nat) (x0 : Unit) => [(4, a4), (5, a5), (9, a9), (10, a10), (11, a11), (34, a34), (35, .one (.i .i64 ((i0 : Nat) : Int)))]) _ _ _ _ _ _ , fun (i0 : Nat) (x0 : Unit) (G0 : List Blk) => (SY 4 G0 4 p 0 (d * e) (homL p d e g g2 ((i0 * d + 0) * e + 0)) [] ∧ Ext (dmH p n d e f g g2 (.rw [.pt 1 0, .pt 2 0])) G0), n, ⟨(), ⟨⟨.sn, [], .sn, rfl, .inl ⟨rfl, rfl⟩, ⟨by simp [homL], fun i h => by simp at h⟩, .inl ⟨rfl, rfl⟩, by simp [OwnT, spB], by simp [OwnT, spB]⟩, Ext.app (H := dmH p n d e f g g2 (.rw [.pt 1 0, .pt 2 0]))⟩, ⟨rfl, rfl, rfl, rfl, rfl, rfl, rfl, trivial⟩⟩, ?_⟩
    rintro i0 _ G0 hi0 ⟨hS0, hE0⟩
    refine ⟨fun h36 => ?_, fun h36 => ?_⟩
    · replace h36 := of_decide_eq_true h36
      refine ⟨Unit, (fun a4 a5 a9 a10 a11 a12 a34 a35 a38 (i1 : Nat) (x1 : Unit) => [(4, a4), (5, a5), (9, a9), (10, a10), (11, a11), (12, a12), (34, a34), (35, a35), (38, a38), (39, .one (.i .i64 ((i1 : Nat) : Int)))]) _ _ _ _ _ _ _ _ _ , fun (i1 : Nat) (x1 : Unit) (G1 : List Blk) => (SY 4 G1 4 p 0 (d * e) (homL p d e g g2 ((i0 * d + i1) * e + 0)) [] ∧ Ext (dmH p n d e f g g2 (.rw [.pt 1 0, .pt 2 0])) G1), d, ⟨(), ⟨hS0, hE0⟩, ⟨rfl, rfl, rfl, rfl, rfl, rfl, rfl, rfl, rfl, rfl, trivial⟩⟩, ?_⟩
      rintro i1 _ G1 hi1 ⟨hS1, hE1⟩
      refine ⟨fun h40 => ?_, fun h40 => ?_⟩
      · replace h40 := of_decide_eq_true h40
        refine ⟨Unit, (fun a4 a5 a9 a10 a11 a12 a13 a34 a35 a38 a39 a42 (i2 : Nat) (x2 : Unit) => [(4, a4), (5, a5), (9, a9), (10, a10), (11, a11), (12, a12), (13, a13), (34, a34), (35, a35), (38, a38), (39, a39), (42, a42), (43, .one (.i .i64 ((i2 : Nat) : Int)))]) _ _ _ _ _ _ _ _ _ _ _ _ , fun (i2 : Nat) (x2 : Unit) (G2 : List Blk) => (SY 4 G2 4 p 0 (d * e) (homL p d e g g2 ((i0 * d + i1) * e + i2)) [] ∧ Ext (dmH p n d e f g g2 (.rw [.pt 1 0, .pt 2 0])) G2), e, ⟨(), ⟨hS1, hE1⟩, ⟨rfl, rfl, rfl, rfl, rfl, rfl, rfl, rfl, rfl, rfl, rfl, rfl, rfl, trivial⟩⟩, ?_⟩
        rintro i2 _ G2 hi2 ⟨hS2, hE2⟩
        refine ⟨fun h44 => ?_, fun h44 => ?_⟩
        · replace h44 := of_decide_eq_true h44
          refine ⟨((d * e : Nat) : Int), mulN (by omega), ?_⟩
          refine ⟨d * e, _, ⟨rfl, by omega, by omega⟩, rfl, ?_⟩
          refine ⟨Unit, (fun a4 a5 a9 a10 a11 a12 a13 a14 a15 a34 a35 a38 a39 a42 a43 a50 (i3 : Nat) (x3 : Unit) => [(4, a4), (5, a5), (9, a9), (10, a10), (11, a11), (12, a12), (13, a13), (14, a14), (15, a15), (34, a34), (35, a35), (38, a38), (39, a39), (42, a42), (43, a43), (50, a50), (51, .one (.i .i64 ((i3 : Nat) : Int)))]) _ _ _ _ _ _ _ _ _ _ _ _ _ _ _ _ , fun (i3 : Nat) (x3 : Unit) (G3 : List Blk) => (G3 = G2 ++ [⟨false, .rw (rowI (d * e) (homE1 e g i0 i1 i2 i3))⟩]), d, ⟨(), rs0, ⟨rfl, rfl, rfl, rfl, rfl, rfl, rfl, rfl, rfl, rfl, rfl, rfl, rfl, rfl, rfl, rfl, rfl, trivial⟩⟩, ?_⟩
          rintro i3 _ G3 hi3 rfl
          refine ⟨fun h52 => ?_, fun h52 => ?_⟩
          · replace h52 := of_decide_eq_true h52
            have hix : e * i3 + i2 < d * e := ix_lt (by omega) (by omega)
            refine ⟨((e * i3 : Nat) : Int), by rw [Int.mul_comm]; exact mulN (by omega), ?_⟩
            refine ⟨((e * i3 + i2 : Nat) : Int), addN (by omega), ?_⟩
            refine ⟨_, _, _, _, e * i3 + i2, e * i3 + i2, rfl, rfl, hix, by omega, ?_⟩
            refine ⟨_, _, get_new, rowI_get hix, ?_⟩
            refine ⟨i0, _, rfl, by omega, rfl, ?_⟩
            refine ⟨i1, _, rfl, by omega, rfl, ?_⟩
            refine ⟨i3, _, rfl, by omega, rfl, ?_⟩
            refine ⟨_, _, app_old (hE2 1 _ rfl), cat_bq (1 + i0 * 64 + i1 * 8 + i3) (by omega) (by simp <;> omega) (by omega), ?_⟩
            refine ⟨homE1 e g i0 i1 i2 i3 (e * i3 + i2) + bz g (1 + i0 * 64 + i1 * 8 + i3), w64_id _ (by have := @homE1_bd e i0 i1 i2 i3 g (e * i3 + i2); have := bz_nn g (1 + i0 * 64 + i1 * 8 + i3); omega) (by have := @homE1_bd e i0 i1 i2 i3 g (e * i3 + i2); have := toNat_le (g (1 + i0 * 64 + i1 * 8 + i3)); omega), ?_⟩
            refine ⟨_, _, _, _, e * i3 + i2, e * i3 + i2, rfl, rfl, hix, by omega, ?_⟩
            refine ⟨_, _, _, get_new, cput_rw (by rw [rowI_len]; exact hix) rfl, eqBk_rfl, ?_⟩
            refine ⟨((i3 + 1 : Nat) : Int), w64_id _ (by omega) (by omega), ?_⟩
            refine ⟨by omega, (), ?_, ⟨rfl, rfl, rfl, rfl, rfl, rfl, rfl, rfl, rfl, rfl, rfl, rfl, rfl, rfl, rfl, rfl, rfl, trivial⟩⟩
            rw [app_set0, rowI_1 (by omega)]
          · replace h52 := of_decide_eq_false h52
            have e3 : d = i3 := by omega
            subst e3
            refine ⟨Unit, (fun a4 a5 a9 a10 a11 a12 a13 a14 a15 a34 a35 a38 a39 a42 a43 a74 (i4 : Nat) (x4 : Unit) => [(4, a4), (5, a5), (9, a9), (10, a10), (11, a11), (12, a12), (13, a13), (14, a14), (15, a15), (34, a34), (35, a35), (38, a38), (39, a39), (42, a42), (43, a43), (74, a74), (75, .one (.i .i64 ((i4 : Nat) : Int)))]) _ _ _ _ _ _ _ _ _ _ _ _ _ _ _ _ , fun (i4 : Nat) (x4 : Unit) (G4 : List Blk) => (G4 = G2 ++ [⟨false, .rw (rowI (d * e) (homE2 d e g g2 i0 i1 i2 i4))⟩]), e, ⟨(), rs1, ⟨rfl, rfl, rfl, rfl, rfl, rfl, rfl, rfl, rfl, rfl, rfl, rfl, rfl, rfl, rfl, rfl, rfl, trivial⟩⟩, ?_⟩
            rintro i4 _ G4 hi4 rfl
            refine ⟨fun h76 => ?_, fun h76 => ?_⟩
            · replace h76 := of_decide_eq_true h76
              have hix : e * i1 + i4 < d * e := ix_lt (by omega) (by omega)
              refine ⟨((e * i1 : Nat) : Int), by rw [Int.mul_comm]; exact mulN (by omega), ?_⟩
              refine ⟨((e * i1 + i4 : Nat) : Int), addN (by omega), ?_⟩
              refine ⟨_, _, _, _, e * i1 + i4, e * i1 + i4, rfl, rfl, hix, by omega, ?_⟩
              refine ⟨_, _, get_new, rowI_get hix, ?_⟩
              refine ⟨i0, _, rfl, by omega, rfl, ?_⟩
              refine ⟨i4, _, rfl, by omega, rfl, ?_⟩
              refine ⟨i2, _, rfl, by omega, rfl, ?_⟩
              refine ⟨_, _, app_old (hE2 2 _ rfl), cat_bq (1 + i0 * 64 + i4 * 8 + i2) (by omega) (by simp <;> omega) (by omega), ?_⟩
              refine ⟨homE2 d e g g2 i0 i1 i2 i4 (e * i1 + i4) - bz g2 (1 + i0 * 64 + i4 * 8 + i2), w64_id _ (by have := @homE2_bd d e i0 i1 i2 i4 g g2 (e * i1 + i4); have := toNat_le (g2 (1 + i0 * 64 + i4 * 8 + i2)); omega) (by have := @homE2_bd d e i0 i1 i2 i4 g g2 (e * i1 + i4); have := bz_nn g2 (1 + i0 * 64 + i4 * 8 + i2); omega), ?_⟩
              refine ⟨_, _, _, _, e * i1 + i4, e * i1 + i4, rfl, rfl, hix, by omega, ?_⟩
              refine ⟨_, _, _, get_new, cput_rw (by rw [rowI_len]; exact hix) rfl, eqBk_rfl, ?_⟩
              refine ⟨((i4 + 1 : Nat) : Int), w64_id _ (by omega) (by omega), ?_⟩
              refine ⟨by omega, (), ?_, ⟨rfl, rfl, rfl, rfl, rfl, rfl, rfl, rfl, rfl, rfl, rfl, rfl, rfl, rfl, rfl, rfl, rfl, trivial⟩⟩
              rw [app_set0, rowI_3 (by omega)]
            · replace h76 := of_decide_eq_false h76
              have e4 : e = i4 := by omega
              subst e4
              have htb := @tbd i0 d i1 e i2 (by omega) hd8 (by omega) he8 (by omega)
              refine ⟨_, i_system_add_ok B E.2.2.2.1 (p := p) (n0 := 0) hp1 hp256 (by omega) (hS2.ext Ext.app) (vi_row (X := homX d e g g2 i0 i1 i2) get_new) (by simp) (by simp [At.lt]) (by rw [homL_len]; omega) (by have := hE2.len; simp [dmH] at this ⊢; omega), ?_⟩
              rintro _ G100 ⟨hS100, hU100⟩
              refine ⟨((i2 + 1 : Nat) : Int), w64_id _ (by omega) (by omega), ?_⟩
              refine ⟨by omega, (), ?_, ⟨rfl, rfl, rfl, rfl, rfl, rfl, rfl, rfl, rfl, rfl, rfl, rfl, rfl, trivial⟩⟩
              rw [eqR_vec, ← homV_at (i := i0) (by omega) (by omega), ← homL_succ] at hS100
              exact ⟨hS100, Upto.ext (hE2.trans Ext.app) hU100 (Nat.le_refl _)⟩
        · replace h44 := of_decide_eq_false h44
          have e2 : e = i2 := by omega
          subst e2
          refine ⟨((i1 + 1 : Nat) : Int), w64_id _ (by omega) (by omega), ?_⟩
          refine ⟨by omega, (), ?_, ⟨rfl, rfl, rfl, rfl, rfl, rfl, rfl, rfl, rfl, rfl, trivial⟩⟩
          dsimp only
          rw [show (i0 * d + (i1 + 1)) * e + 0 = (i0 * d + i1) * e + e by rw [← Nat.add_assoc, Nat.succ_mul]; rfl]
          exact ⟨hS2, hE2⟩
      · replace h40 := of_decide_eq_false h40
        have e1 : d = i1 := by omega
        subst e1
        refine ⟨((i0 + 1 : Nat) : Int), w64_id _ (by omega) (by omega), ?_⟩
        refine ⟨by omega, (), ?_, ⟨rfl, rfl, rfl, rfl, rfl, rfl, rfl, trivial⟩⟩
        dsimp only
        rw [show ((i0 + 1) * d + 0) * e + 0 = (i0 * d + d) * e + 0 by rw [Nat.succ_mul]; rfl]
        exact ⟨hS1, hE1⟩
    · replace h36 := of_decide_eq_false h36
      have e0 : n = i0 := by omega
      subst e0
      have htb := @tbd n d 0 e 0 hn8 hd8 (by omega) he8 (by omega)
      have hrl := (@solT_len (d * e + 1) p (homL p d e g g2 ((n * d + 0) * e + 0)) (d * e)).2.2
      refine ⟨_, i_system_solve_ok B E.2.2.2.2.1 (p := p) (n0 := 0) hp1 hp256 (by omega) hS0 (by rw [homL_len]; omega) hE0.len, ?_⟩
      rintro _ G105 ⟨rfl, hS105, hU105⟩
      refine ⟨_, i_system_free_ok B E.2.2.2.2.2 (by omega) hS105 (by omega), ?_⟩
      rintro _ _ ⟨rfl, rfl⟩
      refine ⟨rfl, ?_, Ext.nil⟩
      rw [show dimV p n d e f g g2 = ((d * e : Nat) : Int) - ((solT (d * e + 1) p (homL p d e g g2 (n * d * e)) (d * e)).2.length : Int) from if_pos hq, oc_t hq]
      rfl

theorem l_FnExactDimensionOfMaps_ok (B : Bs P ρ) (E : F_l_FnExactDimensionOfMaps P ρ) {p n d e : Int} {f g g2 : By} :
    CallOK P ρ 389 [.ag [p, n] 1106 f, .ag [d] 513 g, .ag [e] 513 g2] [] (.one (.b true)) [] := by
  refine (CallR.pure (call_of_q B.fn B.mo E.1 rfl (fun _ _ => ?_) rfl) rfl).ok
  refine ⟨_, rfl, ?_⟩
  refine ⟨_, rfl, ?_⟩
  refine ⟨_, rfl, ?_⟩
  refine .inl ⟨_, _, _, _, rfl, ⟨rfl, by omega⟩, ?_⟩
  refine ⟨_, l_toHopf_ok B E.2.1 , rfl, ?_⟩
  refine .inl ⟨_, _, _, _, rfl, ⟨rfl, by omega⟩, ?_⟩
  refine ⟨_, l_toModule_ok B E.2.2.1 , rfl, ?_⟩
  refine .inl ⟨_, _, _, _, rfl, ⟨rfl, by omega⟩, ?_⟩
  refine ⟨_, l_toModule_ok B E.2.2.1 , rfl, ?_⟩
  refine ⟨_, s_DimensionOfMaps_ok B E.2.2.2.1 , rfl, ?_⟩
  refine .inl ⟨_, _, _, _, rfl, ⟨rfl, by omega⟩, ?_⟩
  refine ⟨_, l_toHopf_ok B E.2.1 , rfl, ?_⟩
  refine .inl ⟨_, _, _, _, rfl, ⟨rfl, by omega⟩, ?_⟩
  refine ⟨_, l_toModule_ok B E.2.2.1 , rfl, ?_⟩
  refine .inl ⟨_, _, _, _, rfl, ⟨rfl, by omega⟩, ?_⟩
  refine ⟨_, l_toModule_ok B E.2.2.1 , rfl, ?_⟩
  refine ⟨_, i_DimensionOfMaps_ok B E.2.2.2.2 , rfl, ?_⟩
  refine ⟨fun h34 => ?_, fun h34 => ?_⟩
  · replace h34 := bne_t h34
    exact absurd rfl h34
  · replace h34 := bne_f h34
    refine brB_f ?_
    refine brB_f ?_
    refine brB_f ?_
    refine brB_f' (by simp) ?_
    exact ⟨rfl, rfl, Ext.nil⟩

end Hf
