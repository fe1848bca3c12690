/- Contracts of the functions that the law reaches. -/
import Derived.Test.YtkkjaohppodccaaC1
set_option linter.unusedVariables false
set_option linter.unusedSimpArgs false
namespace Hf
open Go Classical
section
variable {W : Nat} {p : Int}
/-- the first row from r on with an entry in column c, or all -/
def fwB (R : List By) (r c : Nat) : Nat := fstN (fun i => (R.getD i z0) c != 0) (R.length - r) r
def fwF (p : Int) (v row : By) (c : Nat) : Int := bz v c * ((invN p (row c) : Nat) : Int) % p
/-- row i behind the step -/
def fwR (W : Nat) (p : Int) (R : List By) (r c b i : Nat) : By :=
  if i = r then R.getD b z0 else if r < i then addW W p (if i = b then R.getD r z0 else R.getD i z0) (R.getD b z0) (-(fwF p (if i = b then R.getD r z0 else R.getD i z0) (R.getD b z0) c)) else R.getD i z0
def fwL (W : Nat) (p : Int) (R : List By) (r c b : Nat) : List By := (List.range R.length).map (fwR W p R r c b)
theorem fwL_len {R : List By} {r c b : Nat} : (fwL W p R r c b).length = R.length := by simp [fwL]
theorem fwL_at {R : List By} {r c b i : Nat} (h : i < R.length) : (fwL W p R r c b).getD i z0 = fwR W p R r c b i := by simp [fwL, List.getD_eq_getElem?_getD, h]
/-- after so many columns -/
def fw (W : Nat) (p : Int) (R : List By) : Nat → List By × Nat
  | 0 => (R, 0)
  | c + 1 => let x := fw W p R c; let b := fwB x.1 x.2 c; if b = x.1.length then x else (fwL W p x.1 x.2 c b, x.2 + 1)
structure Fw (W : Nat) (p : Int) (R0 : List By) (c : Nat) (R : List By) (r : Nat) : Prop where
  len : R.length = R0.length
  vp : ∀ v ∈ R, Vp W p v
  sp : SpE W p R R0
  le : r ≤ R.length
  ld : ∀ i, i < r → fstW W (R.getD i z0) < c ∧ fstW W (R.getD i z0) < W
  st : ∀ i j, i < j → j < r → fstW W (R.getD i z0) < fstW W (R.getD j z0)
  ze : ∀ i, r ≤ i → i < R.length → ∀ y, y < c → (R.getD i z0) y = 0
theorem vp_at {R : List By} (hp : 1 ≤ p) (h : ∀ v ∈ R, Vp W p v) (i : Nat) : Vp W p (R.getD i z0) := by
  by_cases hi : i < R.length
  · exact h _ (getD_mem hi)
  · rw [List.getD_eq_getElem?_getD, List.getElem?_eq_none (by omega)]; exact Vp.z hp
theorem mem_at' {L : List By} {u : By} (h : u ∈ L) : ∃ j, j < L.length ∧ L.getD j z0 = u := by
  obtain ⟨t, ht, rfl⟩ := List.mem_iff_getElem.1 h
  exact ⟨t, ht, by rw [List.getD_eq_getElem?_getD, List.getElem?_eq_getElem ht]; rfl⟩
theorem Fw.step (hp : Pr p) {R0 R : List By} {r c : Nat} (h : Fw W p R0 c R r) (hc : c < W) :
    if fwB R r c = R.length then Fw W p R0 (c + 1) R r else Fw W p R0 (c + 1) (fwL W p R r c (fwB R r c)) (r + 1) := by
  have hp1 := hp.1
  have hp2 := hp.2.1
  have hle := h.le
  have hva := vp_at (by omega) h.vp
  have hge := @fstN_ge (fun i => (R.getD i z0) c != 0) (R.length - r) r
  have hb1 : r ≤ fwB R r c := hge.1
  have hb2 : fwB R r c ≤ R.length := by unfold fwB; omega
  split
  · rename_i e
    refine ⟨h.len, h.vp, h.sp, h.le, fun i hi => ⟨by have := (h.ld i hi).1; omega, (h.ld i hi).2⟩, h.st, fun i h1 h2 y hy => ?_⟩
    by_cases q : y < c
    · exact h.ze i h1 h2 y q
    · obtain rfl : y = c := by omega
      have := @fstN_none (fun i => (R.getD i z0) y != 0) (R.length - r) r i h1 (by have e' : fstN (fun i => (R.getD i z0) y != 0) (R.length - r) r = R.length := e; omega)
      simpa using this
  · rename_i e
    have hbl : fwB R r c < R.length := by omega
    generalize hbd : fwB R r c = b at *
    have hbne : (R.getD b z0) c ≠ 0 := by
      have := @fstN_some (fun i => (R.getD i z0) c != 0) (R.length - r) r (by have e' : fstN (fun i => (R.getD i z0) c != 0) (R.length - r) r = b := hbd; omega)
      rw [show fstN (fun i => (R.getD i z0) c != 0) (R.length - r) r = b from hbd] at this
      simpa using this
    have hb0 : ∀ y, y < c → (R.getD b z0) y = 0 := h.ze b hb1 hbl
    have hbf : fstW W (R.getD b z0) = c := fstW_eq hc hbne hb0
    -- the row that is reduced
    have hw : ∀ i, r < i → i < R.length → ∃ j, r ≤ j ∧ j < R.length ∧ (if i = b then R.getD r z0 else R.getD i z0) = R.getD j z0 := fun i h1 h2 => by
      by_cases q : i = b
      · exact ⟨r, Nat.le_refl _, by omega, if_pos q⟩
      · exact ⟨i, by omega, h2, if_neg q⟩
    have hN : ∀ i, i < R.length → Vp W p (fwR W p R r c b i) := fun i hi => by
      unfold fwR
      split
      · exact hva b
      · split
        · exact Vp.add (by omega) (by omega)
        · exact hva i
    have hNm : ∀ i, i < R.length → fwR W p R r c b i ∈ fwL W p R r c b := fun i hi => List.mem_map_of_mem (List.mem_range.2 hi)
    have hRm : ∀ i, i < R.length → Sp' W p R (R.getD i z0) := fun i hi => .mem (by omega) (by omega) (getD_mem hi) (hva i)
    have hNs : ∀ i, i < R.length → Sp' W p (fwL W p R r c b) (fwR W p R r c b i) := fun i hi => .mem (by omega) (by omega) (hNm i hi) (hN i hi)
    have hrow : Sp' W p (fwL W p R r c b) (R.getD b z0) := by
      have := hNs r (by omega)
      unfold fwR at this; rwa [if_pos rfl] at this
    have back : ∀ i, r < i → i < R.length → Sp' W p (fwL W p R r c b) (if i = b then R.getD r z0 else R.getD i z0) := fun i h1 h2 => by
      have q := hNs i h2
      unfold fwR at q
      rw [if_neg (by omega), if_pos h1] at q
      generalize hv : (if i = b then R.getD r z0 else R.getD i z0) = v at q ⊢
      have q2 := q.add (k := fwF p v (R.getD b z0) c) (by omega) (by omega) hrow
      rw [add_add (by omega) (by omega), show -(fwF p v (R.getD b z0) c) + fwF p v (R.getD b z0) c = 0 by omega] at q2
      have hvv : Vp W p v := by
        rw [← hv]; split
        · exact hva r
        · exact hva i
      rwa [add_0 (by omega) (by omega) hvv] at q2
    refine ⟨by rw [fwL_len]; exact h.len, ?_, ?_, by rw [fwL_len]; omega, ?_, ?_, ?_⟩
    · intro v hv
      obtain ⟨i, hi, rfl⟩ := List.mem_map.1 hv
      exact hN i (List.mem_range.1 hi)
    · refine (SpE.of (by omega) (by omega) (fun v hv => ?_) fun v hv => ?_).trans h.sp
      · obtain ⟨i, hi, rfl⟩ := List.mem_map.1 hv
        have hi := List.mem_range.1 hi
        unfold fwR
        split
        · exact hRm b hbl
        · split
          · rename_i h1
            obtain ⟨j, hj1, hj2, ej⟩ := hw i h1 hi
            rw [ej]
            exact (hRm j hj2).add (by omega) (by omega) (hRm b hbl)
          · exact hRm i hi
      · obtain ⟨i, hi, rfl⟩ := mem_at' hv
        rcases Nat.lt_trichotomy i r with q | q | q
        · have := hNs i hi
          unfold fwR at this
          rwa [if_neg (by omega), if_neg (by omega)] at this
        · subst q
          by_cases e2 : b = i
          · rw [← e2]; rw [← e2] at hrow; exact hrow
          · have := back b (by omega) hbl
            rwa [if_pos rfl] at this
        · by_cases e2 : i = b
          · rw [e2]; exact hrow
          · have := back i q hi
            rwa [if_neg e2] at this
    · intro i hi
      rw [fwL_at (by omega)]
      unfold fwR
      by_cases q : i = r
      · rw [if_pos q, hbf]; exact ⟨by omega, hc⟩
      · rw [if_neg q, if_neg (by omega)]
        have := h.ld i (by omega)
        exact ⟨by omega, this.2⟩
    · intro i j hij hj
      rw [fwL_at (by omega), fwL_at (by omega)]
      unfold fwR
      rw [if_neg (show i ≠ r by omega), if_neg (show ¬ r < i by omega)]
      by_cases q : j = r
      · rw [if_pos q, hbf]; exact (h.ld i (by omega)).1
      · rw [if_neg q, if_neg (by omega)]
        exact h.st i j hij (by omega)
    · intro i h1 h2 y hy
      rw [fwL_len] at h2
      rw [fwL_at h2]
      unfold fwR
      rw [if_neg (by omega), if_pos (by omega)]
      obtain ⟨j, hj1, hj2, ej⟩ := hw i (by omega) h2
      rw [ej]
      refine bz_eq0.1 ?_
      rw [bz_add (by omega) (by omega) (by omega)]
      by_cases q : y < c
      · rw [bz_eq0.2 (h.ze j hj1 hj2 y q), bz_eq0.2 (hb0 y q)]; simp
      · obtain rfl : y = c := by omega
        have hx2 := (hva b).1 y
        obtain ⟨-, hinv⟩ := inv_ok hp hbne hx2
        have e1 : cg p (((invN p ((R.getD b z0) y) : Nat) : Int) * bz (R.getD b z0) y) 1 := by
          unfold cg; rw [show bz (R.getD b z0) y = (((R.getD b z0) y).toNat : Int) from rfl, hinv, Int.emod_eq_of_lt (by omega) (by omega)]
        have e2 : cg p (fwF p (R.getD j z0) (R.getD b z0) y * bz (R.getD b z0) y) (bz (R.getD j z0) y) := by
          have : cg p (fwF p (R.getD j z0) (R.getD b z0) y) (bz (R.getD j z0) y * ((invN p ((R.getD b z0) y) : Nat) : Int)) := by unfold fwF cg; rw [Int.emod_emod_of_dvd _ (Int.dvd_refl p)]
          refine (cg_mul this cg.rfl').trans ((cg_of_eq (by rw [Int.mul_assoc])).trans ((cg_mul cg.rfl' e1).trans (cg_of_eq (by omega))))
        have e3 : cg p (bz (R.getD j z0) y + -(fwF p (R.getD j z0) (R.getD b z0) y) * bz (R.getD b z0) y) 0 := by
          refine (cg_of_eq (by grind)).trans ((cg_add (cg.rfl' (a := bz (R.getD j z0) y)) (cg_mul (cg.rfl' (a := -1)) e2)).trans (cg_of_eq (by grind)))
        unfold cg at e3; rw [e3]; simp
theorem Fw.all (hp : Pr p) {R0 : List By} (h : ∀ v ∈ R0, Vp W p v) : ∀ {c : Nat}, c ≤ W → Fw W p R0 c (fw W p R0 c).1 (fw W p R0 c).2
  | 0, _ => ⟨rfl, h, SpE.rfl', Nat.zero_le _, fun i hi => absurd hi (Nat.not_lt_zero _), fun i j _ hj => absurd hj (Nat.not_lt_zero _), fun i _ _ y hy => absurd hy (Nat.not_lt_zero _)⟩
  | c + 1, hc => by
    have q := (Fw.all hp h (c := c) (by omega)).step hp (by omega)
    simp only [fw]
    split
    · rename_i e; rw [if_pos e] at q; exact q
    · rename_i e; rw [if_neg e] at q; exact q
end
end Hf
namespace Hf
open Go Classical
variable {P : Program} {ρ : Nat → FuncId}
/-- a row of numbers -/
def IRow (H : List Blk) (W : Nat) (a : At) (v : By) : Prop := VI H a ((List.range W).map fun x => bz v x) ∧ a.cell1 = true
def IRows (H : List Blk) (W : Nat) (ra : At) (As : List At) (R : List By) : Prop := As.length = R.length ∧ ∀ i, i < As.length → IRow H W (As.getD i .sn) (R.getD i z0) ∧ ∀ k ∈ spB (As.getD i .sn), k ∉ spB ra
theorem rdR_fr {l : List Nat} {H H' : List Blk} {a : At} {L : List At} (h : rdR H a L) (e : Fr l H H') (hn : ∀ k ∈ spB a, k ∉ l) : rdR H' a L := by
  cases a with
  | sl k o m c =>
    obtain ⟨r, q, hk, h1, h2⟩ := h
    exact ⟨r, q, e _ _ (hn k (by simp [spB])) hk, h1, h2⟩
  | sn => exact h
  | _ => exact h.elim
theorem IRow.fr {l : List Nat} {H H' : List Blk} {W : Nat} {a : At} {v : By} (h : IRow H W a v) (e : Fr l H H') (hn : ∀ k ∈ spB a, k ∉ l) : IRow H' W a v := ⟨rdR_fr h.1 e hn, h.2⟩
theorem IRow.ext {H H' : List Blk} {W : Nat} {a : At} {v : By} (h : IRow H W a v) (e : Ext H H') : IRow H' W a v := ⟨h.1.ext e, h.2⟩
theorem IRow.len {H : List Blk} {W : Nat} {a : At} {v : By} (h : IRow H W a v) : lenA a = some W := by have := h.1.len; rwa [List.length_map, List.length_range] at this
theorem IRow.at {H : List Blk} {W : Nat} {a : At} {v : By} (h : IRow H W a v) (x : Nat) (hx : x < W) :
    ∃ k off len cap q, a = .sl k off len cap ∧ x < len ∧ off + x * 1 = q ∧ ∃ r l, H[k]? = some ⟨r, .rw l⟩ ∧ l[q]? = some (.i .i64 (bz v x)) := by
  obtain ⟨k, off, len, cap, q, h1, h2, h3, r, l, h4, h5⟩ := h.1.at x (by simpa using hx)
  refine ⟨k, off, len, cap, q, h1, h2, h3, r, l, h4, ?_⟩
  rw [h5]; simp [List.getD_eq_getElem?_getD, hx]
end Hf
namespace Hf
open Go Classical
section
variable {a b i x z y w t W : Nat} {p : Int} {m k : By}
/-- one more row -/
theorem IRows.app {G G' : List Blk} {ra ra' r : At} {As : List At} {R : List By} {v : By} (h : IRows G W ra As R) (hf : Fr (spB ra) G G') (hr : IRow G W r v) (hd : ∀ j ∈ spB r, j ∉ spB ra) (hb : (spB ra' = spB ra ∧ ra ≠ .sn) ∨ spB ra' = [G.length]) (hlt : ∀ i, i < As.length → ∀ j ∈ spB (As.getD i .sn), j < G.length) (hrl : ∀ j ∈ spB r, j < G.length) :
    IRows G' W ra' (As ++ [r]) (R ++ [v]) := by
  have hnot : ∀ s : At, (∀ j ∈ spB s, j ∉ spB ra) → (∀ j ∈ spB s, j < G.length) → ∀ j ∈ spB s, j ∉ spB ra' := fun s h1 h2 j hj => by
    rcases hb with q | q
    · rw [q.1]; exact h1 j hj
    · rw [q]; have := h2 j hj; simp; omega
  refine ⟨by simp [h.1], fun i hi => ?_⟩
  by_cases e : i < As.length
  · have e1 : (As ++ [r]).getD i .sn = As.getD i .sn := by simp [List.getD_eq_getElem?_getD, List.getElem?_append_left e]
    have e2 : (R ++ [v]).getD i z0 = R.getD i z0 := by simp [List.getD_eq_getElem?_getD, List.getElem?_append_left (h.1 ▸ e)]
    rw [e1, e2]
    obtain ⟨h1, h2⟩ := h.2 i e
    exact ⟨h1.fr hf h2, hnot _ h2 (hlt i e)⟩
  · obtain rfl : i = As.length := by simp at hi; omega
    have e1 : (As ++ [r]).getD As.length .sn = r := by simp [List.getD_eq_getElem?_getD]
    have e2 : (R ++ [v]).getD As.length z0 = v := by rw [h.1]; simp [List.getD_eq_getElem?_getD]
    rw [e1, e2]
    exact ⟨hr.fr hf hd, hnot _ hd hrl⟩
theorem IRow.blt {G : List Blk} {r : At} {v : By} (h : IRow G W r v) : ∀ j ∈ spB r, j < G.length := by
  cases r with
  | sl k o n c =>
    obtain ⟨⟨_, _, h1, -⟩, -⟩ := h
    have := lt_of h1
    simp [spB, this]
  | _ => simp [spB]
end
end Hf
namespace Hf
open Go Classical
variable {P : Program} {ρ : Nat → FuncId}
theorem addN {x y : Nat} (h : x + y ≤ 1000000) : w64 ((x : Int) + (y : Int)) = ((x + y : Nat) : Int) := by
  rw [← Int.natCast_add]; exact w64_id _ (by omega) (by omega)
theorem cat_bq {hd : List Int} {N x : Nat} {f : By} (q : Nat) (e : x = q) (h1 : hd.length ≤ q) (h2 : q < N) : cat (.by hd N f) x = some (.u (f q)) := by
  subst e
  simp only [cat]
  rw [if_pos h2, List.getElem?_eq_none h1]
theorem IRows.ext {H H' : List Blk} {W : Nat} {ra : At} {As : List At} {R : List By} (h : IRows H W ra As R) (e : Ext H H') : IRows H' W ra As R := ⟨h.1, fun i hi => ⟨(h.2 i hi).1.ext e, (h.2 i hi).2⟩⟩
end Hf
namespace Hf
open Go Classical
variable {P : Program} {ρ : Nat → FuncId}
/-- the code, as it lies in the blocks -/
def CB (H : List Blk) (a : At) : Prop := a = .sn ∨ ∃ k off len cap r cs fz, a = .sl k off len cap ∧ H[k]? = some ⟨r, .fo cs fz⟩ ∧ len ≤ 4096 ∧ ∀ y, y < len → ∃ u : UInt8, cs[off + y]? = some (.int .u8 (u.toNat : Int))
theorem CB.len {H : List Blk} {a : At} (h : CB H a) : ∃ n, lenA a = some n ∧ n ≤ 4096 := by
  rcases h with rfl | ⟨k, off, len, cap, r, cs, fz, rfl, -, h, -⟩
  · exact ⟨0, rfl, by omega⟩
  · exact ⟨len, rfl, h⟩
theorem CB.at {H : List Blk} {a : At} {n : Nat} (h : CB H a) (hn : lenA a = some n) (y : Nat) (hy : y < n) : ∃ k off len cap B u, a = .sl k off len cap ∧ y < len ∧ H[k]? = some B ∧ cat B.c (off + y * 1) = some (.u u) := by
  rcases h with rfl | ⟨k, off, len, cap, r, cs, fz, rfl, h1, -, h2⟩
  · simp [lenA] at hn; omega
  · have hn : len = n := by simpa [lenA] using hn
    subst hn
    obtain ⟨u, hu⟩ := h2 y hy
    refine ⟨k, off, len, cap, _, u, rfl, hy, h1, ?_⟩
    have hle := toNat_le u
    simp only [cat, Nat.mul_one, hu]
    rw [if_pos ⟨by omega, by omega⟩]
    have e : byt (u.toNat : Int) = u := by
      apply UInt8.toNat_inj.1
      have := byt_toNat (u.toNat : Int)
      omega
    rw [e]
theorem CB.ext {H G : List Blk} {a : At} (h : CB H a) (e : Ext H G) : CB G a := by
  rcases h with rfl | ⟨k, off, len, cap, r, cs, fz, rfl, h1, h2⟩
  · exact .inl rfl
  · exact .inr ⟨k, off, len, cap, r, cs, fz, rfl, e _ _ h1, h2⟩
theorem CB.lt {H : List Blk} {a : At} (h : CB H a) : a.lt H.length = true := by
  rcases h with rfl | ⟨k, off, len, cap, r, cs, fz, rfl, h1, -⟩
  · rfl
  · simp [At.lt, lt_of h1]
theorem CB.cell {H : List Blk} {a : At} (h : CB H a) : a.cell1 = true := by
  rcases h with rfl | ⟨k, off, len, cap, r, cs, fz, rfl, -⟩ <;> rfl
/-- a block that is none of the input's -/
def own : Bk → Bool
  | .fo _ _ => false
  | _ => true
theorem CB.set {H : List Blk} {a : At} {k : Nat} {A B : Blk} (h : CB H a) (hk : H[k]? = some A) (ho : own A.c = true) : CB (H.set k B) a := by
  rcases h with rfl | ⟨j, off, len, cap, r, cs, fz, rfl, h1, h2⟩
  · exact .inl rfl
  · refine .inr ⟨j, off, len, cap, r, cs, fz, rfl, set_other h1 ?_, h2⟩
    intro q; subst q
    rw [hk] at h1; cases h1; cases ho
/-- a source of numbers lies in block s -/
def Src (H : List Blk) (s : Nat) : Prop := ∃ (code : At) (j : Nat) (h : Int), H[s]? = some ⟨false, .rw [code, .i .i64 (j : Int), .i .u64 h]⟩ ∧ CB H code ∧ j ≤ 4096
theorem Src.lt {H : List Blk} {s : Nat} (h : Src H s) : s < H.length := by
  obtain ⟨c, j, k, h, -⟩ := h; exact lt_of h
theorem Src.ext {H G : List Blk} {s : Nat} (h : Src H s) (e : Ext H G) : Src G s := by
  obtain ⟨c, j, k, h1, h2, h3⟩ := h; exact ⟨c, j, k, e _ _ h1, h2.ext e, h3⟩
theorem Src.set {H : List Blk} {s k : Nat} {A B : Blk} (h : Src H s) (hk : H[k]? = some A) (ho : own A.c = true) (hn : s ≠ k) : Src (H.set k B) s := by
  obtain ⟨c, j, x, h1, h2, h3⟩ := h; exact ⟨c, j, x, set_other h1 (Ne.symm hn), h2.set hk ho, h3⟩
theorem src_upd {H : List Blk} {s : Nat} {A : Blk} {code : At} {j : Nat} {x : Int} (hs : H[s]? = some A) (ho : own A.c = true) (hc : CB H code) (hj : j ≤ 4096) :
    Fr [s] H (H.set s ⟨false, .rw [code, .i .i64 (j : Int), .i .u64 x]⟩) ∧ Src (H.set s ⟨false, .rw [code, .i .i64 (j : Int), .i .u64 x]⟩) s :=
  ⟨fun k B hk e => set_other e (by intro q; subst q; exact hk (by simp)), code, j, x, set_same hs, hc.set hs ho, hj⟩
theorem Fr.len {s : Nat} {H G : List Blk} (h : Fr [s] H G) (hs : s < G.length) : H.length ≤ G.length := by
  rcases Nat.lt_or_ge (s + 1) H.length with q | q
  · have := h (H.length - 1) H[H.length - 1] (by simp; omega) (by simp [show H.length - 1 < H.length by omega])
    have := lt_of this
    omega
  · omega
theorem Fr.get {s k : Nat} {H G : List Blk} {B : Blk} (h : Fr [s] H G) (hk : H[k]? = some B) (hn : k ≠ s) : G[k]? = some B := h k B (by simpa using hn) hk
theorem and_bd {m : Int} : 0 ≤ IntKind.u64.wrap ((BitVec.ofInt 64 m &&& BitVec.ofInt 64 16777215).toNat : Int) ∧ IntKind.u64.wrap ((BitVec.ofInt 64 m &&& BitVec.ofInt 64 16777215).toNat : Int) ≤ 16777215 := by
  have h : (BitVec.ofInt 64 m &&& BitVec.ofInt 64 16777215).toNat ≤ 16777215 := by
    rw [BitVec.toNat_and]
    exact Nat.le_trans Nat.and_le_right (by decide)
  generalize (BitVec.ofInt 64 m &&& BitVec.ofInt 64 16777215).toNat = x at h
  simp [IntKind.wrap, IntKind.bits, IntKind.signed]
  omega
theorem tmod_bd {x n : Int} (hx : 0 ≤ x) (hn : ¬ n < 1) : 0 ≤ x.tmod n ∧ x.tmod n < n := ⟨Int.tmod_nonneg n hx, Int.tmod_lt_of_pos x (by omega)⟩
theorem l_big_ok (B : Bs P ρ) (E : F_l_big P ρ) {H : List Blk} {a : At} {n : Nat} (hn : lenA a = some n) (hlt : a.lt H.length = true) :
    CallR P ρ 176 [a] H (fun u G => u = .one (.b (decide ((n : Int) > 4096))) ∧ G = H) := by
  refine call_of_q B.fn B.mo E rfl (fun hAr hHp => ?_) (by simp only [List.all_cons, List.all_nil, hlt]; rfl)
  refine ⟨n, hn, ?_⟩
  exact ⟨rfl, rfl, rfl⟩

theorem s_l01From_ok (B : Bs P ρ) (E : F_s_l01From P ρ) {H : List Blk} {a : At} (hC : CB H a) :
    CallR P ρ 186 [a] H (fun u G => u = .one (.pt H.length 0) ∧ Ext H G ∧ Src G H.length) := by
  obtain ⟨n, hn, hn2⟩ := hC.len
  refine call_of_q B.fn B.mo E rfl (fun hAr hHp => ?_) (by simp only [List.all_cons, List.all_nil, hC.lt]; rfl)
  refine ⟨n, hn, ?_⟩
  refine ⟨_, rfl, ?_⟩
  refine ⟨_, rfl, ?_⟩
  refine ⟨hC.cell, rfl, ?_⟩
  refine ⟨_, rfl, by show (a.cell1 && _) = true; rw [hC.cell]; rfl, ?_⟩
  refine ⟨Unit, (fun a0 (i0 : Nat) (x0 : Unit) => [(0, a0), (3, .one (.pt H.length 0)), (4, .one (.i .i64 ((i0 : Nat) : Int)))]) _ , fun (i0 : Nat) (x0 : Unit) (G0 : List Blk) => (∃ h : Int, G0 = H ++ [⟨false, .rw [a, .i .i64 ((0 : Nat) : Int), .i .u64 h]⟩]), n, ⟨(), ⟨_, rfl⟩, ⟨rfl, rfl, rfl, trivial⟩⟩, ?_⟩
  rintro i0 _ G0 hi0 ⟨h, rfl⟩
  refine ⟨n, hn, ?_⟩
  refine ⟨fun h16 => ?_, fun h16 => ?_⟩
  · replace h16 := of_decide_eq_true h16
    refine brB_t ?_
    refine brB_t ?_
    refine ⟨fun h19 => ?_, fun h19 => ?_⟩
    · replace h19 := of_decide_eq_true h19
      refine ⟨_, _, get_new, rfl, ?_⟩
      refine ⟨_, rfl, ?_⟩
      have hcat := (hC.ext (Ext.app (G := [⟨false, .rw [a, .i .i64 ((0 : Nat) : Int), .i .u64 h]⟩]))).at hn i0 (by omega)
      obtain ⟨k, off, len, cap, B0, u, ea, hl, hk, hu⟩ := hcat
      refine ⟨k, off, len, cap, i0, _, ea, rfl, hl, rfl, ?_⟩
      refine ⟨_, _, hk, hu, ?_⟩
      refine ⟨_, rfl, ?_⟩
      refine ⟨_, rfl, ?_⟩
      refine ⟨_, _, _, get_new, cput_rw (by simp) rfl, eqBk_rfl, ?_⟩
      refine ⟨((i0 + 1 : Nat) : Int), w64_id _ (by omega) (by omega), ?_⟩
      exact ⟨by omega, (), ⟨_, app_set0⟩, ⟨rfl, rfl, rfl, trivial⟩⟩
    · replace h19 := of_decide_eq_false h19
      refine ⟨rfl, rfl, Ext.app, a, 0, h, get_new, hC.ext Ext.app, by omega⟩
  · replace h16 := of_decide_eq_false h16
    refine brB_f ?_
    refine brB_f ?_
    refine brB_f ?_
    refine ⟨rfl, rfl, Ext.app, a, 0, h, get_new, hC.ext Ext.app, by omega⟩

theorem s_l01Next_ok (B : Bs P ρ) (E : F_s_l01Next P ρ) {H : List Blk} {s : Nat} {n : Int} (hS : Src H s) :
    CallR P ρ 195 [.pt s 0, .i .i64 n] H (fun u G => ∃ z : Int, u = .one (.i .i64 z) ∧ (0 ≤ z ∧ (n < 1 → z = 0) ∧ (1 ≤ n → z < n)) ∧ Fr [s] H G ∧ Src G s) := by
  have hS2 := hS
  obtain ⟨code, j, h, hs, hC, hj⟩ := hS
  obtain ⟨m, hm, hm2⟩ := hC.len
  refine call_of_q B.fn B.mo E rfl (fun hAr hHp => ?_) (by simp [At.lt, hS2.lt])
  refine ⟨fun h7 => ?_, fun h7 => ?_⟩
  · replace h7 := of_decide_eq_true h7
    exact ⟨rfl, 0, rfl, ⟨by omega, fun _ => rfl, fun q => by omega⟩, Fr.refl, hS2⟩
  · replace h7 := of_decide_eq_false h7
    refine ⟨_, _, hs, rfl, ?_⟩
    refine ⟨_, rfl, ?_⟩
    refine ⟨_, rfl, ?_⟩
    refine ⟨_, _, _, hs, cput_rw (by simp) rfl, eqBk_rfl, ?_⟩
    refine ⟨_, _, set_same hs, rfl, ?_⟩
    refine ⟨_, rfl, ?_⟩
    refine ⟨_, rfl, ?_⟩
    have hb := @and_bd ((IntKind.u64.wrap (IntKind.u64.wrap (h * 6364136223846793005) + 1442695040888963407)).fdiv (2 ^ (min (33 : Int).toNat 64)))
    refine ⟨_, w64_id _ (by exact Int.le_trans (by decide) hb.1) (by exact Int.le_trans hb.2 (by decide)), ?_⟩
    refine ⟨_, _, set_same hs, rfl, ?_⟩
    refine ⟨_, _, set_same hs, rfl, ?_⟩
    refine ⟨m, hm, ?_⟩
    refine ⟨fun h33 => ?_, fun h33 => ?_⟩
    · replace h33 := of_decide_eq_true h33
      refine ⟨_, _, set_same hs, rfl, ?_⟩
      refine ⟨_, _, set_same hs, rfl, ?_⟩
      have hcat := (hC.set (B := ⟨false, .rw [code, .i .i64 (j : Int), .i .u64 (IntKind.u64.wrap (IntKind.u64.wrap (h * 6364136223846793005) + 1442695040888963407))]⟩) hs rfl).at hm j (by omega)
      obtain ⟨k, off, len, cap, B0, u, ea, hl, hk, hu⟩ := hcat
      have hule := toNat_le u
      refine ⟨k, off, len, cap, j, _, ea, rfl, hl, rfl, ?_⟩
      refine ⟨_, _, hk, hu, ?_⟩
      refine ⟨_, w64_id _ (by have := hb.1; omega) (by have := hb.2; omega), ?_⟩
      refine ⟨_, _, set_same hs, rfl, ?_⟩
      refine ⟨((j + 1 : Nat) : Int), w64_id _ (by omega) (by omega), ?_⟩
      refine ⟨_, _, _, set_same hs, cput_rw (by simp) rfl, eqBk_rfl, ?_⟩
      refine ⟨by omega, _, rfl, ?_⟩
      have ht := tmod_bd (n := n) (x := IntKind.u64.wrap ((BitVec.ofInt 64 ((IntKind.u64.wrap (IntKind.u64.wrap (h * 6364136223846793005) + 1442695040888963407)).fdiv (2 ^ (min (33 : Int).toNat 64))) &&& BitVec.ofInt 64 16777215).toNat : Int) + (u.toNat : Int)) (by have := hb.1; omega) h7
      rw [List.set_set]
      exact ⟨rfl, _, rfl, ⟨ht.1, fun q => absurd q h7, fun _ => ht.2⟩, src_upd hs rfl hC (by omega)⟩
    · replace h33 := of_decide_eq_false h33
      refine ⟨by omega, _, rfl, ?_⟩
      have ht := tmod_bd (n := n) hb.1 h7
      exact ⟨rfl, _, rfl, ⟨ht.1, fun q => absurd q h7, fun _ => ht.2⟩, src_upd hs rfl hC hj⟩

end Hf
namespace Hf
open Go Classical
theorem VS.fr {l : List Nat} {H H' : List Blk} {a : At} {L : List By} (h : VS H a L) (e : Fr l H H') (hn : ∀ k ∈ spB a, k ∉ l) : VS H' a L := by
  rcases h with h | ⟨k, off, cap, r, N, f, rfl, h2, h3, h4⟩
  · exact .inl h
  · exact .inr ⟨k, off, cap, r, N, f, rfl, e _ _ (hn k (by simp [spB])) h2, h3, h4⟩
theorem VW.fr {m : Nat} {l : List Nat} {H H' : List Blk} {a : At} {L : List By} (h : VW m H a L) (e : Fr l H H') (hn : blkOf a ∉ l) : VW m H' a L := by
  obtain ⟨k, off, cap, N, f, rfl, h2, h3, h4⟩ := h
  exact ⟨k, off, cap, N, f, rfl, e _ _ hn h2, h3, h4⟩
theorem VW.lt {m : Nat} {H : List Blk} {a : At} {L : List By} (h : VW m H a L) : blkOf a < H.length := by
  obtain ⟨k, off, cap, N, f, rfl, h2, h3, h4⟩ := h
  exact lt_of h2
theorem VW.sp {m : Nat} {H : List Blk} {a : At} {L : List By} (h : VW m H a L) : spB a = [blkOf a] := by
  obtain ⟨k, off, cap, N, f, rfl, h2, h3, h4⟩ := h
  rfl
theorem get_new1 {G : List Blk} {A B : Blk} : (G ++ [A] ++ [B])[G.length + 1]? = some B := by simp
end Hf
namespace Hf
open Go Classical
variable {P : Program} {ρ : Nat → FuncId}
theorem tmodN {x n : Nat} : ((x : Int)).tmod (n : Int) = ((x % n : Nat) : Int) := by
  rw [Int.tmod_eq_emod_of_nonneg (by omega)]; rfl
theorem Fr.set {s k : Nat} {H G : List Blk} {B : Blk} (h : Fr [s] H G) (hk : H.length ≤ k) : Fr [s] H (G.set k B) := fun j A hj e => by
  have := lt_of e
  exact set_other (h j A hj e) (by omega)
theorem VI.fr {l : List Nat} {H H' : List Blk} {a : At} {L : List Int} (h : VI H a L) (e : Fr l H H') (hn : ∀ k ∈ spB a, k ∉ l) : VI H' a L := rdR_fr h e hn
theorem s_l01Pick_ok (B : Bs P ρ) (E : F_s_l01Pick P ρ) {H : List Blk} {s : Nat} {a : At} {L : List Int} (hS : Src H s) (hV : VI H a L) (hlt : a.lt H.length = true) (hd : ∀ k ∈ spB a, k ≠ s) (hL : 0 < L.length) :
    CallR P ρ 205 [.pt s 0, a] H (fun u G => ∃ z : Int, z ∈ L ∧ u = .one (.i .i64 z) ∧ Fr [s] H G ∧ Src G s) := by
  refine call_of_q B.fn B.mo E.1 rfl (fun hAr hHp => ?_) (by simp only [List.all_cons, List.all_nil, hlt]; simp [At.lt, hS.lt])
  refine ⟨_, (hV).len, ?_⟩
  refine ⟨_, s_l01Next_ok B E.2 hS, ?_⟩
  rintro _ G9 ⟨z, rfl, hz, hf, hS9⟩
  obtain ⟨x, rfl⟩ : ∃ x : Nat, z = (x : Int) := ⟨z.toNat, by have := hz.1; omega⟩
  have hx : x < L.length := by have := hz.2.2 (by omega); omega
  have hVG := hV.fr hf (by simpa using hd)
  obtain ⟨k10, o10, n10, c10, q10, ea10, hl10, hq10, r10, l10, hk10, hi10⟩ := VI.at (hVG) x (by omega)
  refine ⟨k10, o10, n10, c10, x, q10, ea10, rfl, hl10, hq10, ?_⟩
  refine ⟨_, _, hk10, hi10, ?_⟩
  exact ⟨rfl, L.getD x 0, by rw [List.getD_eq_getElem?_getD, List.getElem?_eq_getElem hx]; exact List.getElem_mem hx, rfl, hf, hS9⟩

theorem s_l01DrawPrime_ok (B : Bs P ρ) (E : F_s_l01DrawPrime P ρ) {H : List Blk} {s : Nat} (hS : Src H s) :
    CallR P ρ 206 [.pt s 0] H (fun u G => ∃ z : Int, (2 ≤ z ∧ z ≤ 31) ∧ u = .one (.i .i64 z) ∧ Fr [s] H G ∧ Src G s) := by
  have hsl := hS.lt
  refine call_of_q B.fn B.mo E.1 rfl (fun hAr hHp => ?_) (by simp [At.lt, hS.lt])
  refine ⟨_, rfl, ?_⟩
  refine ⟨_, s_l01Pick_ok B E.2 (L := [2, 2, 3, 3, 5, 5, 7, 11, 31]) (hS.ext Ext.app) ⟨false, _, get_new, by simp, rfl⟩ (by simp [At.lt]) (by simp [spB]; omega) (by simp), ?_⟩
  rintro _ G5 ⟨z, hz, rfl, hf, hS5⟩
  exact ⟨rfl, z, by simp at hz; omega, rfl, (Ext.app.fr).trans hf, hS5⟩

theorem s_l01DrawVector_ok (B : Bs P ρ) (E : F_s_l01DrawVector P ρ) {H : List Blk} {s : Nat} {p n : Int} (hS : Src H s) :
    CallR P ρ 198 [.pt s 0, .i .i64 p, .i .i64 n] H (fun u G => ∃ f : By, u = .one (.ag [] 8 f) ∧ Fr [s] H G ∧ Src G s) := by
  have hsl := hS.lt
  refine call_of_q B.fn B.mo E.1 rfl (fun hAr hHp => ?_) (by simp [At.lt, hS.lt])
  refine ⟨_, rfl, ?_⟩
  refine ⟨H.length + 1, by simp, ?_⟩
  refine ⟨_, _, _, get_new1, cputs_by (by simp) (by omega), eqBk_rfl, ?_⟩
  refine ⟨Unit, (fun a0 a1 a2 a6 a7 (i0 : Nat) (x0 : Unit) => [(0, a0), (1, a1), (2, a2), (6, a6), (7, a7), (8, .one (.i .i64 ((i0 : Nat) : Int)))]) _ _ _ _ _ , fun (i0 : Nat) (x0 : Unit) (G0 : List Blk) => (Fr [s] H G0 ∧ Src G0 s ∧ (∃ f : By, G0[H.length + 1]? = some ⟨false, .by [] 8 f⟩) ∧ ∃ f : By, G0[H.length]? = some ⟨false, .by [] 8 f⟩), 8, ⟨(), ⟨(Ext.app.trans Ext.app).fr.set (Nat.le_succ _), ((hS.ext Ext.app).ext Ext.app).set get_new1 rfl (by omega), ⟨_, set_same get_new1⟩, ⟨_, set_other (app_old get_new) (by omega)⟩⟩, ⟨rfl, rfl, rfl, rfl, rfl, rfl, trivial⟩⟩, ?_⟩
  rintro i0 _ G0 hi0 ⟨hF0, hS0, ⟨f, hk0⟩, f0, hm0⟩
  refine ⟨fun h13 => ?_, fun h13 => ?_⟩
  · replace h13 := of_decide_eq_true h13
    refine brB_t ?_
    refine brB_t ?_
    refine ⟨fun h16 => ?_, fun h16 => ?_⟩
    · replace h16 := of_decide_eq_true h16
      refine ⟨_, s_l01Next_ok B E.2 hS0, ?_⟩
      rintro _ G20 ⟨z, rfl, hz, hf20, hS20⟩
      refine ⟨fun h21 => ?_, fun h21 => ?_⟩
      · replace h21 := eq_of_beq h21
        refine ⟨_, rfl, ?_⟩
        refine ⟨_, rfl, ?_⟩
        refine ⟨_, s_l01Next_ok B E.2 hS20, ?_⟩
        rintro _ G27 ⟨z27, rfl, hz27, hf27, hS27⟩
        refine ⟨i0, _, rfl, by omega, rfl, ?_⟩
        have hk27 := hf27.get (hf20.get hk0 (by omega)) (by omega)
        have hm27 := hf27.get (hf20.get hm0 (by omega)) (by omega)
        refine ⟨_, _, _, hk27, cput_u (by simp) (by omega), eqBk_rfl, ?_⟩
        refine ⟨((i0 + 1 : Nat) : Int), w64_id _ (by omega) (by omega), ?_⟩
        exact ⟨by omega, (), ⟨((hF0.trans hf20).trans hf27).set (Nat.le_succ _), hS27.set hk27 rfl (by omega), ⟨_, set_same hk27⟩, _, set_other hm27 (by omega)⟩, ⟨rfl, rfl, rfl, rfl, rfl, rfl, trivial⟩⟩
      · replace h21 := ne_of_beq_false h21
        refine ⟨((i0 + 1 : Nat) : Int), w64_id _ (by omega) (by omega), ?_⟩
        exact ⟨by omega, (), ⟨hF0.trans hf20, hS20, ⟨_, hf20.get hk0 (by omega)⟩, _, hf20.get hm0 (by omega)⟩, ⟨rfl, rfl, rfl, rfl, rfl, rfl, trivial⟩⟩
    · replace h16 := of_decide_eq_false h16
      refine ⟨_, _, _, _, _, hk0, ⟨by simp, by omega⟩, fun x _ => congrArg _ (Nat.zero_add x).symm, ?_⟩
      refine ⟨_, _, _, hm0, cputs_by (by simp) (by omega), eqBk_rfl, ?_⟩
      exact ⟨rfl, false, [], 8, _, f, set_same hm0, ⟨by simp, by omega⟩, fun x hx => by simp [spl, hx], ⟨f, rfl, hF0.set (Nat.le_refl _), hS0.set hm0 rfl (by omega)⟩⟩
  · replace h13 := of_decide_eq_false h13
    refine brB_f ?_
    refine brB_f ?_
    refine brB_f ?_
    refine ⟨_, _, _, _, _, hk0, ⟨by simp, by omega⟩, fun x _ => congrArg _ (Nat.zero_add x).symm, ?_⟩
    refine ⟨_, _, _, hm0, cputs_by (by simp) (by omega), eqBk_rfl, ?_⟩
    exact ⟨rfl, false, [], 8, _, f, set_same hm0, ⟨by simp, by omega⟩, fun x hx => by simp [spl, hx], ⟨f, rfl, hF0.set (Nat.le_refl _), hS0.set hm0 rfl (by omega)⟩⟩

theorem l_roll_ok (B : Bs P ρ) (E : F_l_roll P ρ) {H : List Blk} {a : At} {z : Int} (hC : CB H a) :
    CallR P ρ 183 [a, .i .u64 z] H (fun u G => u = .one (.pt H.length 0) ∧ Ext H G ∧ Src G H.length) := by
  obtain ⟨n, hn, hn2⟩ := hC.len
  refine call_of_q B.fn B.mo E rfl (fun hAr hHp => ?_) (by simp only [List.all_cons, List.all_nil, hC.lt]; rfl)
  refine ⟨_, rfl, ?_⟩
  refine ⟨n, hn, ?_⟩
  refine ⟨_, rfl, ?_⟩
  refine ⟨_, rfl, ?_⟩
  refine ⟨hC.cell, rfl, ?_⟩
  refine ⟨_, rfl, by show (a.cell1 && _) = true; rw [hC.cell]; rfl, ?_⟩
  refine ⟨Unit, (fun a0 (i0 : Nat) (x0 : Unit) => [(0, a0), (5, .one (.pt H.length 0)), (6, .one (.i .i64 ((i0 : Nat) : Int)))]) _ , fun (i0 : Nat) (x0 : Unit) (G0 : List Blk) => (∃ h : Int, G0 = H ++ [⟨false, .rw [a, .i .i64 ((0 : Nat) : Int), .i .u64 h]⟩]), n, ⟨(), ⟨_, rfl⟩, ⟨rfl, rfl, rfl, trivial⟩⟩, ?_⟩
  rintro i0 _ G0 hi0 ⟨h, rfl⟩
  refine ⟨n, hn, ?_⟩
  refine ⟨fun h19 => ?_, fun h19 => ?_⟩
  · replace h19 := of_decide_eq_true h19
    refine ⟨_, _, get_new, rfl, ?_⟩
    refine ⟨_, rfl, ?_⟩
    have hcat := (hC.ext (Ext.app (G := [⟨false, .rw [a, .i .i64 ((0 : Nat) : Int), .i .u64 h]⟩]))).at hn i0 (by omega)
    obtain ⟨k, off, len, cap, B0, u, ea, hl, hk, hu⟩ := hcat
    refine ⟨k, off, len, cap, i0, _, ea, rfl, hl, rfl, ?_⟩
    refine ⟨_, _, hk, hu, ?_⟩
    refine ⟨_, rfl, ?_⟩
    refine ⟨_, rfl, ?_⟩
    refine ⟨_, _, _, get_new, cput_rw (by simp) rfl, eqBk_rfl, ?_⟩
    refine ⟨((i0 + 1 : Nat) : Int), w64_id _ (by omega) (by omega), ?_⟩
    exact ⟨by omega, (), ⟨_, app_set0⟩, ⟨rfl, rfl, rfl, trivial⟩⟩
  · replace h19 := of_decide_eq_false h19
    have e0 : n = i0 := by omega
    subst e0
    refine ⟨rfl, rfl, Ext.app, a, 0, h, get_new, hC.ext Ext.app, by omega⟩

theorem l_dice_below_ok (B : Bs P ρ) (E : F_l_dice_below P ρ) {H : List Blk} {s : Nat} {n : Int} (hS : Src H s) :
    CallR P ρ 200 [.pt s 0, .i .i64 n] H (fun u G => ∃ z : Int, u = .one (.i .i64 z) ∧ (0 ≤ z ∧ (n < 1 → z = 0) ∧ (1 ≤ n → z < n)) ∧ Fr [s] H G ∧ Src G s) := by
  have hS2 := hS
  obtain ⟨code, j, h, hs, hC, hj⟩ := hS
  obtain ⟨m, hm, hm2⟩ := hC.len
  refine call_of_q B.fn B.mo E rfl (fun hAr hHp => ?_) (by simp [At.lt, hS2.lt])
  refine ⟨fun h7 => ?_, fun h7 => ?_⟩
  · replace h7 := of_decide_eq_true h7
    exact ⟨rfl, 0, rfl, ⟨by omega, fun _ => rfl, fun q => by omega⟩, Fr.refl, hS2⟩
  · replace h7 := of_decide_eq_false h7
    refine ⟨_, _, hs, rfl, ?_⟩
    refine ⟨_, rfl, ?_⟩
    refine ⟨_, rfl, ?_⟩
    refine ⟨_, _, _, hs, cput_rw (by simp) rfl, eqBk_rfl, ?_⟩
    refine ⟨_, _, set_same hs, rfl, ?_⟩
    refine ⟨_, rfl, ?_⟩
    refine ⟨_, rfl, ?_⟩
    have hb := @and_bd ((IntKind.u64.wrap (IntKind.u64.wrap (h * 6364136223846793005) + 1442695040888963407)).fdiv (2 ^ (min (33 : Int).toNat 64)))
    refine ⟨_, w64_id _ (by exact Int.le_trans (by decide) hb.1) (by exact Int.le_trans hb.2 (by decide)), ?_⟩
    refine ⟨_, _, set_same hs, rfl, ?_⟩
    refine ⟨_, _, set_same hs, rfl, ?_⟩
    refine ⟨m, hm, ?_⟩
    refine ⟨fun h33 => ?_, fun h33 => ?_⟩
    · replace h33 := of_decide_eq_true h33
      refine ⟨_, _, set_same hs, rfl, ?_⟩
      refine ⟨_, _, set_same hs, rfl, ?_⟩
      have hcat := (hC.set (B := ⟨false, .rw [code, .i .i64 (j : Int), .i .u64 (IntKind.u64.wrap (IntKind.u64.wrap (h * 6364136223846793005) + 1442695040888963407))]⟩) hs rfl).at hm j (by omega)
      obtain ⟨k, off, len, cap, B0, u, ea, hl, hk, hu⟩ := hcat
      have hule := toNat_le u
      refine ⟨k, off, len, cap, j, _, ea, rfl, hl, rfl, ?_⟩
      refine ⟨_, _, hk, hu, ?_⟩
      refine ⟨_, w64_id _ (by have := hb.1; omega) (by have := hb.2; omega), ?_⟩
      refine ⟨_, _, set_same hs, rfl, ?_⟩
      refine ⟨((j + 1 : Nat) : Int), w64_id _ (by omega) (by omega), ?_⟩
      refine ⟨_, _, _, set_same hs, cput_rw (by simp) rfl, eqBk_rfl, ?_⟩
      refine ⟨by omega, _, rfl, ?_⟩
      have ht := tmod_bd (n := n) (x := IntKind.u64.wrap ((BitVec.ofInt 64 ((IntKind.u64.wrap (IntKind.u64.wrap (h * 6364136223846793005) + 1442695040888963407)).fdiv (2 ^ (min (33 : Int).toNat 64))) &&& BitVec.ofInt 64 16777215).toNat : Int) + (u.toNat : Int)) (by have := hb.1; omega) h7
      rw [List.set_set]
      exact ⟨rfl, _, rfl, ⟨ht.1, fun q => absurd q h7, fun _ => ht.2⟩, src_upd hs rfl hC (by omega)⟩
    · replace h33 := of_decide_eq_false h33
      refine ⟨by omega, _, rfl, ?_⟩
      have ht := tmod_bd (n := n) hb.1 h7
      exact ⟨rfl, _, rfl, ⟨ht.1, fun q => absurd q h7, fun _ => ht.2⟩, src_upd hs rfl hC hj⟩

theorem l_vector9_ok (B : Bs P ρ) (E : F_l_vector9 P ρ) {H : List Blk} {s n : Nat} {p : Int} (hS : Src H s) (hp : 1 ≤ p) (hp2 : p ≤ 256) (hn : n ≤ 8) :
    CallR P ρ 192 [.pt s 0, .i .i64 p, .i .i64 (n : Int)] H (fun u G => ∃ f : By, u = .one (.ag [] 8 f) ∧ Vec p (n : Int) f 0 ∧ Fr [s] H G ∧ Src G s) := by
  have hsl := hS.lt
  refine call_of_q B.fn B.mo E.1 rfl (fun hAr hHp => ?_) (by simp [At.lt, hS.lt])
  refine ⟨_, rfl, ?_⟩
  refine ⟨H.length + 1, by simp, ?_⟩
  refine ⟨_, _, _, get_new1, cputs_by (by simp) (by omega), eqBk_rfl, ?_⟩
  refine ⟨Unit, (fun a0 a1 a2 a6 a7 (i0 : Nat) (x0 : Unit) => [(0, a0), (1, a1), (2, a2), (6, a6), (7, a7), (8, .one (.i .i64 ((i0 : Nat) : Int)))]) _ _ _ _ _ , fun (i0 : Nat) (x0 : Unit) (G0 : List Blk) => (Fr [s] H G0 ∧ Src G0 s ∧ (∃ f : By, G0[H.length + 1]? = some ⟨false, .by [] 8 f⟩ ∧ ∀ x, x < 8 → bz f x < p ∧ (i0 ≤ x → f x = 0)) ∧ ∃ f : By, G0[H.length]? = some ⟨false, .by [] 8 f⟩), n, ⟨(), ⟨(Ext.app.trans Ext.app).fr.set (Nat.le_succ _), ((hS.ext Ext.app).ext Ext.app).set get_new1 rfl (by omega), ⟨_, set_same get_new1, fun x hx => by simp [spl, bz]; omega⟩, ⟨_, set_other (app_old get_new) (by omega)⟩⟩, ⟨rfl, rfl, rfl, rfl, rfl, rfl, trivial⟩⟩, ?_⟩
  rintro i0 _ G0 hi0 ⟨hF0, hS0, ⟨f, hk0, hf0⟩, f0, hm0⟩
  refine ⟨fun h12 => ?_, fun h12 => ?_⟩
  · replace h12 := of_decide_eq_true h12
    refine ⟨_, l_dice_below_ok B E.2 hS0, ?_⟩
    rintro _ G18 ⟨z, rfl, hz, hf18, hS18⟩
    refine ⟨i0, _, rfl, by omega, rfl, ?_⟩
    have hk18 := hf18.get hk0 (by omega)
    have hm18 := hf18.get hm0 (by omega)
    refine ⟨_, _, _, hk18, cput_u (by simp) (by omega), eqBk_rfl, ?_⟩
    refine ⟨((i0 + 1 : Nat) : Int), w64_id _ (by omega) (by omega), ?_⟩
    refine ⟨by omega, (), ?_, ⟨rfl, rfl, rfl, rfl, rfl, rfl, trivial⟩⟩
    refine ⟨(hF0.trans hf18).set (Nat.le_succ _), hS18.set hk18 rfl (by omega), ⟨_, set_same hk18, fun x hx => ?_⟩, _, set_other hm18 (by omega)⟩
    rw [show 0 + i0 * 1 = i0 by omega]
    by_cases e : x = i0
    · subst e
      rw [show bz (upd f x (byt z)) x = ((byt z).toNat : Int) by unfold bz; rw [upd_same]]
      have := hz.2.2 (by omega)
      rw [bz_byt _ hz.1 (by omega)]
      exact ⟨this, fun q => by omega⟩
    · rw [show bz (upd f i0 (byt z)) x = bz f x by unfold bz; rw [upd_ne _ _ _ _ e], upd_ne _ _ _ _ e]
      exact ⟨(hf0 x hx).1, fun q => (hf0 x hx).2 (by omega)⟩
  · replace h12 := of_decide_eq_false h12
    have e0 : n = i0 := by omega
    subst e0
    refine ⟨_, _, _, _, _, hk0, ⟨by simp, by omega⟩, fun x _ => congrArg _ (Nat.zero_add x).symm, ?_⟩
    refine ⟨_, _, _, hm0, cputs_by (by simp) (by omega), eqBk_rfl, ?_⟩
    refine ⟨rfl, false, [], 8, _, f, set_same hm0, ⟨by simp, by omega⟩, fun x hx => by simp [spl, hx], ⟨f, rfl, fun k hk => ?_, hF0.set (Nat.le_refl _), hS0.set hm0 rfl (by omega)⟩⟩
    rw [Nat.zero_add]
    exact ⟨(hf0 k hk).1, fun q => by have := (hf0 k hk).2 (by omega); unfold bz; rw [this]; rfl⟩

theorem l_linear9_ok (B : Bs P ρ) (E : F_l_linear9 P ρ) {H : List Blk} {s n m : Nat} {p : Int} (hS : Src H s) (hp : 1 ≤ p) (hp2 : p ≤ 256) (hn : n ≤ 8) (hm : m ≤ 8) :
    CallR P ρ 184 [.pt s 0, .i .i64 p, .i .i64 (n : Int), .i .i64 (m : Int)] H (fun u G => ∃ f : By, u = .one (.ag [] 64 f) ∧ Lin p (n : Int) (m : Int) f 0 ∧ Fr [s] H G ∧ Src G s) := by
  have hsl := hS.lt
  refine call_of_q B.fn B.mo E.1 rfl (fun hAr hHp => ?_) (by simp [At.lt, hS.lt])
  refine ⟨_, rfl, ?_⟩
  refine ⟨H.length + 1, by simp, ?_⟩
  refine ⟨_, _, _, get_new1, cputs_by (by simp) (by omega), eqBk_rfl, ?_⟩
  refine ⟨Unit, (fun a0 a1 a2 a3 a8 a9 (i0 : Nat) (x0 : Unit) => [(0, a0), (1, a1), (2, a2), (3, a3), (8, a8), (9, a9), (10, .one (.i .i64 ((i0 : Nat) : Int)))]) _ _ _ _ _ _ , fun (i0 : Nat) (x0 : Unit) (G0 : List Blk) => (Fr [s] H G0 ∧ Src G0 s ∧ (∃ f : By, G0[H.length + 1]? = some ⟨false, .by [] 64 f⟩ ∧ ∀ i, i < 8 → Vec p (m : Int) f (i * 8) ∧ (i0 ≤ i → ∀ k, k < 8 → bz f (i * 8 + k) = 0)) ∧ ∃ f : By, G0[H.length]? = some ⟨false, .by [] 64 f⟩), n, ⟨(), ?_, ⟨rfl, rfl, rfl, rfl, rfl, rfl, rfl, trivial⟩⟩, ?_⟩
  · refine ⟨(Ext.app.trans Ext.app).fr.set (Nat.le_succ _), ((hS.ext Ext.app).ext Ext.app).set get_new1 rfl (by omega), ⟨_, set_same get_new1, fun i hi => ?_⟩, ⟨_, set_other (app_old get_new) (by omega)⟩⟩
    have e : ∀ x, bz (spl (fun _ => 0) 0 64 fun _ => 0) x = 0 := fun x => by unfold bz spl; split <;> rfl
    exact ⟨fun k hk => ⟨by rw [e]; omega, fun _ => e _⟩, fun _ k hk => e _⟩
  rintro i0 _ G0 hi0 ⟨hF0, hS0, ⟨f, hk0, hf0⟩, f0, hm0⟩
  refine ⟨fun h14 => ?_, fun h14 => ?_⟩
  · replace h14 := of_decide_eq_true h14
    refine ⟨_, l_vector9_ok B E.2 hS0 hp hp2 hm, ?_⟩
    rintro _ G21 ⟨z, rfl, hz, hf21, hS21⟩
    refine ⟨i0, _, rfl, by omega, rfl, ?_⟩
    have hk21 := hf21.get hk0 (by omega)
    have hm21 := hf21.get hm0 (by omega)
    refine ⟨_, _, _, hk21, cputs_by (by simp) (by omega), eqBk_rfl, ?_⟩
    refine ⟨((i0 + 1 : Nat) : Int), w64_id _ (by omega) (by omega), ?_⟩
    refine ⟨by omega, (), ?_, ⟨rfl, rfl, rfl, rfl, rfl, rfl, rfl, trivial⟩⟩
    refine ⟨(hF0.trans hf21).set (Nat.le_succ _), hS21.set hk21 rfl (by omega), ⟨_, set_same hk21, fun i hi => ?_⟩, _, set_other hm21 (by omega)⟩
    rw [show 0 + i0 * 8 = i0 * 8 by omega]
    by_cases e : i = i0
    · subst e
      have q : ∀ k, k < 8 → bz (spl f (i * 8) 8 z) (i * 8 + k) = bz z (0 + k) := fun k hk => by unfold bz spl; rw [if_pos (by omega), show i * 8 + k - i * 8 = 0 + k by omega]
      exact ⟨fun k hk => by rw [q k hk]; exact hz k hk, fun h => by omega⟩
    · have q : ∀ k, k < 8 → bz (spl f (i0 * 8) 8 z) (i * 8 + k) = bz f (i * 8 + k) := fun k hk => by unfold bz spl; rw [if_neg (by omega)]
      exact ⟨fun k hk => by rw [q k hk]; exact (hf0 i hi).1 k hk, fun h k hk => by rw [q k hk]; exact (hf0 i hi).2 (by omega) k hk⟩
  · replace h14 := of_decide_eq_false h14
    have e0 : n = i0 := by omega
    subst e0
    refine ⟨_, _, _, _, _, hk0, ⟨by simp, by omega⟩, fun x _ => congrArg _ (Nat.zero_add x).symm, ?_⟩
    refine ⟨_, _, _, hm0, cputs_by (by simp) (by omega), eqBk_rfl, ?_⟩
    refine ⟨rfl, false, [], 64, _, f, set_same hm0, ⟨by simp, by omega⟩, fun x hx => by simp [spl, hx], ⟨f, rfl, fun i hi => ?_, hF0.set (Nat.le_refl _), hS0.set hm0 rfl (by omega)⟩⟩
    rw [Nat.zero_add]
    exact ⟨(hf0 i hi).1, fun q => (hf0 i hi).2 (by omega)⟩

end Hf
namespace Hf
open Go Classical
variable {P : Program} {ρ : Nat → FuncId}
/-- an algebra behind another one: u entries of the unit, i rows, of row i j columns, of column j k entries are in -/
def pfx (n m : Nat) (f g : By) (u i j k : Nat) : By := fun x =>
  if x < 10 then (if n + 2 ≤ x ∧ x < n + 2 + u then g (x - n) else f x)
  else if n ≤ (x - 10) / 64 ∧ (n ≤ (x - 10) / 8 % 8 ∧ (x - 10) / 8 % 8 < n + m) ∧ (n ≤ (x - 10) % 8 ∧ (x - 10) % 8 < n + m) ∧ ((x - 10) / 64 < n + i ∨ (x - 10) / 64 = n + i ∧ ((x - 10) / 8 % 8 < n + j ∨ (x - 10) / 8 % 8 = n + j ∧ (x - 10) % 8 < n + k))
    then g (10 + ((x - 10) / 64 - n) * 64 + ((x - 10) / 8 % 8 - n) * 8 + ((x - 10) % 8 - n)) else f x
theorem pfx_0 {n m : Nat} {f g : By} : f = pfx n m f g 0 0 0 0 := by
  funext x
  unfold pfx
  by_cases h : x < 10
  · rw [if_pos h, if_neg (by omega)]
  · rw [if_neg h, if_neg (by omega)]
theorem pfx_u {n m i : Nat} {f g : By} (h : n + i < 8) : upd (pfx n m f g i i 0 0) (2 + (n + i)) (g (2 + i)) = pfx n m f g (i + 1) i 0 0 := by
  funext x
  by_cases e : x = 2 + (n + i)
  · subst e
    rw [upd_same]
    unfold pfx
    rw [if_pos (by omega), if_pos (by omega)]; congr 1; omega
  · rw [upd_ne _ _ _ _ e]
    unfold pfx
    by_cases q : x < 10
    · rw [if_pos q, if_pos q]
      by_cases z : n + 2 ≤ x ∧ x < n + 2 + i
      · rw [if_pos z, if_pos (by omega)]
      · rw [if_neg z, if_neg (by omega)]
    · rw [if_neg q, if_neg q]
theorem pfx_m {n m u i j k : Nat} {f g : By} (hi : n + i < 8) (hj : n + j < 8) (hk : n + k < 8) (hjm : j < m) (hkm : k < m) : upd (pfx n m f g u i j k) (10 + (n + i) * 64 + (n + j) * 8 + (n + k)) (g (10 + i * 64 + j * 8 + k)) = pfx n m f g u i j (k + 1) := by
  funext x
  by_cases e : x = 10 + (n + i) * 64 + (n + j) * 8 + (n + k)
  · have e1 : (x - 10) / 64 = n + i := by omega
    have e2 : (x - 10) / 8 % 8 = n + j := by omega
    have e3 : (x - 10) % 8 = n + k := by omega
    rw [← e, upd_same]
    unfold pfx
    rw [if_neg (by omega), if_pos (by rw [e1, e2, e3]; omega), e1, e2, e3]; congr 1; omega
  · rw [upd_ne _ _ _ _ e]
    unfold pfx
    by_cases q : x < 10
    · rw [if_pos q, if_pos q]
    · rw [if_neg q, if_neg q]
      have e' : ¬ ((x - 10) / 64 = n + i ∧ (x - 10) / 8 % 8 = n + j ∧ (x - 10) % 8 = n + k) := by omega
      generalize (x - 10) / 64 = a at *
      generalize (x - 10) / 8 % 8 = b at *
      generalize (x - 10) % 8 = c at *
      by_cases z : n ≤ a ∧ (n ≤ b ∧ b < n + m) ∧ (n ≤ c ∧ c < n + m) ∧ (a < n + i ∨ a = n + i ∧ (b < n + j ∨ b = n + j ∧ c < n + k))
      · rw [if_pos z, if_pos (by omega)]
      · rw [if_neg z, if_neg (by omega)]
theorem pfx_j {n m u i j : Nat} {f g : By} : pfx n m f g u i j m = pfx n m f g u i (j + 1) 0 := by
  funext x
  unfold pfx
  by_cases q : x < 10
  · rw [if_pos q, if_pos q]
  · rw [if_neg q, if_neg q]
    generalize (x - 10) / 64 = a at *
    generalize (x - 10) / 8 % 8 = b at *
    generalize (x - 10) % 8 = c at *
    by_cases z : n ≤ a ∧ (n ≤ b ∧ b < n + m) ∧ (n ≤ c ∧ c < n + m) ∧ (a < n + i ∨ a = n + i ∧ (b < n + j ∨ b = n + j ∧ c < n + m))
    · rw [if_pos z, if_pos (by omega)]
    · rw [if_neg z, if_neg (by omega)]
theorem pfx_i {n m u i : Nat} {f g : By} : pfx n m f g u i m 0 = pfx n m f g u (i + 1) 0 0 := by
  funext x
  unfold pfx
  by_cases q : x < 10
  · rw [if_pos q, if_pos q]
  · rw [if_neg q, if_neg q]
    generalize (x - 10) / 64 = a at *
    generalize (x - 10) / 8 % 8 = b at *
    generalize (x - 10) % 8 = c at *
    by_cases z : n ≤ a ∧ (n ≤ b ∧ b < n + m) ∧ (n ≤ c ∧ c < n + m) ∧ (a < n + i ∨ a = n + i ∧ (b < n + m ∨ b = n + m ∧ c < n + 0))
    · rw [if_pos z, if_pos (by omega)]
    · rw [if_neg z, if_neg (by omega)]
theorem cput_i {hd : List Int} {N x : Nat} {f : By} {z : Int} (h : x < hd.length) (h2 : x < N) : cput (.by hd N f) x (.i .i64 z) = some (.by (hd.set x z) N f) := if_pos ⟨h, h2⟩
theorem cputs_2 {a b a' b' : Int} {N : Nat} {f g : By} : cputs (.by [a', b'] N f) 0 (.ag [a, b] N g) N = some (.by [a, b] N g) := if_pos ⟨rfl, rfl, rfl, rfl⟩
theorem pa0 {n m : Nat} {a b : Int} {f g : By} {X Y : Blk} : [(⟨false, .by [a, b] 522 f⟩ : Blk), X, Y] = [⟨false, .by [a, b] 522 (pfx n m f g 0 0 0 0)⟩, X, Y] := by rw [← pfx_0]
theorem pa1 {n m i : Nat} {a b : Int} {f g : By} {X Y : Blk} (h : n + i < 8) : [(⟨false, .by [a, b] 522 (upd (pfx n m f g i i 0 0) (0 + 2 + (n + i) * 1) (g (2 + i)))⟩ : Blk), X, Y] = [⟨false, .by [a, b] 522 (pfx n m f g (i + 1) i 0 0)⟩, X, Y] := by
  rw [← pfx_u h, show 0 + 2 + (n + i) * 1 = 2 + (n + i) by omega]
theorem app_set1 {H : List Blk} {A B C : Blk} : (H ++ [A] ++ [B]).set (H.length + 1) C = H ++ [A] ++ [C] := by
  have : H.length + 1 = (H ++ [A]).length := by simp
  rw [this, app_set0]
noncomputable def paC (p n q m : Int) (f g : By) : Int := if ¬ (Alg p n f ∧ Alg q m g) then 1 else if p ≠ q then 2 else if n + m > 8 then 3 else 0
noncomputable def paF (p n q m : Int) (f g : By) : By := if paC p n q m f g = 0 then pfx n.toNat m.toNat f g m.toNat m.toNat 0 0 else fun _ => 0
noncomputable def paV (p n q m : Int) (f g : By) : Sv := .tup [.ag [if paC p n q m f g = 0 then p else 0, if paC p n q m f g = 0 then n + m else 0] 522 (paF p n q m f g), .i .i64 (paC p n q m f g)]
theorem paV_n {p n q m c : Int} {f g : By} (h : paC p n q m f g = c) (hc : c ≠ 0) : paV p n q m f g = .tup [.ag [0, 0] 522 fun _ => 0, .i .i64 c] := by
  unfold paV paF
  rw [h, if_neg hc, if_neg hc, if_neg hc]
theorem s_ProductAlgebra_ok (B : Bs P ρ) (E : F_s_ProductAlgebra P ρ) {p n q m : Int} {f g : By} :
    CallOK P ρ 209 [.ag [p, n] 522 f, .ag [q, m] 522 g] [] (paV p n q m f g) [] := by
  refine (CallR.pure (call_of_q B.fn B.mo E.1 rfl (fun _ _ => ?_) rfl) rfl).ok
  refine ⟨_, rfl, ?_⟩
  refine ⟨_, rfl, ?_⟩
  refine ⟨_, rfl, ?_⟩
  refine .inl ⟨_, _, _, _, rfl, ⟨rfl, by omega⟩, ?_⟩
  refine ⟨_, s_l01Is_ok B E.2 (p := p) (n := n) (f := f), rfl, ?_⟩
  refine ⟨fun h14 => ?_, fun h14 => ?_⟩
  · skip
    have hA : ¬ Alg p n f := fun z => by rw [decide_eq_true z] at h14; cases h14
    have hc : paC p n q m f g = 1 := if_pos fun z => hA z.1
    refine brB_t ?_
    refine brB_t ?_
    refine brB_t ?_
    refine brB_t ?_
    refine ⟨_, _, _, get_new, cputs_2, eqBk_rfl, ?_⟩
    first
      | exact ⟨rfl, false, _, 522, _, rfl, ⟨rfl, by omega⟩, (paV_n hc (by decide)).symm, Ext.nil⟩
      | (refine ⟨rfl, false, _, 522, _, rfl, ⟨rfl, by omega⟩, ?_, Ext.nil⟩
         show _ = paV _ _ _ _ _ _
         unfold paV paF
         rw [hc, if_pos rfl, if_pos rfl, if_pos rfl]
         rfl)
  · skip
    have hA : Alg p n f := by simpa using h14
    refine .inl ⟨_, _, _, _, rfl, ⟨rfl, by omega⟩, ?_⟩
    refine brB_f ?_
    refine ⟨_, s_l01Is_ok B E.2 (p := q) (n := m) (f := g), rfl, ?_⟩
    refine brB_f ?_
    refine brB_f ?_
    refine ⟨fun h10 => ?_, fun h10 => ?_⟩
    · skip
      have hB : ¬ Alg q m g := fun z => by rw [decide_eq_true z] at h10; cases h10
      have hc : paC p n q m f g = 1 := if_pos fun z => hB z.2
      refine ⟨_, _, _, get_new, cputs_2, eqBk_rfl, ?_⟩
      first
        | exact ⟨rfl, false, _, 522, _, rfl, ⟨rfl, by omega⟩, (paV_n hc (by decide)).symm, Ext.nil⟩
        | (refine ⟨rfl, false, _, 522, _, rfl, ⟨rfl, by omega⟩, ?_, Ext.nil⟩
           show _ = paV _ _ _ _ _ _
           unfold paV paF
           rw [hc, if_pos rfl, if_pos rfl, if_pos rfl]
           rfl)
    · skip
      have hB : Alg q m g := by simpa using h10
      obtain ⟨n, rfl⟩ : ∃ k : Nat, n = (k : Int) := ⟨n.toNat, by have := hA.1.1.2.1; omega⟩
      obtain ⟨m, rfl⟩ : ∃ k : Nat, m = (k : Int) := ⟨m.toNat, by have := hB.1.1.2.1; omega⟩
      have hn8 : n ≤ 8 := by have := hA.1.1.2.2; omega
      have hm8 : m ≤ 8 := by have := hB.1.1.2.2; omega
      refine ⟨_, _, rfl, rfl, ?_⟩
      refine ⟨_, _, rfl, rfl, ?_⟩
      refine ⟨fun h20 => ?_, fun h20 => ?_⟩
      · replace h20 := bne_t h20
        have hc : paC p n q m f g = 2 := by unfold paC; rw [if_neg (by simpa using ⟨hA, hB⟩), if_pos h20]
        refine ⟨_, _, _, get_new, cputs_2, eqBk_rfl, ?_⟩
        first
          | exact ⟨rfl, false, _, 522, _, rfl, ⟨rfl, by omega⟩, (paV_n hc (by decide)).symm, Ext.nil⟩
          | (refine ⟨rfl, false, _, 522, _, rfl, ⟨rfl, by omega⟩, ?_, Ext.nil⟩
             show _ = paV _ _ _ _ _ _
             unfold paV paF
             rw [hc, if_pos rfl, if_pos rfl, if_pos rfl]
             rfl)
      · replace h20 := bne_f h20
        subst h20
        refine ⟨_, _, rfl, rfl, ?_⟩
        refine ⟨_, _, rfl, rfl, ?_⟩
        refine ⟨_, w64_id _ (by omega) (by omega), ?_⟩
        refine ⟨fun h27 => ?_, fun h27 => ?_⟩
        · replace h27 := of_decide_eq_true h27
          have hc : paC p n p m f g = 3 := by unfold paC; rw [if_neg (by simpa using ⟨hA, hB⟩), if_neg (by simp), if_pos h27]
          refine ⟨_, _, _, get_new, cputs_2, eqBk_rfl, ?_⟩
          first
            | exact ⟨rfl, false, _, 522, _, rfl, ⟨rfl, by omega⟩, (paV_n hc (by decide)).symm, Ext.nil⟩
            | (refine ⟨rfl, false, _, 522, _, rfl, ⟨rfl, by omega⟩, ?_, Ext.nil⟩
               show _ = paV _ _ _ _ _ _
               unfold paV paF
               rw [hc, if_pos rfl, if_pos rfl, if_pos rfl]
               rfl)
        · replace h27 := of_decide_eq_false h27
          have hc : paC p n p m f g = 0 := by unfold paC; rw [if_neg (by simpa using ⟨hA, hB⟩), if_neg (by simp), if_neg h27]
          refine ⟨_, _, rfl, rfl, ?_⟩
          refine ⟨Unit, (fun a2 a3 a4 a6 (i0 : Nat) (x0 : Unit) => [(2, a2), (3, a3), (4, a4), (6, a6), (7, .one (.i .i64 ((i0 : Nat) : Int)))]) _ _ _ _ , fun (i0 : Nat) (x0 : Unit) (G0 : List Blk) => (G0 = [⟨false, .by [p, (n : Int)] 522 (pfx n m f g i0 i0 0 0)⟩, ⟨false, .by [p, (m : Int)] 522 g⟩, ⟨false, .by [0, 0] 522 fun _ => 0⟩]), m, ⟨(), pa0, ⟨rfl, rfl, rfl, rfl, rfl, trivial⟩⟩, ?_⟩
          rintro i0 _ G0 hi0 rfl
          refine ⟨_, _, rfl, rfl, ?_⟩
          refine ⟨fun h40 => ?_, fun h40 => ?_⟩
          · replace h40 := of_decide_eq_true h40
            refine ⟨((n + i0 : Nat) : Int), addN (by omega), ?_⟩
            refine ⟨i0, _, rfl, by omega, rfl, ?_⟩
            refine ⟨_, _, rfl, cat_bq (2 + i0) (by omega) (by simp <;> omega) (by omega), ?_⟩
            refine ⟨n + i0, _, rfl, by omega, rfl, ?_⟩
            refine ⟨_, _, _, rfl, cput_u (by simp <;> omega) (by omega), eqBk_rfl, ?_⟩
            refine ⟨Unit, (fun a2 a3 a4 a6 a7 (i1 : Nat) (x1 : Unit) => [(2, a2), (3, a3), (4, a4), (6, a6), (7, a7), (8, .one (.i .i64 ((i1 : Nat) : Int)))]) _ _ _ _ _ , fun (i1 : Nat) (x1 : Unit) (G1 : List Blk) => (G1 = [⟨false, .by [p, (n : Int)] 522 (pfx n m f g (i0 + 1) i0 i1 0)⟩, ⟨false, .by [p, (m : Int)] 522 g⟩, ⟨false, .by [0, 0] 522 fun _ => 0⟩]), m, ⟨(), (pa1 (by omega)), ⟨rfl, rfl, rfl, rfl, rfl, rfl, trivial⟩⟩, ?_⟩
            rintro i1 _ G1 hi1 rfl
            refine ⟨_, _, rfl, rfl, ?_⟩
            refine ⟨fun h55 => ?_, fun h55 => ?_⟩
            · replace h55 := of_decide_eq_true h55
              refine ⟨Unit, (fun a2 a3 a4 a6 a7 a8 (i2 : Nat) (x2 : Unit) => [(2, a2), (3, a3), (4, a4), (6, a6), (7, a7), (8, a8), (9, .one (.i .i64 ((i2 : Nat) : Int)))]) _ _ _ _ _ _ , fun (i2 : Nat) (x2 : Unit) (G2 : List Blk) => (G2 = [⟨false, .by [p, (n : Int)] 522 (pfx n m f g (i0 + 1) i0 i1 i2)⟩, ⟨false, .by [p, (m : Int)] 522 g⟩, ⟨false, .by [0, 0] 522 fun _ => 0⟩]), m, ⟨(), rfl, ⟨rfl, rfl, rfl, rfl, rfl, rfl, rfl, trivial⟩⟩, ?_⟩
              rintro i2 _ G2 hi2 rfl
              refine ⟨_, _, rfl, rfl, ?_⟩
              refine ⟨fun h61 => ?_, fun h61 => ?_⟩
              · replace h61 := of_decide_eq_true h61
                refine ⟨((n + i0 : Nat) : Int), addN (by omega), ?_⟩
                refine ⟨((n + i1 : Nat) : Int), addN (by omega), ?_⟩
                refine ⟨((n + i2 : Nat) : Int), addN (by omega), ?_⟩
                refine ⟨i0, _, rfl, by omega, rfl, ?_⟩
                refine ⟨i1, _, rfl, by omega, rfl, ?_⟩
                refine ⟨i2, _, rfl, by omega, rfl, ?_⟩
                refine ⟨_, _, rfl, cat_bq (10 + i0 * 64 + i1 * 8 + i2) (by omega) (by simp <;> omega) (by omega), ?_⟩
                refine ⟨n + i0, _, rfl, by omega, rfl, ?_⟩
                refine ⟨n + i1, _, rfl, by omega, rfl, ?_⟩
                refine ⟨n + i2, _, rfl, by omega, rfl, ?_⟩
                refine ⟨_, _, _, rfl, cput_u (by simp <;> omega) (by omega), eqBk_rfl, ?_⟩
                refine ⟨((i2 + 1 : Nat) : Int), w64_id _ (by omega) (by omega), ?_⟩
                refine ⟨by omega, (), ?_, ⟨rfl, rfl, rfl, rfl, rfl, rfl, rfl, trivial⟩⟩
                dsimp only
                rw [← pfx_m (by omega) (by omega) (by omega) (by omega) (by omega), show 0 + 10 + (n + i0) * 64 + (n + i1) * 8 + (n + i2) * 1 = 10 + (n + i0) * 64 + (n + i1) * 8 + (n + i2) by omega]; rfl
              · replace h61 := of_decide_eq_false h61
                have e2 : m = i2 := by omega
                subst e2
                refine ⟨((i1 + 1 : Nat) : Int), w64_id _ (by omega) (by omega), ?_⟩
                refine ⟨by omega, (), ?_, ⟨rfl, rfl, rfl, rfl, rfl, rfl, trivial⟩⟩
                dsimp only
                rw [← pfx_j]
            · replace h55 := of_decide_eq_false h55
              have e1 : m = i1 := by omega
              subst e1
              refine ⟨((i0 + 1 : Nat) : Int), w64_id _ (by omega) (by omega), ?_⟩
              refine ⟨by omega, (), ?_, ⟨rfl, rfl, rfl, rfl, rfl, trivial⟩⟩
              dsimp only
              rw [← pfx_i]
          · replace h40 := of_decide_eq_false h40
            have e0 : m = i0 := by omega
            subst e0
            refine ⟨_, _, rfl, rfl, ?_⟩
            refine ⟨((n + m : Nat) : Int), addN (by omega), ?_⟩
            refine ⟨_, _, .by [p, ((n + m : Nat) : Int)] 522 (pfx n m f g m m 0 0), rfl, cput_i (by simp) (by omega), eqBk_rfl, ?_⟩
            refine .inl ⟨_, _, _, _, rfl, ⟨rfl, by omega⟩, ?_⟩
            refine ⟨_, _, _, rfl, cputs_2, eqBk_rfl, ?_⟩
            first
              | exact ⟨rfl, false, _, 522, _, rfl, ⟨rfl, by omega⟩, (paV_n hc (by decide)).symm, Ext.nil⟩
              | (refine ⟨rfl, false, _, 522, _, rfl, ⟨rfl, by omega⟩, ?_, Ext.nil⟩
                 show _ = paV _ _ _ _ _ _
                 unfold paV paF
                 rw [hc, if_pos rfl, if_pos rfl, if_pos rfl]
                 rfl)

theorem s_l01Cyclic_ok (B : Bs P ρ) (E : F_s_l01Cyclic P ρ) {H : List Blk} {p : Int} {n : Nat} (hn : 1 ≤ n) (hn8 : n ≤ 8) :
    CallR P ρ 196 [.i .i64 p, .i .i64 (n : Int)] H (fun u G => (∃ f : By, u = .one (.ag [p, (n : Int)] 522 f)) ∧ Ext H G) := by
  refine call_of_q B.fn B.mo E rfl (fun hAr hHp => ?_) (by simp [At.lt])
  refine ⟨_, rfl, ?_⟩
  refine ⟨H.length + 1, by simp, ?_⟩
  refine ⟨_, _, _, get_new1, cputs_2, eqBk_rfl, ?_⟩
  rw [app_set1]
  refine ⟨0, _, rfl, by omega, rfl, ?_⟩
  refine ⟨_, _, _, get_new1, cput_u (by simp) (by omega), eqBk_rfl, ?_⟩
  rw [app_set1]
  refine ⟨Unit, (fun a1 a4 a5 (i0 : Nat) (x0 : Unit) => [(1, a1), (4, a4), (5, a5), (6, .one (.i .i64 ((i0 : Nat) : Int)))]) _ _ _ , fun (i0 : Nat) (x0 : Unit) (G0 : List Blk) => (∃ f : By, G0 = H ++ [⟨false, (Zk.by 2 522).bk⟩] ++ [⟨false, .by [p, (n : Int)] 522 f⟩]), n, ⟨(), ⟨_, rfl⟩, ⟨rfl, rfl, rfl, rfl, trivial⟩⟩, ?_⟩
  rintro i0 _ G0 hi0 ⟨f, rfl⟩
  refine ⟨fun h15 => ?_, fun h15 => ?_⟩
  · replace h15 := of_decide_eq_true h15
    refine ⟨Unit, (fun a1 a4 a5 a6 (i1 : Nat) (x1 : Unit) => [(1, a1), (4, a4), (5, a5), (6, a6), (7, .one (.i .i64 ((i1 : Nat) : Int)))]) _ _ _ _ , fun (i1 : Nat) (x1 : Unit) (G1 : List Blk) => (∃ f : By, G1 = H ++ [⟨false, (Zk.by 2 522).bk⟩] ++ [⟨false, .by [p, (n : Int)] 522 f⟩]), n, ⟨(), ⟨_, rfl⟩, ⟨rfl, rfl, rfl, rfl, rfl, trivial⟩⟩, ?_⟩
    rintro i1 _ G1 hi1 ⟨f1, rfl⟩
    refine ⟨fun h20 => ?_, fun h20 => ?_⟩
    · replace h20 := of_decide_eq_true h20
      refine ⟨((i0 + i1 : Nat) : Int), addN (by omega), ?_⟩
      refine ⟨by omega, (((i0 + i1) % n : Nat) : Int), tmodN, ?_⟩
      have hmod := Nat.mod_lt (i0 + i1) (show 0 < n by omega)
      refine ⟨i0, _, rfl, by omega, rfl, ?_⟩
      refine ⟨i1, _, rfl, by omega, rfl, ?_⟩
      refine ⟨(i0 + i1) % n, _, rfl, by omega, rfl, ?_⟩
      refine ⟨_, _, _, get_new1, cput_u (by simp <;> omega) (by omega), eqBk_rfl, ?_⟩
      refine ⟨((i1 + 1 : Nat) : Int), w64_id _ (by omega) (by omega), ?_⟩
      exact ⟨by omega, (), ⟨_, app_set1⟩, ⟨rfl, rfl, rfl, rfl, rfl, trivial⟩⟩
    · replace h20 := of_decide_eq_false h20
      have e1 : n = i1 := by omega
      subst e1
      refine ⟨((i0 + 1 : Nat) : Int), w64_id _ (by omega) (by omega), ?_⟩
      exact ⟨by omega, (), ⟨_, rfl⟩, ⟨rfl, rfl, rfl, rfl, trivial⟩⟩
  · replace h15 := of_decide_eq_false h15
    have e0 : n = i0 := by omega
    subst e0
    refine .inl ⟨_, _, _, _, get_new1, ⟨rfl, by omega⟩, ?_⟩
    refine ⟨_, _, _, app_old get_new, cputs_2, eqBk_rfl, ?_⟩
    exact ⟨rfl, false, _, 522, _, set_same (app_old get_new), ⟨rfl, by omega⟩, ⟨_, rfl⟩, (Ext.app.trans Ext.app).set (Nat.le_refl _)⟩

theorem s_l01Powers_ok (B : Bs P ρ) (E : F_s_l01Powers P ρ) {H : List Blk} {p k : Int} {n to : Nat} (hp : 1 ≤ p) (hp2 : p ≤ 31) (hk : 0 ≤ k) (hk2 : k ≤ 31) (hn : 1 ≤ n) (hn8 : n ≤ 8) (hto : to < n) :
    CallR P ρ 208 [.i .i64 p, .i .i64 (n : Int), .i .i64 k, .i .i64 (to : Int)] H (fun u G => (∃ f : By, u = .one (.ag [p, (n : Int)] 522 f)) ∧ Ext H G) := by
  refine call_of_q B.fn B.mo E rfl (fun hAr hHp => ?_) (by simp [At.lt])
  refine ⟨_, rfl, ?_⟩
  refine ⟨H.length + 1, by simp, ?_⟩
  refine ⟨_, _, _, get_new1, cputs_2, eqBk_rfl, ?_⟩
  rw [app_set1]
  refine ⟨0, _, rfl, by omega, rfl, ?_⟩
  refine ⟨_, _, _, get_new1, cput_u (by simp) (by omega), eqBk_rfl, ?_⟩
  rw [app_set1]
  refine ⟨Unit, (fun a0 a1 a2 a3 a8 a9 (i0 : Nat) (x0 : Unit) => [(0, a0), (1, a1), (2, a2), (3, a3), (8, a8), (9, a9), (10, .one (.i .i64 ((i0 : Nat) : Int)))]) _ _ _ _ _ _ , fun (i0 : Nat) (x0 : Unit) (G0 : List Blk) => (∃ f : By, G0 = H ++ [⟨false, (Zk.by 2 522).bk⟩] ++ [⟨false, .by [p, (n : Int)] 522 f⟩]), n, ⟨(), ⟨_, rfl⟩, ⟨rfl, rfl, rfl, rfl, rfl, rfl, rfl, trivial⟩⟩, ?_⟩
  rintro i0 _ G0 hi0 ⟨f, rfl⟩
  refine ⟨fun h21 => ?_, fun h21 => ?_⟩
  · replace h21 := of_decide_eq_true h21
    refine ⟨Unit, (fun a0 a1 a2 a3 a8 a9 a10 (i1 : Nat) (x1 : Unit) => [(0, a0), (1, a1), (2, a2), (3, a3), (8, a8), (9, a9), (10, a10), (11, .one (.i .i64 ((i1 : Nat) : Int)))]) _ _ _ _ _ _ _ , fun (i1 : Nat) (x1 : Unit) (G1 : List Blk) => (∃ f : By, G1 = H ++ [⟨false, (Zk.by 2 522).bk⟩] ++ [⟨false, .by [p, (n : Int)] 522 f⟩]), n, ⟨(), ⟨_, rfl⟩, ⟨rfl, rfl, rfl, rfl, rfl, rfl, rfl, rfl, trivial⟩⟩, ?_⟩
    rintro i1 _ G1 hi1 ⟨f1, rfl⟩
    refine ⟨fun h26 => ?_, fun h26 => ?_⟩
    · replace h26 := of_decide_eq_true h26
      refine ⟨((i0 + i1 : Nat) : Int), addN (by omega), ?_⟩
      refine ⟨Nat × Int, (fun a0 a1 a2 a3 a8 a9 a10 a11 (i2 : Nat) (x2 : Nat × Int) => match x2 with | ⟨t, fa⟩ => [(0, a0), (1, a1), (2, a2), (3, a3), (8, a8), (9, a9), (10, a10), (11, a11), (12, .one (.i .i64 ((t : Nat) : Int))), (13, .one (.i .i64 fa))]) _ _ _ _ _ _ _ _ , fun (i2 : Nat) (x2 : Nat × Int) (G2 : List Blk) => match x2 with | ⟨t, fa⟩ => ((t + i2 + 2 ≤ 2 * n ∧ 0 ≤ fa ∧ fa ≤ 31) ∧ G2 = H ++ [⟨false, (Zk.by 2 522).bk⟩] ++ [⟨false, .by [p, (n : Int)] 522 f1⟩]), 2 * n, ⟨(i0 + i1, 1), ⟨⟨by omega, by omega, by omega⟩, rfl⟩, ⟨rfl, rfl, rfl, rfl, rfl, rfl, rfl, rfl, rfl, rfl, trivial⟩⟩, ?_⟩
      rintro i2 ⟨t, fa⟩ G2 hi2 ⟨⟨ht, hfa, hfa2⟩, rfl⟩
      refine ⟨fun h34 => ?_, fun h34 => ?_⟩
      · replace h34 := of_decide_eq_true h34
        refine ⟨((t - n : Nat) : Int), by rw [show ((t : Int) - (n : Int)) = ((t - n : Nat) : Int) by omega]; exact w64_id _ (by omega) (by omega), ?_⟩
        refine ⟨((t - n + to : Nat) : Int), addN (by omega), ?_⟩
        have hmb := mul_bd2 (a := fa) (b := k) (c := 31) (d := 31) hfa hfa2 hk hk2
        refine ⟨_, w64_id _ (by omega) (by omega), ?_⟩
        refine ⟨by omega, _, rfl, ?_⟩
        have htm := tmod_bd (x := fa * k) (n := p) hmb.1 (by omega)
        exact ⟨by omega, (t - n + to, (fa * k).tmod p), ⟨⟨by omega, htm.1, by omega⟩, rfl⟩, ⟨rfl, rfl, rfl, rfl, rfl, rfl, rfl, rfl, rfl, rfl, trivial⟩⟩
      · replace h34 := of_decide_eq_false h34
        refine ⟨i0, _, rfl, by omega, rfl, ?_⟩
        refine ⟨i1, _, rfl, by omega, rfl, ?_⟩
        refine ⟨t, _, rfl, by omega, rfl, ?_⟩
        refine ⟨_, _, _, get_new1, cput_u (by simp <;> omega) (by omega), eqBk_rfl, ?_⟩
        refine ⟨((i1 + 1 : Nat) : Int), w64_id _ (by omega) (by omega), ?_⟩
        exact ⟨by omega, (), ⟨_, app_set1⟩, ⟨rfl, rfl, rfl, rfl, rfl, rfl, rfl, rfl, trivial⟩⟩
    · replace h26 := of_decide_eq_false h26
      have e1 : n = i1 := by omega
      subst e1
      refine ⟨((i0 + 1 : Nat) : Int), w64_id _ (by omega) (by omega), ?_⟩
      exact ⟨by omega, (), ⟨_, rfl⟩, ⟨rfl, rfl, rfl, rfl, rfl, rfl, rfl, trivial⟩⟩
  · replace h21 := of_decide_eq_false h21
    have e0 : n = i0 := by omega
    subst e0
    refine .inl ⟨_, _, _, _, get_new1, ⟨rfl, by omega⟩, ?_⟩
    refine ⟨_, _, _, app_old get_new, cputs_2, eqBk_rfl, ?_⟩
    exact ⟨rfl, false, _, 522, _, set_same (app_old get_new), ⟨rfl, by omega⟩, ⟨_, rfl⟩, (Ext.app.trans Ext.app).set (Nat.le_refl _)⟩

theorem s_l01Matrices_ok (B : Bs P ρ) (E : F_s_l01Matrices P ρ) {H : List Blk} {p : Int} :
    CallR P ρ 197 [.i .i64 p] H (fun u G => (∃ f : By, u = .one (.ag [p, 4] 522 f)) ∧ Ext H G) := by
  refine call_of_q B.fn B.mo E rfl (fun hAr hHp => ?_) (by simp [At.lt])
  refine ⟨_, rfl, ?_⟩
  refine ⟨H.length + 1, by simp, ?_⟩
  refine ⟨_, _, _, get_new1, cputs_2, eqBk_rfl, ?_⟩
  rw [app_set1]
  refine ⟨0, _, rfl, by omega, rfl, ?_⟩
  refine ⟨_, _, _, get_new1, cput_u (by simp) (by omega), eqBk_rfl, ?_⟩
  rw [app_set1]
  refine ⟨3, _, rfl, by omega, rfl, ?_⟩
  refine ⟨_, _, _, get_new1, cput_u (by simp) (by omega), eqBk_rfl, ?_⟩
  rw [app_set1]
  refine ⟨Unit, (fun a2 a3 (i0 : Nat) (x0 : Unit) => [(2, a2), (3, a3), (4, .one (.i .i64 ((i0 : Nat) : Int)))]) _ _ , fun (i0 : Nat) (x0 : Unit) (G0 : List Blk) => (∃ f : By, G0 = H ++ [⟨false, (Zk.by 2 522).bk⟩] ++ [⟨false, .by [p, 4] 522 f⟩]), 2, ⟨(), ⟨_, rfl⟩, ⟨rfl, rfl, rfl, trivial⟩⟩, ?_⟩
  rintro i0 _ G0 hi0 ⟨f, rfl⟩
  refine ⟨fun h14 => ?_, fun h14 => ?_⟩
  · replace h14 := of_decide_eq_true h14
    refine ⟨Unit, (fun a2 a3 a4 (i1 : Nat) (x1 : Unit) => [(2, a2), (3, a3), (4, a4), (5, .one (.i .i64 ((i1 : Nat) : Int)))]) _ _ _ , fun (i1 : Nat) (x1 : Unit) (G1 : List Blk) => (∃ f : By, G1 = H ++ [⟨false, (Zk.by 2 522).bk⟩] ++ [⟨false, .by [p, 4] 522 f⟩]), 2, ⟨(), ⟨_, rfl⟩, ⟨rfl, rfl, rfl, rfl, trivial⟩⟩, ?_⟩
    rintro i1 _ G1 hi1 ⟨f1, rfl⟩
    refine ⟨fun h18 => ?_, fun h18 => ?_⟩
    · replace h18 := of_decide_eq_true h18
      refine ⟨Unit, (fun a2 a3 a4 a5 (i2 : Nat) (x2 : Unit) => [(2, a2), (3, a3), (4, a4), (5, a5), (6, .one (.i .i64 ((i2 : Nat) : Int)))]) _ _ _ _ , fun (i2 : Nat) (x2 : Unit) (G2 : List Blk) => (∃ f : By, G2 = H ++ [⟨false, (Zk.by 2 522).bk⟩] ++ [⟨false, .by [p, 4] 522 f⟩]), 2, ⟨(), ⟨_, rfl⟩, ⟨rfl, rfl, rfl, rfl, rfl, trivial⟩⟩, ?_⟩
      rintro i2 _ G2 hi2 ⟨f2, rfl⟩
      refine ⟨fun h22 => ?_, fun h22 => ?_⟩
      · replace h22 := of_decide_eq_true h22
        refine ⟨((2 * i0 : Nat) : Int), (w64_id _ (by omega) (by omega)).trans (by omega), ?_⟩
        refine ⟨((2 * i0 + i1 : Nat) : Int), addN (by omega), ?_⟩
        refine ⟨((2 * i1 : Nat) : Int), (w64_id _ (by omega) (by omega)).trans (by omega), ?_⟩
        refine ⟨((2 * i1 + i2 : Nat) : Int), addN (by omega), ?_⟩
        refine ⟨((2 * i0 : Nat) : Int), (w64_id _ (by omega) (by omega)).trans (by omega), ?_⟩
        refine ⟨((2 * i0 + i2 : Nat) : Int), addN (by omega), ?_⟩
        refine ⟨2 * i0 + i1, _, rfl, by omega, rfl, ?_⟩
        refine ⟨2 * i1 + i2, _, rfl, by omega, rfl, ?_⟩
        refine ⟨2 * i0 + i2, _, rfl, by omega, rfl, ?_⟩
        refine ⟨_, _, _, get_new1, cput_u (by simp <;> omega) (by omega), eqBk_rfl, ?_⟩
        refine ⟨((i2 + 1 : Nat) : Int), w64_id _ (by omega) (by omega), ?_⟩
        exact ⟨by omega, (), ⟨_, app_set1⟩, ⟨rfl, rfl, rfl, rfl, rfl, trivial⟩⟩
      · replace h22 := of_decide_eq_false h22
        have e2 : 2 = i2 := by omega
        subst e2
        refine ⟨((i1 + 1 : Nat) : Int), w64_id _ (by omega) (by omega), ?_⟩
        exact ⟨by omega, (), ⟨_, rfl⟩, ⟨rfl, rfl, rfl, rfl, trivial⟩⟩
    · replace h18 := of_decide_eq_false h18
      have e1 : 2 = i1 := by omega
      subst e1
      refine ⟨((i0 + 1 : Nat) : Int), w64_id _ (by omega) (by omega), ?_⟩
      exact ⟨by omega, (), ⟨_, rfl⟩, ⟨rfl, rfl, rfl, trivial⟩⟩
  · replace h14 := of_decide_eq_false h14
    have e0 : 2 = i0 := by omega
    subst e0
    refine .inl ⟨_, _, _, _, get_new1, ⟨rfl, by omega⟩, ?_⟩
    refine ⟨_, _, _, app_old get_new, cputs_2, eqBk_rfl, ?_⟩
    exact ⟨rfl, false, _, 522, _, set_same (app_old get_new), ⟨rfl, by omega⟩, ⟨_, rfl⟩, (Ext.app.trans Ext.app).set (Nat.le_refl _)⟩

end Hf
namespace Hf
open Go Classical
variable {P : Program} {ρ : Nat → FuncId}
/-- what a draw leaves: a value of an algebra's kind, the source further on -/
def DrA (H : List Blk) (s : Nat) (u : Sv) (G : List Blk) : Prop := ∃ (p q : Int) (f : By), u = .one (.ag [p, q] 522 f) ∧ Fr [s] H G ∧ Src G s
set_option maxHeartbeats 2000000 in
theorem s_l01Draw_ok (B : Bs P ρ) (E : F_s_l01Draw P ρ) {H : List Blk} {s : Nat} (hS : Src H s) :
    CallR P ρ 203 [.pt s 0] H (DrA H s) := by
  have hsl := hS.lt
  refine call_of_q B.fn B.mo E.1 rfl (fun hAr hHp => ?_) (by simp [At.lt, hS.lt])
  refine ⟨_, rfl, ?_⟩
  refine ⟨_, s_l01DrawPrime_ok B E.2.1 (hS.ext Ext.app), ?_⟩
  rintro _ G10 ⟨p, hp, rfl, hf10, hS10⟩
  have hF10 : Fr [s] H G10 := (Ext.app.fr).trans hf10
  have hm10 := hf10.get get_new (by omega)
  refine ⟨_, s_l01Next_ok B E.2.2.1 hS10, ?_⟩
  rintro _ G12 ⟨z12, rfl, hz12, hf12, hS12⟩
  have hF12 := hF10.trans hf12
  have hm12 := hf12.get hm10 (by omega)
  refine ⟨fun h13 => ?_, fun h13 => ?_⟩
  · replace h13 := eq_of_beq h13
    refine ⟨_, s_l01Next_ok B E.2.2.1 hS12, ?_⟩
    rintro _ G17 ⟨z17, rfl, hz17, hf17, hS17⟩
    obtain ⟨x17, rfl⟩ : ∃ x : Nat, z17 = (x : Int) := ⟨z17.toNat, by have := hz17.1; omega⟩
    have hb17 := hz17.2.2 (by omega)
    refine ⟨((1 + x17 : Nat) : Int), (w64_id _ (by omega) (by omega)).trans (by omega), ?_⟩
    refine ⟨_, s_l01Cyclic_ok B E.2.2.2.1 (p := p) (n := 1 + x17) (by omega) (by omega), ?_⟩
    rintro _ G19 ⟨⟨f19, rfl⟩, hE19⟩
    have hmE := hE19 _ _ (hf17.get hm12 (by omega))
    have hFE := (hF12.trans hf17).trans hE19.fr
    have hSE := hS17.ext hE19
    refine ⟨_, _, _, hmE, cputs_2, eqBk_rfl, ?_⟩
    first
      | exact ⟨rfl, false, _, 522, _, set_same hmE, ⟨rfl, by omega⟩, ⟨_, _, _, rfl, hFE.set (Nat.le_refl _), hSE.set hmE rfl (by omega)⟩⟩
      | exact ⟨rfl, false, _, 522, _, set_same (hA _).1, ⟨rfl, by omega⟩, ⟨_, _, _, rfl, (hA _).2.1.set (Nat.le_refl _), (hA _).2.2.set (hA _).1 rfl (by omega)⟩⟩
  · replace h13 := ne_of_beq_false h13
    refine ⟨fun h20 => ?_, fun h20 => ?_⟩
    · replace h20 := eq_of_beq h20
      refine ⟨_, s_l01Next_ok B E.2.2.1 hS12, ?_⟩
      rintro _ G23 ⟨z23, rfl, hz23, hf23, hS23⟩
      obtain ⟨x23, rfl⟩ : ∃ x : Nat, z23 = (x : Int) := ⟨z23.toNat, by have := hz23.1; omega⟩
      have hb23 := hz23.2.2 (by omega)
      refine ⟨((1 + x23 : Nat) : Int), (w64_id _ (by omega) (by omega)).trans (by omega), ?_⟩
      refine ⟨_, s_l01Next_ok B E.2.2.1 hS23, ?_⟩
      rintro _ G29 ⟨z29, rfl, hz29, hf29, hS29⟩
      refine ⟨_, s_l01Next_ok B E.2.2.1 hS29, ?_⟩
      rintro _ G32 ⟨z32, rfl, hz32, hf32, hS32⟩
      obtain ⟨x32, rfl⟩ : ∃ x : Nat, z32 = (x : Int) := ⟨z32.toNat, by have := hz32.1; omega⟩
      have hb32 := hz32.2.2 (by omega)
      have hb29 := hz29.2.2 (by omega)
      refine ⟨_, s_l01Powers_ok B E.2.2.2.2.1 (p := p) (k := z29) (n := 1 + x23) (to := x32) (by omega) (by omega) hz29.1 (by omega) (by omega) (by omega) (by omega), ?_⟩
      rintro _ G33 ⟨⟨f33, rfl⟩, hE33⟩
      have hmE := hE33 _ _ (hf32.get (hf29.get (hf23.get hm12 (by omega)) (by omega)) (by omega))
      have hFE := (((hF12.trans hf23).trans hf29).trans hf32).trans hE33.fr
      have hSE := hS32.ext hE33
      refine ⟨_, _, _, hmE, cputs_2, eqBk_rfl, ?_⟩
      first
        | exact ⟨rfl, false, _, 522, _, set_same hmE, ⟨rfl, by omega⟩, ⟨_, _, _, rfl, hFE.set (Nat.le_refl _), hSE.set hmE rfl (by omega)⟩⟩
        | exact ⟨rfl, false, _, 522, _, set_same (hA _).1, ⟨rfl, by omega⟩, ⟨_, _, _, rfl, (hA _).2.1.set (Nat.le_refl _), (hA _).2.2.set (hA _).1 rfl (by omega)⟩⟩
    · replace h20 := ne_of_beq_false h20
      refine ⟨fun h34 => ?_, fun h34 => ?_⟩
      · replace h34 := eq_of_beq h34
        refine ⟨_, s_l01Matrices_ok B E.2.2.2.2.2.1 (p := p), ?_⟩
        rintro _ G37 ⟨⟨f37, rfl⟩, hE37⟩
        have hmE := hE37 _ _ hm12
        have hFE := hF12.trans hE37.fr
        have hSE := hS12.ext hE37
        refine ⟨_, _, _, hmE, cputs_2, eqBk_rfl, ?_⟩
        first
          | exact ⟨rfl, false, _, 522, _, set_same hmE, ⟨rfl, by omega⟩, ⟨_, _, _, rfl, hFE.set (Nat.le_refl _), hSE.set hmE rfl (by omega)⟩⟩
          | exact ⟨rfl, false, _, 522, _, set_same (hA _).1, ⟨rfl, by omega⟩, ⟨_, _, _, rfl, (hA _).2.1.set (Nat.le_refl _), (hA _).2.2.set (hA _).1 rfl (by omega)⟩⟩
      · replace h34 := ne_of_beq_false h34
        refine ⟨fun h38 => ?_, fun h38 => ?_⟩
        · replace h38 := eq_of_beq h38
          refine ⟨_, s_l01Next_ok B E.2.2.1 hS12, ?_⟩
          rintro _ G43 ⟨z43, rfl, hz43, hf43, hS43⟩
          obtain ⟨x43, rfl⟩ : ∃ x : Nat, z43 = (x : Int) := ⟨z43.toNat, by have := hz43.1; omega⟩
          have hb43 := hz43.2.2 (by omega)
          refine ⟨((1 + x43 : Nat) : Int), (w64_id _ (by omega) (by omega)).trans (by omega), ?_⟩
          refine ⟨_, s_l01Cyclic_ok B E.2.2.2.1 (p := p) (n := 1 + x43) (by omega) (by omega), ?_⟩
          rintro _ G45 ⟨⟨f45, rfl⟩, hE45⟩
          refine ⟨_, s_l01Matrices_ok B E.2.2.2.2.2.1 (p := p), ?_⟩
          rintro _ G47 ⟨⟨f47, rfl⟩, hE47⟩
          refine ⟨_, s_ProductAlgebra_ok B E.2.2.2.2.2.2 (p := p) (n := ((1 + x43 : Nat) : Int)) (q := p) (m := 4) (f := f45) (g := f47), rfl, ?_⟩
          refine ⟨_, rfl, ?_⟩
          have hA : ∀ X : List Blk, (G47 ++ X)[H.length]? = some ⟨false, (Zk.by 2 522).bk⟩ ∧ Fr [s] H (G47 ++ X) ∧ Src (G47 ++ X) s := fun X =>
            ⟨app_old (hE47 _ _ (hE45 _ _ (hf43.get hm12 (by omega)))), (((hF12.trans hf43).trans hE45.fr).trans hE47.fr).trans Ext.app.fr, ((hS43.ext hE45).ext hE47).ext Ext.app⟩
          refine ⟨_, _, _, get_new, cputs_2, eqBk_rfl, ?_⟩
          rw [app_set0]
          refine ⟨fun h52 => ?_, fun h52 => ?_⟩
          · replace h52 := eq_of_beq h52
            refine .inl ⟨_, _, _, _, get_new, ⟨rfl, by omega⟩, ?_⟩
            refine ⟨_, _, _, (hA _).1, cputs_2, eqBk_rfl, ?_⟩
            first
              | exact ⟨rfl, false, _, 522, _, set_same hmE, ⟨rfl, by omega⟩, ⟨_, _, _, rfl, hFE.set (Nat.le_refl _), hSE.set hmE rfl (by omega)⟩⟩
              | exact ⟨rfl, false, _, 522, _, set_same (hA _).1, ⟨rfl, by omega⟩, ⟨_, _, _, rfl, (hA _).2.1.set (Nat.le_refl _), (hA _).2.2.set (hA _).1 rfl (by omega)⟩⟩
          · replace h52 := ne_of_beq_false h52
            refine ⟨_, s_l01Next_ok B E.2.2.1 (hA _).2.2, ?_⟩
            rintro _ G78 ⟨z78, rfl, hz78, hf78, hS78⟩
            have hm78 := hf78.get (hA _).1 (by omega)
            have hF78 := (hA _).2.1.trans hf78
            obtain ⟨x78, rfl⟩ : ∃ x : Nat, z78 = (x : Int) := ⟨z78.toNat, by have := hz78.1; omega⟩
            have hb78 := hz78.2.2 (by omega)
            refine ⟨((1 + x78 : Nat) : Int), (w64_id _ (by omega) (by omega)).trans (by omega), ?_⟩
            refine ⟨_, s_l01Powers_ok B E.2.2.2.2.1 (p := p) (k := 0) (n := 1 + x78) (to := 0) (by omega) (by omega) (by omega) (by omega) (by omega) (by omega) (by omega), ?_⟩
            rintro _ G80 ⟨⟨f80, rfl⟩, hE80⟩
            have hmE := hE80 _ _ hm78
            have hFE := hF78.trans hE80.fr
            have hSE := hS78.ext hE80
            refine ⟨_, _, _, hmE, cputs_2, eqBk_rfl, ?_⟩
            first
              | exact ⟨rfl, false, _, 522, _, set_same hmE, ⟨rfl, by omega⟩, ⟨_, _, _, rfl, hFE.set (Nat.le_refl _), hSE.set hmE rfl (by omega)⟩⟩
              | exact ⟨rfl, false, _, 522, _, set_same (hA _).1, ⟨rfl, by omega⟩, ⟨_, _, _, rfl, (hA _).2.1.set (Nat.le_refl _), (hA _).2.2.set (hA _).1 rfl (by omega)⟩⟩
        · replace h38 := ne_of_beq_false h38
          refine ⟨fun h54 => ?_, fun h54 => ?_⟩
          · replace h54 := eq_of_beq h54
            refine ⟨_, s_l01Next_ok B E.2.2.1 hS12, ?_⟩
            rintro _ G59 ⟨z59, rfl, hz59, hf59, hS59⟩
            obtain ⟨x59, rfl⟩ : ∃ x : Nat, z59 = (x : Int) := ⟨z59.toNat, by have := hz59.1; omega⟩
            have hb59 := hz59.2.2 (by omega)
            refine ⟨((1 + x59 : Nat) : Int), (w64_id _ (by omega) (by omega)).trans (by omega), ?_⟩
            refine ⟨_, s_l01Powers_ok B E.2.2.2.2.1 (p := p) (k := 0) (n := 1 + x59) (to := 0) (by omega) (by omega) (by omega) (by omega) (by omega) (by omega) (by omega), ?_⟩
            rintro _ G61 ⟨⟨f61, rfl⟩, hE61⟩
            refine ⟨_, s_l01Next_ok B E.2.2.1 (hS59.ext hE61), ?_⟩
            rintro _ G64 ⟨z64, rfl, hz64, hf64, hS64⟩
            obtain ⟨x64, rfl⟩ : ∃ x : Nat, z64 = (x : Int) := ⟨z64.toNat, by have := hz64.1; omega⟩
            have hb64 := hz64.2.2 (by omega)
            refine ⟨((1 + x64 : Nat) : Int), (w64_id _ (by omega) (by omega)).trans (by omega), ?_⟩
            refine ⟨_, s_l01Next_ok B E.2.2.1 hS64, ?_⟩
            rintro _ G68 ⟨z68, rfl, hz68, hf68, hS68⟩
            have hb68 := hz68.2.2 (by omega)
            refine ⟨_, s_l01Powers_ok B E.2.2.2.2.1 (p := p) (k := z68) (n := 1 + x64) (to := 0) (by omega) (by omega) hz68.1 (by omega) (by omega) (by omega) (by omega), ?_⟩
            rintro _ G69 ⟨⟨f69, rfl⟩, hE69⟩
            refine ⟨_, s_ProductAlgebra_ok B E.2.2.2.2.2.2 (p := p) (n := ((1 + x59 : Nat) : Int)) (q := p) (m := ((1 + x64 : Nat) : Int)) (f := f61) (g := f69), rfl, ?_⟩
            refine ⟨_, rfl, ?_⟩
            have hA : ∀ X : List Blk, (G69 ++ X)[H.length]? = some ⟨false, (Zk.by 2 522).bk⟩ ∧ Fr [s] H (G69 ++ X) ∧ Src (G69 ++ X) s := fun X =>
              ⟨app_old (hE69 _ _ (hf68.get (hf64.get (hE61 _ _ (hf59.get hm12 (by omega))) (by omega)) (by omega))), (((((hF12.trans hf59).trans hE61.fr).trans hf64).trans hf68).trans hE69.fr).trans Ext.app.fr, (hS68.ext hE69).ext Ext.app⟩
            refine ⟨_, _, _, get_new, cputs_2, eqBk_rfl, ?_⟩
            rw [app_set0]
            refine ⟨fun h74 => ?_, fun h74 => ?_⟩
            · replace h74 := eq_of_beq h74
              refine .inl ⟨_, _, _, _, get_new, ⟨rfl, by omega⟩, ?_⟩
              refine ⟨_, _, _, (hA _).1, cputs_2, eqBk_rfl, ?_⟩
              first
                | exact ⟨rfl, false, _, 522, _, set_same hmE, ⟨rfl, by omega⟩, ⟨_, _, _, rfl, hFE.set (Nat.le_refl _), hSE.set hmE rfl (by omega)⟩⟩
                | exact ⟨rfl, false, _, 522, _, set_same (hA _).1, ⟨rfl, by omega⟩, ⟨_, _, _, rfl, (hA _).2.1.set (Nat.le_refl _), (hA _).2.2.set (hA _).1 rfl (by omega)⟩⟩
            · replace h74 := ne_of_beq_false h74
              refine ⟨_, s_l01Next_ok B E.2.2.1 (hA _).2.2, ?_⟩
              rintro _ G78 ⟨z78, rfl, hz78, hf78, hS78⟩
              have hm78 := hf78.get (hA _).1 (by omega)
              have hF78 := (hA _).2.1.trans hf78
              obtain ⟨x78, rfl⟩ : ∃ x : Nat, z78 = (x : Int) := ⟨z78.toNat, by have := hz78.1; omega⟩
              have hb78 := hz78.2.2 (by omega)
              refine ⟨((1 + x78 : Nat) : Int), (w64_id _ (by omega) (by omega)).trans (by omega), ?_⟩
              refine ⟨_, s_l01Powers_ok B E.2.2.2.2.1 (p := p) (k := 0) (n := 1 + x78) (to := 0) (by omega) (by omega) (by omega) (by omega) (by omega) (by omega) (by omega), ?_⟩
              rintro _ G80 ⟨⟨f80, rfl⟩, hE80⟩
              have hmE := hE80 _ _ hm78
              have hFE := hF78.trans hE80.fr
              have hSE := hS78.ext hE80
              refine ⟨_, _, _, hmE, cputs_2, eqBk_rfl, ?_⟩
              first
                | exact ⟨rfl, false, _, 522, _, set_same hmE, ⟨rfl, by omega⟩, ⟨_, _, _, rfl, hFE.set (Nat.le_refl _), hSE.set hmE rfl (by omega)⟩⟩
                | exact ⟨rfl, false, _, 522, _, set_same (hA _).1, ⟨rfl, by omega⟩, ⟨_, _, _, rfl, (hA _).2.1.set (Nat.le_refl _), (hA _).2.2.set (hA _).1 rfl (by omega)⟩⟩
          · replace h54 := ne_of_beq_false h54
            refine ⟨_, s_l01Next_ok B E.2.2.1 hS12, ?_⟩
            rintro _ G78 ⟨z78, rfl, hz78, hf78, hS78⟩
            have hm78 := hf78.get hm12 (by omega)
            have hF78 := hF12.trans hf78
            obtain ⟨x78, rfl⟩ : ∃ x : Nat, z78 = (x : Int) := ⟨z78.toNat, by have := hz78.1; omega⟩
            have hb78 := hz78.2.2 (by omega)
            refine ⟨((1 + x78 : Nat) : Int), (w64_id _ (by omega) (by omega)).trans (by omega), ?_⟩
            refine ⟨_, s_l01Powers_ok B E.2.2.2.2.1 (p := p) (k := 0) (n := 1 + x78) (to := 0) (by omega) (by omega) (by omega) (by omega) (by omega) (by omega) (by omega), ?_⟩
            rintro _ G80 ⟨⟨f80, rfl⟩, hE80⟩
            have hmE := hE80 _ _ hm78
            have hFE := hF78.trans hE80.fr
            have hSE := hS78.ext hE80
            refine ⟨_, _, _, hmE, cputs_2, eqBk_rfl, ?_⟩
            first
              | exact ⟨rfl, false, _, 522, _, set_same hmE, ⟨rfl, by omega⟩, ⟨_, _, _, rfl, hFE.set (Nat.le_refl _), hSE.set hmE rfl (by omega)⟩⟩
              | exact ⟨rfl, false, _, 522, _, set_same (hA _).1, ⟨rfl, by omega⟩, ⟨_, _, _, rfl, (hA _).2.1.set (Nat.le_refl _), (hA _).2.2.set (hA _).1 rfl (by omega)⟩⟩

set_option maxHeartbeats 2000000 in
theorem s_l01Bad_ok (B : Bs P ρ) (E : F_s_l01Bad P ρ) {H : List Blk} {s : Nat} {p q : Int} {f : By} (hS : Src H s) :
    CallR P ρ 204 [.pt s 0, .ag [p, q] 522 f] H (DrA H s) := by
  have hsl := hS.lt
  refine call_of_q B.fn B.mo E.1 rfl (fun hAr hHp => ?_) (by simp [At.lt, hS.lt])
  refine ⟨_, rfl, ?_⟩
  refine ⟨H.length + 1, by simp, ?_⟩
  refine ⟨_, s_l01Next_ok B E.2.1 ((hS.ext Ext.app).ext Ext.app), ?_⟩
  rintro _ G6 ⟨z6, rfl, hz6, hf6, hS6⟩
  have hF6 : Fr [s] H G6 := (Ext.app.trans Ext.app).fr.trans hf6
  have hk6 := hf6.get (k := H.length) (app_old get_new) (by omega)
  have hm6 := hf6.get (k := H.length + 1) get_new1 (by omega)
  refine ⟨fun h7 => ?_, fun h7 => ?_⟩
  · replace h7 := eq_of_beq h7
    refine ⟨_, rfl, ?_⟩
    refine ⟨_, s_l01Pick_ok B E.2.2 (L := [0, 1, 4, 9, 37, -5]) (hS6.ext Ext.app) ⟨false, _, get_new, by simp, rfl⟩ (by simp [At.lt]) (by have := hS6.lt; simp [spB]; omega) (by simp), ?_⟩
    rintro _ G11 ⟨z11, hz11, rfl, hf11, hS11⟩
    have hk11 := hf11.get (k := H.length) (app_old hk6) (by omega)
    have hm11 := hf11.get (k := H.length + 1) (app_old hm6) (by omega)
    refine ⟨_, _, .by [z11, q] 522 f, hk11, cput_i (by simp) (by omega), eqBk_rfl, ?_⟩
    have hkE := set_same (B := ⟨false, .by [z11, q] 522 f⟩) hk11
    have hmE := set_other (B := ⟨false, .by [z11, q] 522 f⟩) hm11 (show H.length ≠ H.length + 1 by omega)
    have hFE := ((hF6.trans Ext.app.fr).trans hf11).set (B := ⟨false, .by [z11, q] 522 f⟩) (Nat.le_refl _)
    have hSE := hS11.set (B := ⟨false, .by [z11, q] 522 f⟩) hk11 rfl (by omega)
    refine .inl ⟨_, _, _, _, hkE, ⟨rfl, by omega⟩, ?_⟩
    refine ⟨_, _, _, hmE, cputs_2, eqBk_rfl, ?_⟩
    exact ⟨rfl, false, _, 522, _, set_same hmE, ⟨rfl, by omega⟩, ⟨_, _, _, rfl, hFE.set (Nat.le_succ _), hSE.set hmE rfl (by omega)⟩⟩
  · replace h7 := ne_of_beq_false h7
    refine ⟨fun h13 => ?_, fun h13 => ?_⟩
    · replace h13 := eq_of_beq h13
      refine ⟨_, _, hk6, rfl, ?_⟩
      refine ⟨_, rfl, ?_⟩
      refine ⟨_, rfl, ?_⟩
      refine ⟨_, s_l01Pick_ok B E.2.2 (L := [0, 9, -1, w64 (q - 1)]) (hS6.ext Ext.app) ⟨false, _, get_new, by simp, rfl⟩ (by simp [At.lt]) (by have := hS6.lt; simp [spB]; omega) (by simp), ?_⟩
      rintro _ G20 ⟨z20, hz20, rfl, hf20, hS20⟩
      have hk20 := hf20.get (k := H.length) (app_old hk6) (by omega)
      have hm20 := hf20.get (k := H.length + 1) (app_old hm6) (by omega)
      refine ⟨_, _, .by [p, z20] 522 f, hk20, cput_i (by simp) (by omega), eqBk_rfl, ?_⟩
      have hkE := set_same (B := ⟨false, .by [p, z20] 522 f⟩) hk20
      have hmE := set_other (B := ⟨false, .by [p, z20] 522 f⟩) hm20 (show H.length ≠ H.length + 1 by omega)
      have hFE := ((hF6.trans Ext.app.fr).trans hf20).set (B := ⟨false, .by [p, z20] 522 f⟩) (Nat.le_refl _)
      have hSE := hS20.set (B := ⟨false, .by [p, z20] 522 f⟩) hk20 rfl (by omega)
      refine .inl ⟨_, _, _, _, hkE, ⟨rfl, by omega⟩, ?_⟩
      refine ⟨_, _, _, hmE, cputs_2, eqBk_rfl, ?_⟩
      exact ⟨rfl, false, _, 522, _, set_same hmE, ⟨rfl, by omega⟩, ⟨_, _, _, rfl, hFE.set (Nat.le_succ _), hSE.set hmE rfl (by omega)⟩⟩
    · replace h13 := ne_of_beq_false h13
      refine ⟨fun h22 => ?_, fun h22 => ?_⟩
      · replace h22 := eq_of_beq h22
        refine ⟨_, s_l01Next_ok B E.2.1 hS6, ?_⟩
        rintro _ G25 ⟨z25, rfl, hz25, hf25, hS25⟩
        obtain ⟨x25, rfl⟩ : ∃ x : Nat, z25 = (x : Int) := ⟨z25.toNat, by have := hz25.1; omega⟩
        have hb25 := hz25.2.2 (by omega)
        refine ⟨x25, _, rfl, by omega, rfl, ?_⟩
        refine ⟨_, s_l01Next_ok B E.2.1 hS25, ?_⟩
        rintro _ G27 ⟨z27, rfl, hz27, hf27, hS27⟩
        obtain ⟨x27, rfl⟩ : ∃ x : Nat, z27 = (x : Int) := ⟨z27.toNat, by have := hz27.1; omega⟩
        have hb27 := hz27.2.2 (by omega)
        refine ⟨x27, _, rfl, by omega, rfl, ?_⟩
        refine ⟨_, s_l01Next_ok B E.2.1 hS27, ?_⟩
        rintro _ G29 ⟨z29, rfl, hz29, hf29, hS29⟩
        obtain ⟨x29, rfl⟩ : ∃ x : Nat, z29 = (x : Int) := ⟨z29.toNat, by have := hz29.1; omega⟩
        have hb29 := hz29.2.2 (by omega)
        refine ⟨_, s_l01Next_ok B E.2.1 hS29, ?_⟩
        rintro _ G31 ⟨z31, rfl, hz31, hf31, hS31⟩
        refine ⟨x29, _, rfl, by omega, rfl, ?_⟩
        have hF31 := (((hF6.trans hf25).trans hf27).trans hf29).trans hf31
        have hk31 := hf31.get (hf29.get (hf27.get (hf25.get hk6 (by omega)) (by omega)) (by omega)) (by omega)
        have hm31 := hf31.get (hf29.get (hf27.get (hf25.get hm6 (by omega)) (by omega)) (by omega)) (by omega)
        refine ⟨_, _, .by [p, q] 522 (upd f (0 + 10 + x25 * 64 + x27 * 8 + x29 * 1) (byt z31)), hk31, cput_u (by simp <;> omega) (by omega), eqBk_rfl, ?_⟩
        have hkE := set_same (B := ⟨false, .by [p, q] 522 (upd f (0 + 10 + x25 * 64 + x27 * 8 + x29 * 1) (byt z31))⟩) hk31
        have hmE := set_other (B := ⟨false, .by [p, q] 522 (upd f (0 + 10 + x25 * 64 + x27 * 8 + x29 * 1) (byt z31))⟩) hm31 (show H.length ≠ H.length + 1 by omega)
        have hFE := hF31.set (B := ⟨false, .by [p, q] 522 (upd f (0 + 10 + x25 * 64 + x27 * 8 + x29 * 1) (byt z31))⟩) (Nat.le_refl _)
        have hSE := hS31.set (B := ⟨false, .by [p, q] 522 (upd f (0 + 10 + x25 * 64 + x27 * 8 + x29 * 1) (byt z31))⟩) hk31 rfl (by omega)
        refine .inl ⟨_, _, _, _, hkE, ⟨rfl, by omega⟩, ?_⟩
        refine ⟨_, _, _, hmE, cputs_2, eqBk_rfl, ?_⟩
        exact ⟨rfl, false, _, 522, _, set_same hmE, ⟨rfl, by omega⟩, ⟨_, _, _, rfl, hFE.set (Nat.le_succ _), hSE.set hmE rfl (by omega)⟩⟩
      · replace h22 := ne_of_beq_false h22
        refine ⟨fun h37 => ?_, fun h37 => ?_⟩
        · replace h37 := eq_of_beq h37
          refine ⟨_, s_l01Next_ok B E.2.1 hS6, ?_⟩
          rintro _ G40 ⟨z40, rfl, hz40, hf40, hS40⟩
          obtain ⟨x40, rfl⟩ : ∃ x : Nat, z40 = (x : Int) := ⟨z40.toNat, by have := hz40.1; omega⟩
          have hb40 := hz40.2.2 (by omega)
          refine ⟨_, s_l01Next_ok B E.2.1 hS40, ?_⟩
          rintro _ G42 ⟨z42, rfl, hz42, hf42, hS42⟩
          refine ⟨x40, _, rfl, by omega, rfl, ?_⟩
          have hF42 := (hF6.trans hf40).trans hf42
          have hk42 := hf42.get (hf40.get hk6 (by omega)) (by omega)
          have hm42 := hf42.get (hf40.get hm6 (by omega)) (by omega)
          refine ⟨_, _, .by [p, q] 522 (upd f (0 + 2 + x40 * 1) (byt z42)), hk42, cput_u (by simp <;> omega) (by omega), eqBk_rfl, ?_⟩
          have hkE := set_same (B := ⟨false, .by [p, q] 522 (upd f (0 + 2 + x40 * 1) (byt z42))⟩) hk42
          have hmE := set_other (B := ⟨false, .by [p, q] 522 (upd f (0 + 2 + x40 * 1) (byt z42))⟩) hm42 (show H.length ≠ H.length + 1 by omega)
          have hFE := hF42.set (B := ⟨false, .by [p, q] 522 (upd f (0 + 2 + x40 * 1) (byt z42))⟩) (Nat.le_refl _)
          have hSE := hS42.set (B := ⟨false, .by [p, q] 522 (upd f (0 + 2 + x40 * 1) (byt z42))⟩) hk42 rfl (by omega)
          refine .inl ⟨_, _, _, _, hkE, ⟨rfl, by omega⟩, ?_⟩
          refine ⟨_, _, _, hmE, cputs_2, eqBk_rfl, ?_⟩
          exact ⟨rfl, false, _, 522, _, set_same hmE, ⟨rfl, by omega⟩, ⟨_, _, _, rfl, hFE.set (Nat.le_succ _), hSE.set hmE rfl (by omega)⟩⟩
        · replace h37 := ne_of_beq_false h37
          have hkE := hk6
          have hmE := hm6
          have hFE := hF6
          have hSE := hS6
          refine .inl ⟨_, _, _, _, hkE, ⟨rfl, by omega⟩, ?_⟩
          refine ⟨_, _, _, hmE, cputs_2, eqBk_rfl, ?_⟩
          exact ⟨rfl, false, _, 522, _, set_same hmE, ⟨rfl, by omega⟩, ⟨_, _, _, rfl, hFE.set (Nat.le_succ _), hSE.set hmE rfl (by omega)⟩⟩

theorem s_l01Spoil_ok (B : Bs P ρ) (E : F_s_l01Spoil P ρ) {H : List Blk} {s : Nat} (hS : Src H s) :
    CallR P ρ 194 [.pt s 0] H (DrA H s) := by
  have hsl := hS.lt
  refine call_of_q B.fn B.mo E.1 rfl (fun hAr hHp => ?_) (by simp [At.lt, hS.lt])
  refine ⟨_, rfl, ?_⟩
  refine ⟨_, s_l01Draw_ok B E.2.1 (hS.ext Ext.app), ?_⟩
  rintro _ G5 ⟨p, q, f, rfl, hf5, hS5⟩
  refine ⟨_, s_l01Bad_ok B E.2.2 (p := p) (q := q) (f := f) hS5, ?_⟩
  rintro _ G6 ⟨p6, q6, f6, rfl, hf6, hS6⟩
  have hF6 : Fr [s] H G6 := (Ext.app.fr.trans hf5).trans hf6
  have hm6 := hf6.get (hf5.get get_new (by omega)) (by omega)
  refine ⟨_, _, _, hm6, cputs_2, eqBk_rfl, ?_⟩
  exact ⟨rfl, false, _, 522, _, set_same hm6, ⟨rfl, by omega⟩, ⟨_, _, _, rfl, hF6.set (Nat.le_refl _), hS6.set hm6 rfl (by omega)⟩⟩

end Hf
namespace Hf
open Go Classical
variable {P : Program} {ρ : Nat → FuncId}
theorem ifc {α : Type} {p q : Prop} {i1 : Decidable p} {i2 : Decidable q} {a b : α} (h : p ↔ q) : @ite α p i1 a b = @ite α q i2 a b := by
  by_cases hp : p
  · rw [if_pos hp, if_pos (h.1 hp)]
  · rw [if_neg hp, if_neg (fun q => hp (h.2 q))]
def dBf (f : By) (o : Nat) : By := fun x => f (o + (x % 8) * 64 + (x / 64) * 8 + x / 8 % 8)
end Hf
namespace Hf
open Go Classical
variable {P : Program} {ρ : Nat → FuncId}
/-- the dual of an algebra as a coalgebra -/
def dcF (f : By) : By := spl (spl (fun _ => 0) 2 8 (sh f 2)) 10 512 (dBf (dBf (sh f 10) 0) 0)
noncomputable def dcV (p n : Int) (f : By) : Sv := .tup [.ag [if Alg p n f then p else 0, if Alg p n f then n else 0] 522 (if Alg p n f then dcF f else fun _ => 0), .i .i64 (oc (Alg p n f) 1)]
theorem s_l02Turned_ok (B : Bs P ρ) (E : F_s_l02Turned P ρ) {f : By} :
    CallOK P ρ 210 [.ag [] 512 f] [] (.one (.ag [] 512 (dBf f 0))) [] := by
  refine (CallR.pure (call_of_q B.fn B.mo E rfl (fun _ _ => ?_) rfl) rfl).ok
  refine ⟨_, rfl, ?_⟩
  refine ⟨_, rfl, ?_⟩
  refine ⟨_, rfl, ?_⟩
  refine ⟨_, _, _, rfl, cputs_by (by simp) (by omega), eqBk_rfl, ?_⟩
  refine ⟨Unit, (fun a1 a2 a3 (i0 : Nat) (x0 : Unit) => [(1, a1), (2, a2), (3, a3), (4, .one (.i .i64 ((i0 : Nat) : Int)))]) _ _ _ , fun (i0 : Nat) (x0 : Unit) (G0 : List Blk) => (∃ w, G0 = [⟨false, .by [] 512 f⟩, ⟨false, .by [] 512 fun _ => 0⟩, ⟨false, .by [] 512 w⟩] ∧ ∀ x, x < 512 → w x = if x % 8 < i0 then dBf f 0 x else 0), 8, ⟨(), ⟨_, rfl, fun x hx => by simp [spl, hx]⟩, ⟨rfl, rfl, rfl, rfl, trivial⟩⟩, ?_⟩
  rintro i0 _ G0 hi0 ⟨w0, rfl, hw0⟩
  refine ⟨fun h9 => ?_, fun h9 => ?_⟩
  · replace h9 := of_decide_eq_true h9
    refine ⟨Unit, (fun a1 a2 a3 a4 (i1 : Nat) (x1 : Unit) => [(1, a1), (2, a2), (3, a3), (4, a4), (5, .one (.i .i64 ((i1 : Nat) : Int)))]) _ _ _ _ , fun (i1 : Nat) (x1 : Unit) (G1 : List Blk) => (∃ w, G1 = [⟨false, .by [] 512 f⟩, ⟨false, .by [] 512 fun _ => 0⟩, ⟨false, .by [] 512 w⟩] ∧ ∀ x, x < 512 → w x = if x % 8 < i0 ∨ (x % 8 = i0 ∧ x / 8 < i1 * 8) then dBf f 0 x else 0), 8, ⟨(), ⟨_, rfl, fun x hx => by rw [hw0 x hx]; exact ifc (by omega)⟩, ⟨rfl, rfl, rfl, rfl, rfl, trivial⟩⟩, ?_⟩
    rintro i1 _ G1 hi1 ⟨w1, rfl, hw1⟩
    refine ⟨fun h13 => ?_, fun h13 => ?_⟩
    · replace h13 := of_decide_eq_true h13
      refine ⟨Unit, (fun a1 a2 a3 a4 a5 (i2 : Nat) (x2 : Unit) => [(1, a1), (2, a2), (3, a3), (4, a4), (5, a5), (6, .one (.i .i64 ((i2 : Nat) : Int)))]) _ _ _ _ _ , fun (i2 : Nat) (x2 : Unit) (G2 : List Blk) => (∃ w, G2 = [⟨false, .by [] 512 f⟩, ⟨false, .by [] 512 fun _ => 0⟩, ⟨false, .by [] 512 w⟩] ∧ ∀ x, x < 512 → w x = if x % 8 < i0 ∨ (x % 8 = i0 ∧ x / 8 < i1 * 8 + i2) then dBf f 0 x else 0), 8, ⟨(), ⟨_, rfl, fun x hx => by rw [hw1 x hx]; exact ifc (by omega)⟩, ⟨rfl, rfl, rfl, rfl, rfl, rfl, trivial⟩⟩, ?_⟩
      rintro i2 _ G2 hi2 ⟨w2, rfl, hw2⟩
      refine ⟨fun h17 => ?_, fun h17 => ?_⟩
      · replace h17 := of_decide_eq_true h17
        refine ⟨i0, _, rfl, by omega, rfl, ?_⟩
        refine ⟨i1, _, rfl, by omega, rfl, ?_⟩
        refine ⟨i2, _, rfl, by omega, rfl, ?_⟩
        refine ⟨_, _, rfl, cat_bq (i0 * 64 + i1 * 8 + i2) (by omega) (by simp) (by omega), ?_⟩
        refine ⟨i1, _, rfl, by omega, rfl, ?_⟩
        refine ⟨i2, _, rfl, by omega, rfl, ?_⟩
        refine ⟨i0, _, rfl, by omega, rfl, ?_⟩
        refine ⟨_, _, _, rfl, cput_u (by simp) (by omega), eqBk_rfl, ?_⟩
        refine ⟨((i2 + 1 : Nat) : Int), w64_id _ (by omega) (by omega), ?_⟩
        refine ⟨by omega, (), ?_, ⟨rfl, rfl, rfl, rfl, rfl, rfl, trivial⟩⟩
        refine ⟨_, rfl, fun x hx => ?_⟩
        by_cases e : x = i1 * 64 + i2 * 8 + i0
        · rw [show x = 0 + i1 * 64 + i2 * 8 + i0 * 1 from by omega, upd_same, if_pos (by omega)]
          unfold dBf
          congr 1; omega
        · rw [upd_ne _ _ _ _ (by omega), hw2 x hx]
          exact ifc (by omega)
      · replace h17 := of_decide_eq_false h17
        have e2 : 8 = i2 := by omega
        subst e2
        refine ⟨((i1 + 1 : Nat) : Int), w64_id _ (by omega) (by omega), ?_⟩
        exact ⟨by omega, (), ⟨_, rfl, fun x hx => by rw [hw2 x hx]; exact ifc (by omega)⟩, ⟨rfl, rfl, rfl, rfl, rfl, trivial⟩⟩
    · replace h13 := of_decide_eq_false h13
      have e1 : 8 = i1 := by omega
      subst e1
      refine ⟨((i0 + 1 : Nat) : Int), w64_id _ (by omega) (by omega), ?_⟩
      exact ⟨by omega, (), ⟨_, rfl, fun x hx => by rw [hw1 x hx]; exact ifc (by omega)⟩, ⟨rfl, rfl, rfl, rfl, trivial⟩⟩
  · replace h9 := of_decide_eq_false h9
    have e0 : 8 = i0 := by omega
    subst e0
    refine ⟨_, _, _, _, dBf f 0, rfl, ⟨by simp, by omega⟩, fun x hx => by rw [Nat.zero_add, hw0 x hx, if_pos (by omega)], ?_⟩
    refine ⟨_, _, _, rfl, cputs_by (by simp) (by omega), eqBk_rfl, ?_⟩
    exact ⟨rfl, false, [], 512, _, dBf f 0, rfl, ⟨by simp, by omega⟩, fun x hx => by simp [spl, hx], rfl, Ext.nil⟩

theorem s_DualCoalgebra_ok (B : Bs P ρ) (E : F_s_DualCoalgebra P ρ) {p n : Int} {f : By} :
    CallOK P ρ 207 [.ag [p, n] 522 f] [] (dcV p n f) [] := by
  refine (CallR.pure (call_of_q B.fn B.mo E.1 rfl (fun _ _ => ?_) rfl) rfl).ok
  refine ⟨_, rfl, ?_⟩
  refine ⟨_, rfl, ?_⟩
  refine .inl ⟨_, _, _, _, rfl, ⟨rfl, by omega⟩, ?_⟩
  refine ⟨_, s_l01Is_ok B E.2.1 (p := p) (n := n) (f := f), rfl, ?_⟩
  refine ⟨fun h6 => ?_, fun h6 => ?_⟩
  · skip
    have hA : ¬ Alg p n f := fun z => by rw [decide_eq_true z] at h6; cases h6
    refine ⟨_, _, _, rfl, cputs_2, eqBk_rfl, ?_⟩
    first
      | (refine ⟨rfl, false, _, 522, _, rfl, ⟨rfl, by omega⟩, ?_, Ext.nil⟩
         show _ = dcV p n f
         unfold dcV
         rw [if_neg hA, if_neg hA, if_neg hA, oc_f hA]
         rfl)
      | (refine ⟨rfl, false, _, 522, _, rfl, ⟨rfl, by omega⟩, ?_, Ext.nil⟩
         show _ = dcV p n f
         unfold dcV
         rw [if_pos hA, if_pos hA, if_pos hA, oc_t hA]
         rfl)
  · skip
    have hA : Alg p n f := by simpa using h6
    refine ⟨_, _, rfl, rfl, ?_⟩
    refine ⟨_, _, rfl, rfl, ?_⟩
    refine ⟨_, _, _, _, sh f 2, rfl, ⟨by simp, by omega⟩, fun x hx => rfl, ?_⟩
    refine ⟨_, _, _, _, sh f 10, rfl, ⟨by simp, by omega⟩, fun x hx => rfl, ?_⟩
    refine ⟨_, s_l02Turned_ok B E.2.2 (f := sh f 10), rfl, ?_⟩
    refine ⟨_, s_l02Turned_ok B E.2.2 (f := dBf (sh f 10) 0), rfl, ?_⟩
    refine ⟨_, _, _, rfl, cputs_2, eqBk_rfl, ?_⟩
    first
      | (refine ⟨rfl, false, _, 522, _, rfl, ⟨rfl, by omega⟩, ?_, Ext.nil⟩
         show _ = dcV p n f
         unfold dcV
         rw [if_neg hA, if_neg hA, if_neg hA, oc_f hA]
         rfl)
      | (refine ⟨rfl, false, _, 522, _, rfl, ⟨rfl, by omega⟩, ?_, Ext.nil⟩
         show _ = dcV p n f
         unfold dcV
         rw [if_pos hA, if_pos hA, if_pos hA, oc_t hA]
         rfl)

set_option maxHeartbeats 2000000 in
theorem s_l02Draw_ok (B : Bs P ρ) (E : F_s_l02Draw P ρ) {H : List Blk} {s : Nat} (hS : Src H s) :
    CallR P ρ 201 [.pt s 0] H (DrA H s) := by
  have hsl := hS.lt
  refine call_of_q B.fn B.mo E.1 rfl (fun hAr hHp => ?_) (by simp [At.lt, hS.lt])
  refine ⟨_, rfl, ?_⟩
  refine ⟨_, s_l01Next_ok B E.2.1 (hS.ext Ext.app), ?_⟩
  rintro _ G11 ⟨z11, rfl, hz11, hf11, hS11⟩
  have hF11 : Fr [s] H G11 := (Ext.app.fr).trans hf11
  have hm11 := hf11.get get_new (by omega)
  refine ⟨fun h12 => ?_, fun h12 => ?_⟩
  · replace h12 := eq_of_beq h12
    refine ⟨_, s_l01DrawPrime_ok B E.2.2.1 hS11, ?_⟩
    rintro _ G15 ⟨p, hp, rfl, hf15, hS15⟩
    refine ⟨_, s_l01Next_ok B E.2.1 hS15, ?_⟩
    rintro _ G17 ⟨z17, rfl, hz17, hf17, hS17⟩
    obtain ⟨x17, rfl⟩ : ∃ x : Nat, z17 = (x : Int) := ⟨z17.toNat, by have := hz17.1; omega⟩
    have hb17 := hz17.2.2 (by omega)
    have hA : ∀ X : List Blk, (G17 ++ X)[H.length]? = some ⟨false, (Zk.by 2 522).bk⟩ ∧ Fr [s] H (G17 ++ X) ∧ Src (G17 ++ X) s := fun X =>
      ⟨app_old (hf17.get (hf15.get hm11 (by omega)) (by omega)), ((hF11.trans hf15).trans hf17).trans Ext.app.fr, hS17.ext Ext.app⟩
    refine ⟨((1 + x17 : Nat) : Int), (w64_id _ (by omega) (by omega)).trans (by omega), ?_⟩
    refine ⟨_, rfl, ?_⟩
    refine ⟨_, _, _, get_new, cputs_2, eqBk_rfl, ?_⟩
    rw [app_set0]
    refine ⟨Unit, (fun a2 a3 (i0 : Nat) (x0 : Unit) => [(2, a2), (3, a3), (4, .one (.i .i64 ((i0 : Nat) : Int)))]) _ _ , fun (i0 : Nat) (x0 : Unit) (G0 : List Blk) => (∃ f : By, G0 = G17 ++ [⟨false, .by [p, ((1 + x17 : Nat) : Int)] 522 f⟩]), 1 + x17, ⟨(), ⟨_, rfl⟩, ⟨rfl, rfl, rfl, trivial⟩⟩, ?_⟩
    rintro i0 _ G0 hi0 ⟨f0, rfl⟩
    refine ⟨_, _, get_new, rfl, ?_⟩
    refine ⟨fun h23 => ?_, fun h23 => ?_⟩
    · replace h23 := of_decide_eq_true h23
      refine ⟨i0, _, rfl, by omega, rfl, ?_⟩
      refine ⟨_, _, _, get_new, cput_u (by simp <;> omega) (by omega), eqBk_rfl, ?_⟩
      rw [app_set0]
      refine ⟨i0, _, rfl, by omega, rfl, ?_⟩
      refine ⟨i0, _, rfl, by omega, rfl, ?_⟩
      refine ⟨i0, _, rfl, by omega, rfl, ?_⟩
      refine ⟨_, _, _, get_new, cput_u (by simp <;> omega) (by omega), eqBk_rfl, ?_⟩
      refine ⟨((i0 + 1 : Nat) : Int), w64_id _ (by omega) (by omega), ?_⟩
      exact ⟨by omega, (), ⟨_, app_set0⟩, ⟨rfl, rfl, rfl, trivial⟩⟩
    · replace h23 := of_decide_eq_false h23
      have e0 : 1 + x17 = i0 := by omega
      subst e0
      refine .inl ⟨_, _, _, _, get_new, ⟨rfl, by omega⟩, ?_⟩
      refine ⟨_, _, _, (hA _).1, cputs_2, eqBk_rfl, ?_⟩
      exact ⟨rfl, false, _, 522, _, set_same (hA _).1, ⟨rfl, by omega⟩, ⟨_, _, _, rfl, (hA _).2.1.set (Nat.le_refl _), (hA _).2.2.set (hA _).1 rfl (by omega)⟩⟩
  · replace h12 := ne_of_beq_false h12
    refine ⟨fun h37 => ?_, fun h37 => ?_⟩
    · replace h37 := eq_of_beq h37
      refine ⟨_, s_l01DrawPrime_ok B E.2.2.1 hS11, ?_⟩
      rintro _ G40 ⟨p, hp, rfl, hf40, hS40⟩
      refine ⟨_, s_l01Next_ok B E.2.1 hS40, ?_⟩
      rintro _ G42 ⟨z42, rfl, hz42, hf42, hS42⟩
      obtain ⟨x42, rfl⟩ : ∃ x : Nat, z42 = (x : Int) := ⟨z42.toNat, by have := hz42.1; omega⟩
      have hb42 := hz42.2.2 (by omega)
      have hA : ∀ X : List Blk, (G42 ++ X)[H.length]? = some ⟨false, (Zk.by 2 522).bk⟩ ∧ Fr [s] H (G42 ++ X) ∧ Src (G42 ++ X) s := fun X =>
        ⟨app_old (hf42.get (hf40.get hm11 (by omega)) (by omega)), ((hF11.trans hf40).trans hf42).trans Ext.app.fr, hS42.ext Ext.app⟩
      refine ⟨((1 + x42 : Nat) : Int), (w64_id _ (by omega) (by omega)).trans (by omega), ?_⟩
      refine ⟨_, rfl, ?_⟩
      refine ⟨_, _, _, get_new, cputs_2, eqBk_rfl, ?_⟩
      rw [app_set0]
      refine ⟨Unit, (fun a2 a5 (i1 : Nat) (x1 : Unit) => [(2, a2), (5, a5), (6, .one (.i .i64 ((i1 : Nat) : Int)))]) _ _ , fun (i1 : Nat) (x1 : Unit) (G1 : List Blk) => (∃ f : By, G1 = G42 ++ [⟨false, .by [p, ((1 + x42 : Nat) : Int)] 522 f⟩]), 1 + x42, ⟨(), ⟨_, rfl⟩, ⟨rfl, rfl, rfl, trivial⟩⟩, ?_⟩
      rintro i1 _ G1 hi1 ⟨f1, rfl⟩
      refine ⟨_, _, get_new, rfl, ?_⟩
      refine ⟨fun h49 => ?_, fun h49 => ?_⟩
      · replace h49 := of_decide_eq_true h49
        refine ⟨Unit, (fun a2 a5 a6 (i2 : Nat) (x2 : Unit) => [(2, a2), (5, a5), (6, a6), (7, .one (.i .i64 ((i2 : Nat) : Int)))]) _ _ _ , fun (i2 : Nat) (x2 : Unit) (G2 : List Blk) => (∃ f : By, G2 = G42 ++ [⟨false, .by [p, ((1 + x42 : Nat) : Int)] 522 f⟩]), i1 + 1, ⟨(), ⟨_, rfl⟩, ⟨rfl, rfl, rfl, rfl, trivial⟩⟩, ?_⟩
        rintro i2 _ G2 hi2 ⟨f2, rfl⟩
        refine ⟨fun h54 => ?_, fun h54 => ?_⟩
        · replace h54 := of_decide_eq_true h54
          refine ⟨((i1 - i2 : Nat) : Int), (w64_id _ (by omega) (by omega)).trans (by omega), ?_⟩
          refine ⟨i1, _, rfl, by omega, rfl, ?_⟩
          refine ⟨i2, _, rfl, by omega, rfl, ?_⟩
          refine ⟨i1 - i2, _, rfl, by omega, rfl, ?_⟩
          refine ⟨_, _, _, get_new, cput_u (by simp <;> omega) (by omega), eqBk_rfl, ?_⟩
          refine ⟨((i2 + 1 : Nat) : Int), w64_id _ (by omega) (by omega), ?_⟩
          exact ⟨by omega, (), ⟨_, app_set0⟩, ⟨rfl, rfl, rfl, rfl, trivial⟩⟩
        · replace h54 := of_decide_eq_false h54
          have e2 : i1 + 1 = i2 := by omega
          subst e2
          refine ⟨((i1 + 1 : Nat) : Int), w64_id _ (by omega) (by omega), ?_⟩
          exact ⟨by omega, (), ⟨_, rfl⟩, ⟨rfl, rfl, rfl, trivial⟩⟩
      · replace h49 := of_decide_eq_false h49
        have e1 : 1 + x42 = i1 := by omega
        subst e1
        refine .inl ⟨_, _, _, _, get_new, ⟨rfl, by omega⟩, ?_⟩
        refine ⟨_, _, _, (hA _).1, cputs_2, eqBk_rfl, ?_⟩
        exact ⟨rfl, false, _, 522, _, set_same (hA _).1, ⟨rfl, by omega⟩, ⟨_, _, _, rfl, (hA _).2.1.set (Nat.le_refl _), (hA _).2.2.set (hA _).1 rfl (by omega)⟩⟩
    · replace h37 := ne_of_beq_false h37
      refine ⟨_, s_l01Draw_ok B E.2.2.2.1 hS11, ?_⟩
      rintro _ G69 ⟨p69, q69, f69, rfl, hf69, hS69⟩
      have hA : ∀ X : List Blk, (G69 ++ X)[H.length]? = some ⟨false, (Zk.by 2 522).bk⟩ ∧ Fr [s] H (G69 ++ X) ∧ Src (G69 ++ X) s := fun X =>
        ⟨app_old (hf69.get hm11 (by omega)), (hF11.trans hf69).trans Ext.app.fr, hS69.ext Ext.app⟩
      refine ⟨_, s_DualCoalgebra_ok B E.2.2.2.2 (p := p69) (n := q69) (f := f69), rfl, ?_⟩
      refine ⟨_, rfl, ?_⟩
      refine ⟨_, _, _, get_new, cputs_2, eqBk_rfl, ?_⟩
      rw [app_set0]
      refine .inl ⟨_, _, _, _, get_new, ⟨rfl, by omega⟩, ?_⟩
      refine ⟨_, _, _, (hA _).1, cputs_2, eqBk_rfl, ?_⟩
      exact ⟨rfl, false, _, 522, _, set_same (hA _).1, ⟨rfl, by omega⟩, ⟨_, _, _, rfl, (hA _).2.1.set (Nat.le_refl _), (hA _).2.2.set (hA _).1 rfl (by omega)⟩⟩

set_option maxHeartbeats 2000000 in
theorem s_l02Bad_ok (B : Bs P ρ) (E : F_s_l02Bad P ρ) {H : List Blk} {s : Nat} {p q : Int} {f : By} (hS : Src H s) :
    CallR P ρ 202 [.pt s 0, .ag [p, q] 522 f] H (DrA H s) := by
  have hsl := hS.lt
  refine call_of_q B.fn B.mo E.1 rfl (fun hAr hHp => ?_) (by simp [At.lt, hS.lt])
  refine ⟨_, rfl, ?_⟩
  refine ⟨H.length + 1, by simp, ?_⟩
  refine ⟨_, s_l01Next_ok B E.2.1 ((hS.ext Ext.app).ext Ext.app), ?_⟩
  rintro _ G6 ⟨z6, rfl, hz6, hf6, hS6⟩
  have hF6 : Fr [s] H G6 := (Ext.app.trans Ext.app).fr.trans hf6
  have hk6 := hf6.get (k := H.length) (app_old get_new) (by omega)
  have hm6 := hf6.get (k := H.length + 1) get_new1 (by omega)
  refine ⟨fun h7 => ?_, fun h7 => ?_⟩
  · replace h7 := eq_of_beq h7
    refine ⟨_, rfl, ?_⟩
    refine ⟨_, s_l01Pick_ok B E.2.2 (L := [0, 4, 37]) (hS6.ext Ext.app) ⟨false, _, get_new, by simp, rfl⟩ (by simp [At.lt]) (by have := hS6.lt; simp [spB]; omega) (by simp), ?_⟩
    rintro _ G11 ⟨z11, hz11, rfl, hf11, hS11⟩
    have hk11 := hf11.get (k := H.length) (app_old hk6) (by omega)
    have hm11 := hf11.get (k := H.length + 1) (app_old hm6) (by omega)
    refine ⟨_, _, .by [z11, q] 522 f, hk11, cput_i (by simp) (by omega), eqBk_rfl, ?_⟩
    have hkE := set_same (B := ⟨false, .by [z11, q] 522 f⟩) hk11
    have hmE := set_other (B := ⟨false, .by [z11, q] 522 f⟩) hm11 (show H.length ≠ H.length + 1 by omega)
    have hFE := ((hF6.trans Ext.app.fr).trans hf11).set (B := ⟨false, .by [z11, q] 522 f⟩) (Nat.le_refl _)
    have hSE := hS11.set (B := ⟨false, .by [z11, q] 522 f⟩) hk11 rfl (by omega)
    refine .inl ⟨_, _, _, _, hkE, ⟨rfl, by omega⟩, ?_⟩
    refine ⟨_, _, _, hmE, cputs_2, eqBk_rfl, ?_⟩
    exact ⟨rfl, false, _, 522, _, set_same hmE, ⟨rfl, by omega⟩, ⟨_, _, _, rfl, hFE.set (Nat.le_succ _), hSE.set hmE rfl (by omega)⟩⟩
  · replace h7 := ne_of_beq_false h7
    refine ⟨fun h13 => ?_, fun h13 => ?_⟩
    · replace h13 := eq_of_beq h13
      refine ⟨_, _, hk6, rfl, ?_⟩
      refine ⟨_, rfl, ?_⟩
      refine ⟨_, rfl, ?_⟩
      refine ⟨_, s_l01Pick_ok B E.2.2 (L := [0, 9, w64 (q - 1)]) (hS6.ext Ext.app) ⟨false, _, get_new, by simp, rfl⟩ (by simp [At.lt]) (by have := hS6.lt; simp [spB]; omega) (by simp), ?_⟩
      rintro _ G20 ⟨z20, hz20, rfl, hf20, hS20⟩
      have hk20 := hf20.get (k := H.length) (app_old hk6) (by omega)
      have hm20 := hf20.get (k := H.length + 1) (app_old hm6) (by omega)
      refine ⟨_, _, .by [p, z20] 522 f, hk20, cput_i (by simp) (by omega), eqBk_rfl, ?_⟩
      have hkE := set_same (B := ⟨false, .by [p, z20] 522 f⟩) hk20
      have hmE := set_other (B := ⟨false, .by [p, z20] 522 f⟩) hm20 (show H.length ≠ H.length + 1 by omega)
      have hFE := ((hF6.trans Ext.app.fr).trans hf20).set (B := ⟨false, .by [p, z20] 522 f⟩) (Nat.le_refl _)
      have hSE := hS20.set (B := ⟨false, .by [p, z20] 522 f⟩) hk20 rfl (by omega)
      refine .inl ⟨_, _, _, _, hkE, ⟨rfl, by omega⟩, ?_⟩
      refine ⟨_, _, _, hmE, cputs_2, eqBk_rfl, ?_⟩
      exact ⟨rfl, false, _, 522, _, set_same hmE, ⟨rfl, by omega⟩, ⟨_, _, _, rfl, hFE.set (Nat.le_succ _), hSE.set hmE rfl (by omega)⟩⟩
    · replace h13 := ne_of_beq_false h13
      refine ⟨fun h22 => ?_, fun h22 => ?_⟩
      · replace h22 := eq_of_beq h22
        refine ⟨_, s_l01Next_ok B E.2.1 hS6, ?_⟩
        rintro _ G25 ⟨z25, rfl, hz25, hf25, hS25⟩
        obtain ⟨x25, rfl⟩ : ∃ x : Nat, z25 = (x : Int) := ⟨z25.toNat, by have := hz25.1; omega⟩
        have hb25 := hz25.2.2 (by omega)
        refine ⟨x25, _, rfl, by omega, rfl, ?_⟩
        refine ⟨_, s_l01Next_ok B E.2.1 hS25, ?_⟩
        rintro _ G27 ⟨z27, rfl, hz27, hf27, hS27⟩
        obtain ⟨x27, rfl⟩ : ∃ x : Nat, z27 = (x : Int) := ⟨z27.toNat, by have := hz27.1; omega⟩
        have hb27 := hz27.2.2 (by omega)
        refine ⟨x27, _, rfl, by omega, rfl, ?_⟩
        refine ⟨_, s_l01Next_ok B E.2.1 hS27, ?_⟩
        rintro _ G29 ⟨z29, rfl, hz29, hf29, hS29⟩
        obtain ⟨x29, rfl⟩ : ∃ x : Nat, z29 = (x : Int) := ⟨z29.toNat, by have := hz29.1; omega⟩
        have hb29 := hz29.2.2 (by omega)
        refine ⟨_, s_l01Next_ok B E.2.1 hS29, ?_⟩
        rintro _ G31 ⟨z31, rfl, hz31, hf31, hS31⟩
        refine ⟨x29, _, rfl, by omega, rfl, ?_⟩
        have hF31 := (((hF6.trans hf25).trans hf27).trans hf29).trans hf31
        have hk31 := hf31.get (hf29.get (hf27.get (hf25.get hk6 (by omega)) (by omega)) (by omega)) (by omega)
        have hm31 := hf31.get (hf29.get (hf27.get (hf25.get hm6 (by omega)) (by omega)) (by omega)) (by omega)
        refine ⟨_, _, .by [p, q] 522 (upd f (0 + 10 + x25 * 64 + x27 * 8 + x29 * 1) (byt z31)), hk31, cput_u (by simp <;> omega) (by omega), eqBk_rfl, ?_⟩
        have hkE := set_same (B := ⟨false, .by [p, q] 522 (upd f (0 + 10 + x25 * 64 + x27 * 8 + x29 * 1) (byt z31))⟩) hk31
        have hmE := set_other (B := ⟨false, .by [p, q] 522 (upd f (0 + 10 + x25 * 64 + x27 * 8 + x29 * 1) (byt z31))⟩) hm31 (show H.length ≠ H.length + 1 by omega)
        have hFE := hF31.set (B := ⟨false, .by [p, q] 522 (upd f (0 + 10 + x25 * 64 + x27 * 8 + x29 * 1) (byt z31))⟩) (Nat.le_refl _)
        have hSE := hS31.set (B := ⟨false, .by [p, q] 522 (upd f (0 + 10 + x25 * 64 + x27 * 8 + x29 * 1) (byt z31))⟩) hk31 rfl (by omega)
        refine .inl ⟨_, _, _, _, hkE, ⟨rfl, by omega⟩, ?_⟩
        refine ⟨_, _, _, hmE, cputs_2, eqBk_rfl, ?_⟩
        exact ⟨rfl, false, _, 522, _, set_same hmE, ⟨rfl, by omega⟩, ⟨_, _, _, rfl, hFE.set (Nat.le_succ _), hSE.set hmE rfl (by omega)⟩⟩
      · replace h22 := ne_of_beq_false h22
        refine ⟨fun h37 => ?_, fun h37 => ?_⟩
        · replace h37 := eq_of_beq h37
          refine ⟨_, s_l01Next_ok B E.2.1 hS6, ?_⟩
          rintro _ G40 ⟨z40, rfl, hz40, hf40, hS40⟩
          obtain ⟨x40, rfl⟩ : ∃ x : Nat, z40 = (x : Int) := ⟨z40.toNat, by have := hz40.1; omega⟩
          have hb40 := hz40.2.2 (by omega)
          refine ⟨_, s_l01Next_ok B E.2.1 hS40, ?_⟩
          rintro _ G42 ⟨z42, rfl, hz42, hf42, hS42⟩
          refine ⟨x40, _, rfl, by omega, rfl, ?_⟩
          have hF42 := (hF6.trans hf40).trans hf42
          have hk42 := hf42.get (hf40.get hk6 (by omega)) (by omega)
          have hm42 := hf42.get (hf40.get hm6 (by omega)) (by omega)
          refine ⟨_, _, .by [p, q] 522 (upd f (0 + 2 + x40 * 1) (byt z42)), hk42, cput_u (by simp <;> omega) (by omega), eqBk_rfl, ?_⟩
          have hkE := set_same (B := ⟨false, .by [p, q] 522 (upd f (0 + 2 + x40 * 1) (byt z42))⟩) hk42
          have hmE := set_other (B := ⟨false, .by [p, q] 522 (upd f (0 + 2 + x40 * 1) (byt z42))⟩) hm42 (show H.length ≠ H.length + 1 by omega)
          have hFE := hF42.set (B := ⟨false, .by [p, q] 522 (upd f (0 + 2 + x40 * 1) (byt z42))⟩) (Nat.le_refl _)
          have hSE := hS42.set (B := ⟨false, .by [p, q] 522 (upd f (0 + 2 + x40 * 1) (byt z42))⟩) hk42 rfl (by omega)
          refine .inl ⟨_, _, _, _, hkE, ⟨rfl, by omega⟩, ?_⟩
          refine ⟨_, _, _, hmE, cputs_2, eqBk_rfl, ?_⟩
          exact ⟨rfl, false, _, 522, _, set_same hmE, ⟨rfl, by omega⟩, ⟨_, _, _, rfl, hFE.set (Nat.le_succ _), hSE.set hmE rfl (by omega)⟩⟩
        · replace h37 := ne_of_beq_false h37
          have hkE := hk6
          have hmE := hm6
          have hFE := hF6
          have hSE := hS6
          refine .inl ⟨_, _, _, _, hkE, ⟨rfl, by omega⟩, ?_⟩
          refine ⟨_, _, _, hmE, cputs_2, eqBk_rfl, ?_⟩
          exact ⟨rfl, false, _, 522, _, set_same hmE, ⟨rfl, by omega⟩, ⟨_, _, _, rfl, hFE.set (Nat.le_succ _), hSE.set hmE rfl (by omega)⟩⟩

theorem s_l02Spoil_ok (B : Bs P ρ) (E : F_s_l02Spoil P ρ) {H : List Blk} {s : Nat} (hS : Src H s) :
    CallR P ρ 193 [.pt s 0] H (DrA H s) := by
  have hsl := hS.lt
  refine call_of_q B.fn B.mo E.1 rfl (fun hAr hHp => ?_) (by simp [At.lt, hS.lt])
  refine ⟨_, rfl, ?_⟩
  refine ⟨_, s_l02Draw_ok B E.2.1 (hS.ext Ext.app), ?_⟩
  rintro _ G5 ⟨p, q, f, rfl, hf5, hS5⟩
  refine ⟨_, s_l02Bad_ok B E.2.2 (p := p) (q := q) (f := f) hS5, ?_⟩
  rintro _ G6 ⟨p6, q6, f6, rfl, hf6, hS6⟩
  have hF6 : Fr [s] H G6 := (Ext.app.fr.trans hf5).trans hf6
  have hm6 := hf6.get (hf5.get get_new (by omega)) (by omega)
  refine ⟨_, _, _, hm6, cputs_2, eqBk_rfl, ?_⟩
  exact ⟨rfl, false, _, 522, _, set_same hm6, ⟨rfl, by omega⟩, ⟨_, _, _, rfl, hF6.set (Nat.le_refl _), hS6.set hm6 rfl (by omega)⟩⟩

end Hf
namespace Hf
open Go Classical
variable {P : Program} {ρ : Nat → FuncId}
theorem at_k {H l : List Blk} {i : Nat} : (H ++ l)[H.length + i]? = l[i]? := by
  rw [List.getElem?_append_right (by omega), Nat.add_sub_cancel_left]
theorem ap4 {H : List Blk} {A B C D : Blk} : H ++ [A] ++ [B] ++ [C] ++ [D] = H ++ [A, B, C, D] := by simp
theorem ap2 {H : List Blk} {A B : Blk} : H ++ [A] ++ [B] = H ++ [A, B] := by simp
theorem ap_setA {H : List Blk} {A B C : Blk} : (H ++ [A] ++ [B]).set H.length C = H ++ [C, B] := by
  rw [ap2]; exact app_set (i := 0)
theorem Ext.fr' {s : Nat} {H G G' : List Blk} (h : Ext H G) (f : Fr [s] G G') (hs : H.length ≤ s) : Ext H G' := fun k B e => f k B (by have := lt_of e; simp; omega) (h k B e)
theorem Fr.ext {s : Nat} {H G : List Blk} (h : Fr [s] H G) (hs : H.length ≤ s) : Ext H G := fun k B e => h k B (by have := lt_of e; simp; omega) e
theorem s_l02DrawMap_ok (B : Bs P ρ) (E : F_s_l02DrawMap P ρ) {H : List Blk} {s : Nat} {p q p2 q2 : Int} {f g : By} (hS : Src H s) :
    CallR P ρ 188 [.pt s 0, .ag [p, q] 522 f, .ag [p2, q2] 522 g] H (fun u G => ∃ w : By, u = .one (.ag [] 64 w) ∧ Fr [s] H G ∧ Src G s) := by
  have hsl := hS.lt
  refine call_of_q B.fn B.mo E.1 rfl (fun hAr hHp => ?_) (by simp [At.lt, hS.lt])
  refine ⟨_, rfl, ?_⟩
  refine ⟨H.length + 1, by simp, ?_⟩
  refine ⟨H.length + 2, by simp, ?_⟩
  refine ⟨H.length + 3, by simp, ?_⟩
  rw [ap4]
  refine ⟨_, _, _, at_k, cputs_by (by simp) (by omega), eqBk_rfl, ?_⟩
  rw [app_set]
  refine ⟨Unit, (fun a0 a4 a5 a6 a7 (i0 : Nat) (x0 : Unit) => [(0, a0), (4, a4), (5, a5), (6, a6), (7, a7), (8, .one (.i .i64 ((i0 : Nat) : Int)))]) _ _ _ _ _ , fun (i0 : Nat) (x0 : Unit) (G0 : List Blk) => (Fr [s] H G0 ∧ Src G0 s ∧ G0[H.length]? = some ⟨false, .by [p, q] 522 f⟩ ∧ G0[H.length + 1]? = some ⟨false, .by [p2, q2] 522 g⟩ ∧ (∃ w : By, G0[H.length + 3]? = some ⟨false, .by [] 64 w⟩) ∧ ∃ w : By, G0[H.length + 2]? = some ⟨false, .by [] 64 w⟩), 8, ⟨(), ⟨Ext.app.fr, hS.ext Ext.app, at_k (i := 0), at_k (i := 1), ⟨_, at_k (i := 3)⟩, ⟨_, at_k (i := 2)⟩⟩, ⟨rfl, rfl, rfl, rfl, rfl, rfl, trivial⟩⟩, ?_⟩
  rintro i0 _ G0 hi0 ⟨hF0, hS0, hc0, ha0, ⟨w, hk0⟩, w0, hm0⟩
  refine ⟨_, _, hc0, rfl, ?_⟩
  refine ⟨fun h14 => ?_, fun h14 => ?_⟩
  · replace h14 := of_decide_eq_true h14
    refine brB_t ?_
    refine brB_t ?_
    refine ⟨fun h17 => ?_, fun h17 => ?_⟩
    · replace h17 := of_decide_eq_true h17
      refine ⟨_, _, ha0, rfl, ?_⟩
      refine ⟨_, _, ha0, rfl, ?_⟩
      refine ⟨_, s_l01DrawVector_ok B E.2.1 (p := p2) (n := q2) hS0, ?_⟩
      rintro _ G26 ⟨v26, rfl, hf26, hS26⟩
      refine ⟨i0, _, rfl, by omega, rfl, ?_⟩
      have hk26 := hf26.get hk0 (by omega)
      refine ⟨_, _, _, hk26, cputs_by (by simp) (by omega), eqBk_rfl, ?_⟩
      refine ⟨((i0 + 1 : Nat) : Int), w64_id _ (by omega) (by omega), ?_⟩
      exact ⟨by omega, (), ⟨(hF0.trans hf26).set (by omega), hS26.set hk26 rfl (by omega), set_other (hf26.get hc0 (by omega)) (by omega), set_other (hf26.get ha0 (by omega)) (by omega), ⟨_, set_same hk26⟩, _, set_other (hf26.get hm0 (by omega)) (by omega)⟩, ⟨rfl, rfl, rfl, rfl, rfl, rfl, trivial⟩⟩
    · replace h17 := of_decide_eq_false h17
      refine ⟨_, s_l01Next_ok B E.2.2 hS0, ?_⟩
      rintro _ G29 ⟨z29, rfl, hz29, hf29, hS29⟩
      have hk29 := hf29.get hk0 (by omega)
      have hm29 := hf29.get hm0 (by omega)
      have hF29 := hF0.trans hf29
      refine ⟨fun h30 => ?_, fun h30 => ?_⟩
      · replace h30 := eq_of_beq h30
        refine ⟨7, _, rfl, by omega, rfl, ?_⟩
        refine ⟨7, _, rfl, by omega, rfl, ?_⟩
        refine ⟨_, _, _, hk29, cput_u (by simp) (by omega), eqBk_rfl, ?_⟩
        have hkE := set_same (B := ⟨false, .by [] 64 (upd w (0 + 7 * 8 + 7 * 1) 1)⟩) hk29
        have hmE := set_other (B := ⟨false, .by [] 64 (upd w (0 + 7 * 8 + 7 * 1) 1)⟩) hm29 (show H.length + 3 ≠ H.length + 2 by omega)
        have hFE := hF29.set (B := ⟨false, .by [] 64 (upd w (0 + 7 * 8 + 7 * 1) 1)⟩) (show H.length ≤ H.length + 3 by omega)
        have hSE := hS29.set (B := ⟨false, .by [] 64 (upd w (0 + 7 * 8 + 7 * 1) 1)⟩) hk29 rfl (by omega)
        refine ⟨_, _, _, _, _, hkE, ⟨by simp, by omega⟩, fun x _ => congrArg _ (Nat.zero_add x).symm, ?_⟩
        refine ⟨_, _, _, hmE, cputs_by (by simp) (by omega), eqBk_rfl, ?_⟩
        exact ⟨rfl, false, [], 64, _, _, set_same hmE, ⟨by simp, by omega⟩, fun x hx => rfl, ⟨_, rfl, hFE.set (by omega), hSE.set hmE rfl (by omega)⟩⟩
      · replace h30 := ne_of_beq_false h30
        have hkE := hk29
        have hmE := hm29
        have hFE := hF29
        have hSE := hS29
        refine ⟨_, _, _, _, _, hkE, ⟨by simp, by omega⟩, fun x _ => congrArg _ (Nat.zero_add x).symm, ?_⟩
        refine ⟨_, _, _, hmE, cputs_by (by simp) (by omega), eqBk_rfl, ?_⟩
        exact ⟨rfl, false, [], 64, _, _, set_same hmE, ⟨by simp, by omega⟩, fun x hx => rfl, ⟨_, rfl, hFE.set (by omega), hSE.set hmE rfl (by omega)⟩⟩
  · replace h14 := of_decide_eq_false h14
    refine brB_f ?_
    refine brB_f ?_
    refine brB_f ?_
    refine ⟨_, s_l01Next_ok B E.2.2 hS0, ?_⟩
    rintro _ G29 ⟨z29, rfl, hz29, hf29, hS29⟩
    have hk29 := hf29.get hk0 (by omega)
    have hm29 := hf29.get hm0 (by omega)
    have hF29 := hF0.trans hf29
    refine ⟨fun h30 => ?_, fun h30 => ?_⟩
    · replace h30 := eq_of_beq h30
      refine ⟨7, _, rfl, by omega, rfl, ?_⟩
      refine ⟨7, _, rfl, by omega, rfl, ?_⟩
      refine ⟨_, _, _, hk29, cput_u (by simp) (by omega), eqBk_rfl, ?_⟩
      have hkE := set_same (B := ⟨false, .by [] 64 (upd w (0 + 7 * 8 + 7 * 1) 1)⟩) hk29
      have hmE := set_other (B := ⟨false, .by [] 64 (upd w (0 + 7 * 8 + 7 * 1) 1)⟩) hm29 (show H.length + 3 ≠ H.length + 2 by omega)
      have hFE := hF29.set (B := ⟨false, .by [] 64 (upd w (0 + 7 * 8 + 7 * 1) 1)⟩) (show H.length ≤ H.length + 3 by omega)
      have hSE := hS29.set (B := ⟨false, .by [] 64 (upd w (0 + 7 * 8 + 7 * 1) 1)⟩) hk29 rfl (by omega)
      refine ⟨_, _, _, _, _, hkE, ⟨by simp, by omega⟩, fun x _ => congrArg _ (Nat.zero_add x).symm, ?_⟩
      refine ⟨_, _, _, hmE, cputs_by (by simp) (by omega), eqBk_rfl, ?_⟩
      exact ⟨rfl, false, [], 64, _, _, set_same hmE, ⟨by simp, by omega⟩, fun x hx => rfl, ⟨_, rfl, hFE.set (by omega), hSE.set hmE rfl (by omega)⟩⟩
    · replace h30 := ne_of_beq_false h30
      have hkE := hk29
      have hmE := hm29
      have hFE := hF29
      have hSE := hS29
      refine ⟨_, _, _, _, _, hkE, ⟨by simp, by omega⟩, fun x _ => congrArg _ (Nat.zero_add x).symm, ?_⟩
      refine ⟨_, _, _, hmE, cputs_by (by simp) (by omega), eqBk_rfl, ?_⟩
      exact ⟨rfl, false, [], 64, _, _, set_same hmE, ⟨by simp, by omega⟩, fun x hx => rfl, ⟨_, rfl, hFE.set (by omega), hSE.set hmE rfl (by omega)⟩⟩

set_option maxHeartbeats 2000000 in
theorem s_l02Pair_ok (B : Bs P ρ) (E : F_s_l02Pair P ρ) {H : List Blk} {s : Nat} (hS : Src H s) :
    CallR P ρ 187 [.pt s 0] H (fun u G => ∃ (p q : Int) (f : By) (p2 q2 : Int) (g : By), u = .tup [.ag [p, q] 522 f, .ag [p2, q2] 522 g] ∧ Fr [s] H G ∧ Src G s) := by
  have hsl := hS.lt
  refine call_of_q B.fn B.mo E.1 rfl (fun hAr hHp => ?_) (by simp [At.lt, hS.lt])
  refine ⟨_, rfl, ?_⟩
  refine ⟨H.length + 1, by simp, ?_⟩
  rw [ap2]
  refine ⟨_, s_l02Spoil_ok B E.2.1 (hS.ext Ext.app), ?_⟩
  rintro _ G7 ⟨p7, q7, f7, rfl, hf7, hS7⟩
  have hF7 : Fr [s] H G7 := Ext.app.fr.trans hf7
  have hl7 := hf7.len hS7.lt
  rw [List.length_append] at hl7
  simp only [List.length_cons, List.length_nil] at hl7
  have hm2 := hf7.get (at_k (i := 0)) (by omega)
  have hm3 := hf7.get (at_k (i := 1)) (by omega)
  refine ⟨_, rfl, ?_⟩
  refine ⟨_, _, _, get_new, cputs_2, eqBk_rfl, ?_⟩
  rw [app_set0]
  refine ⟨_, s_l01Spoil_ok B E.2.2.1 (hS7.ext Ext.app), ?_⟩
  rintro _ G9 ⟨p9, q9, f9, rfl, hf9, hS9⟩
  have hF9 : Fr [s] H G9 := (hF7.trans Ext.app.fr).trans hf9
  have hl9 := hf9.len hS9.lt
  rw [List.length_append] at hl9
  simp only [List.length_cons, List.length_nil] at hl9
  have hm29 := hf9.get (app_old hm2) (by omega)
  have hm39 := hf9.get (app_old hm3) (by omega)
  have hb49 := hf9.get (get_new (H := G7) (B := ⟨false, .by [p7, q7] 522 f7⟩)) (by omega)
  refine ⟨_, rfl, ?_⟩
  refine ⟨_, _, _, get_new, cputs_2, eqBk_rfl, ?_⟩
  rw [app_set0]
  refine ⟨_, s_l01Next_ok B E.2.2.2.1 (hS9.ext Ext.app), ?_⟩
  rintro _ G11 ⟨z11, rfl, hz11, hf11, hS11⟩
  have hF11 : Fr [s] H G11 := (hF9.trans Ext.app.fr).trans hf11
  have hm2E := hf11.get (app_old hm29) (by omega)
  have hm3E := hf11.get (app_old hm39) (by omega)
  have hb4E := hf11.get (app_old hb49) (by omega)
  have hb5E := hf11.get (get_new (H := G9) (B := ⟨false, .by [p9, q9] 522 f9⟩)) (by omega)
  have hFE := hF11
  have hSE := hS11
  refine ⟨fun h13 => ?_, fun h13 => ?_⟩
  · replace h13 := of_decide_eq_true h13
    refine brB_t ?_
    refine ⟨_, _, hb4E, rfl, ?_⟩
    refine brB_t ?_
    refine ⟨_, s_l01Prime_ok B E.2.2.2.2.1 (p := p7), rfl, ?_⟩
    refine brB_t ?_
    refine ⟨fun h17 => ?_, fun h17 => ?_⟩
    · skip
      refine ⟨_, _, hb4E, rfl, ?_⟩
      refine ⟨_, s_l01Next_ok B E.2.2.2.1 hSE, ?_⟩
      rintro _ G21 ⟨z21, rfl, hz21, hf21, hS21⟩
      refine ⟨⟨kept1 hb4E (hf21.get hb4E (by omega)), trivial⟩, ?_⟩
      obtain ⟨x21, rfl⟩ : ∃ x : Nat, z21 = (x : Int) := ⟨z21.toNat, by have := hz21.1; omega⟩
      have hb21 := hz21.2.2 (by omega)
      refine ⟨((1 + x21 : Nat) : Int), (w64_id _ (by omega) (by omega)).trans (by omega), ?_⟩
      refine ⟨_, s_l01Cyclic_ok B E.2.2.2.2.2.1 (p := p7) (n := 1 + x21) (by omega) (by omega), ?_⟩
      rintro _ G23 ⟨⟨f23, rfl⟩, hE23⟩
      have hb523 := hE23 _ _ (hf21.get hb5E (by omega))
      replace hm2E := set_other (B := ⟨false, .by [p7, ((1 + x21 : Nat) : Int)] 522 f23⟩) (hE23 _ _ (hf21.get hm2E (by omega))) (show G9.length ≠ H.length by omega)
      replace hm3E := set_other (B := ⟨false, .by [p7, ((1 + x21 : Nat) : Int)] 522 f23⟩) (hE23 _ _ (hf21.get hm3E (by omega))) (show G9.length ≠ H.length + 1 by omega)
      replace hb4E := set_other (B := ⟨false, .by [p7, ((1 + x21 : Nat) : Int)] 522 f23⟩) (hE23 _ _ (hf21.get hb4E (by omega))) (show G9.length ≠ G7.length by omega)
      replace hb5E := set_same (B := ⟨false, .by [p7, ((1 + x21 : Nat) : Int)] 522 f23⟩) hb523
      replace hFE := ((hFE.trans hf21).trans hE23.fr).set (B := ⟨false, .by [p7, ((1 + x21 : Nat) : Int)] 522 f23⟩) (show H.length ≤ G9.length by omega)
      replace hSE := (hS21.ext hE23).set (B := ⟨false, .by [p7, ((1 + x21 : Nat) : Int)] 522 f23⟩) hb523 rfl (by omega)
      refine ⟨_, _, _, hb523, cputs_2, eqBk_rfl, ?_⟩
      refine ⟨_, s_l01Next_ok B E.2.2.2.1 hSE, ?_⟩
      rintro _ G25 ⟨z25, rfl, hz25, hf25, hS25⟩
      replace hm2E := hf25.get hm2E (by omega)
      replace hm3E := hf25.get hm3E (by omega)
      replace hb4E := hf25.get hb4E (by omega)
      replace hb5E := hf25.get hb5E (by omega)
      replace hFE := hFE.trans hf25
      replace hSE := hS25
      refine ⟨fun h26 => ?_, fun h26 => ?_⟩
      · replace h26 := eq_of_beq h26
        refine ⟨_, _, hb4E, rfl, ?_⟩
        refine ⟨_, s_l01Matrices_ok B E.2.2.2.2.2.2 (p := p7), ?_⟩
        rintro _ G29 ⟨⟨f29, rfl⟩, hE29⟩
        have hb529 := hE29 _ _ hb5E
        replace hm2E := set_other (B := ⟨false, .by [p7, 4] 522 f29⟩) (hE29 _ _ hm2E) (show G9.length ≠ H.length by omega)
        replace hm3E := set_other (B := ⟨false, .by [p7, 4] 522 f29⟩) (hE29 _ _ hm3E) (show G9.length ≠ H.length + 1 by omega)
        replace hb4E := set_other (B := ⟨false, .by [p7, 4] 522 f29⟩) (hE29 _ _ hb4E) (show G9.length ≠ G7.length by omega)
        replace hb5E := set_same (B := ⟨false, .by [p7, 4] 522 f29⟩) hb529
        replace hFE := (hFE.trans hE29.fr).set (B := ⟨false, .by [p7, 4] 522 f29⟩) (show H.length ≤ G9.length by omega)
        replace hSE := (hSE.ext hE29).set (B := ⟨false, .by [p7, 4] 522 f29⟩) hb529 rfl (by omega)
        refine ⟨_, _, _, hb529, cputs_2, eqBk_rfl, ?_⟩
        refine .inl ⟨_, _, _, _, hb4E, ⟨rfl, by omega⟩, ?_⟩
        refine .inl ⟨_, _, _, _, hb5E, ⟨rfl, by omega⟩, ?_⟩
        refine ⟨_, _, _, hm2E, cputs_2, eqBk_rfl, ?_⟩
        refine ⟨⟨kept1 hb5E (set_other hb5E (by omega)), trivial⟩, ?_⟩
        refine ⟨_, _, _, set_other hm3E (by omega), cputs_2, eqBk_rfl, ?_⟩
        exact ⟨rfl, false, _, 522, _, set_other (set_same hm2E) (by omega), ⟨rfl, by omega⟩, false, _, 522, _, set_same (set_other hm3E (by omega)), ⟨rfl, by omega⟩, ⟨_, _, _, _, _, _, rfl, (hFE.set (by omega)).set (by omega), (hSE.set hm2E rfl (by omega)).set (set_other hm3E (by omega)) rfl (by omega)⟩⟩
      · replace h26 := ne_of_beq_false h26
        refine .inl ⟨_, _, _, _, hb4E, ⟨rfl, by omega⟩, ?_⟩
        refine .inl ⟨_, _, _, _, hb5E, ⟨rfl, by omega⟩, ?_⟩
        refine ⟨_, _, _, hm2E, cputs_2, eqBk_rfl, ?_⟩
        refine ⟨⟨kept1 hb5E (set_other hb5E (by omega)), trivial⟩, ?_⟩
        refine ⟨_, _, _, set_other hm3E (by omega), cputs_2, eqBk_rfl, ?_⟩
        exact ⟨rfl, false, _, 522, _, set_other (set_same hm2E) (by omega), ⟨rfl, by omega⟩, false, _, 522, _, set_same (set_other hm3E (by omega)), ⟨rfl, by omega⟩, ⟨_, _, _, _, _, _, rfl, (hFE.set (by omega)).set (by omega), (hSE.set hm2E rfl (by omega)).set (set_other hm3E (by omega)) rfl (by omega)⟩⟩
    · skip
      refine .inl ⟨_, _, _, _, hb4E, ⟨rfl, by omega⟩, ?_⟩
      refine .inl ⟨_, _, _, _, hb5E, ⟨rfl, by omega⟩, ?_⟩
      refine ⟨_, _, _, hm2E, cputs_2, eqBk_rfl, ?_⟩
      refine ⟨⟨kept1 hb5E (set_other hb5E (by omega)), trivial⟩, ?_⟩
      refine ⟨_, _, _, set_other hm3E (by omega), cputs_2, eqBk_rfl, ?_⟩
      exact ⟨rfl, false, _, 522, _, set_other (set_same hm2E) (by omega), ⟨rfl, by omega⟩, false, _, 522, _, set_same (set_other hm3E (by omega)), ⟨rfl, by omega⟩, ⟨_, _, _, _, _, _, rfl, (hFE.set (by omega)).set (by omega), (hSE.set hm2E rfl (by omega)).set (set_other hm3E (by omega)) rfl (by omega)⟩⟩
  · replace h13 := of_decide_eq_false h13
    refine brB_f ?_
    refine brB_f ?_
    refine brB_f ?_
    refine brB_f ?_
    refine .inl ⟨_, _, _, _, hb4E, ⟨rfl, by omega⟩, ?_⟩
    refine .inl ⟨_, _, _, _, hb5E, ⟨rfl, by omega⟩, ?_⟩
    refine ⟨_, _, _, hm2E, cputs_2, eqBk_rfl, ?_⟩
    refine ⟨⟨kept1 hb5E (set_other hb5E (by omega)), trivial⟩, ?_⟩
    refine ⟨_, _, _, set_other hm3E (by omega), cputs_2, eqBk_rfl, ?_⟩
    exact ⟨rfl, false, _, 522, _, set_other (set_same hm2E) (by omega), ⟨rfl, by omega⟩, false, _, 522, _, set_same (set_other hm3E (by omega)), ⟨rfl, by omega⟩, ⟨_, _, _, _, _, _, rfl, (hFE.set (by omega)).set (by omega), (hSE.set hm2E rfl (by omega)).set (set_other hm3E (by omega)) rfl (by omega)⟩⟩

theorem s_DrawUnitMap_ok (B : Bs P ρ) (E : F_s_DrawUnitMap P ρ) {H : List Blk} {a : At} (hC : CB H a) :
    CallR P ρ 180 [a] H (fun u G => ∃ (p q : Int) (f : By) (p2 q2 : Int) (g : By), u = .tup [.ag [p, q] 522 f, .ag [p2, q2] 522 g] ∧ Ext H G) := by
  refine call_of_q B.fn B.mo E.1 rfl (fun hAr hHp => ?_) (by simp only [List.all_cons, List.all_nil, hC.lt]; rfl)
  refine ⟨_, rfl, ?_⟩
  refine ⟨H.length + 1, by simp, ?_⟩
  rw [ap2]
  refine ⟨_, s_l01From_ok B E.2.1 (hC.ext Ext.app), ?_⟩
  rintro _ G8 ⟨rfl, hE8, hS8⟩
  have hl8 : (H ++ [(⟨false, (Zk.by 2 522).bk⟩ : Blk), ⟨false, (Zk.by 2 522).bk⟩]).length = H.length + 2 := by simp
  refine ⟨_, s_l02Pair_ok B E.2.2 hS8, ?_⟩
  rintro _ G9 ⟨p, q, f, p2, q2, g, rfl, hf9, hS9⟩
  have hm2 := hf9.get (hE8 _ _ (at_k (i := 0))) (by omega)
  have hm3 := hf9.get (hE8 _ _ (at_k (i := 1))) (by omega)
  have hX : Ext H G9 := (Ext.app.trans hE8).fr' hf9 (by omega)
  have hl2 := lt_of hm2
  have hl3 := lt_of hm3
  refine ⟨_, rfl, ?_⟩
  refine ⟨G9.length + 1, by simp, ?_⟩
  refine ⟨_, _, _, app_old get_new, cputs_2, eqBk_rfl, ?_⟩
  rw [ap_setA]
  refine ⟨_, _, _, at_k (i := 1), cputs_2, eqBk_rfl, ?_⟩
  rw [app_set]
  refine .inl ⟨_, _, _, _, at_k (i := 0), ⟨rfl, by omega⟩, ?_⟩
  refine .inl ⟨_, _, _, _, at_k (i := 1), ⟨rfl, by omega⟩, ?_⟩
  refine ⟨_, _, _, app_old hm2, cputs_2, eqBk_rfl, ?_⟩
  refine ⟨⟨kept1 (at_k (i := 1)) (set_other (at_k (i := 1)) (by omega)), trivial⟩, ?_⟩
  refine ⟨_, _, _, set_other (app_old hm3) (by omega), cputs_2, eqBk_rfl, ?_⟩
  exact ⟨rfl, false, _, 522, _, set_other (set_same (app_old hm2)) (by omega), ⟨rfl, by omega⟩, false, _, 522, _, set_same (set_other (app_old hm3) (by omega)), ⟨rfl, by omega⟩, ⟨_, _, _, _, _, _, rfl, ((hX.trans Ext.app).set (Nat.le_refl _)).set (by omega)⟩⟩

theorem s_DrawConvolveMaps_ok (B : Bs P ρ) (E : F_s_DrawConvolveMaps P ρ) {H : List Blk} {a : At} (hC : CB H a) :
    CallR P ρ 177 [a] H (fun u G => ∃ (p q : Int) (f : By) (p2 q2 : Int) (g F1 F2 : By), u = .tup [.ag [p, q] 522 f, .ag [p2, q2] 522 g, .ag [] 64 F1, .ag [] 64 F2] ∧ Ext H G) := by
  refine call_of_q B.fn B.mo E.1 rfl (fun hAr hHp => ?_) (by simp only [List.all_cons, List.all_nil, hC.lt]; rfl)
  refine ⟨_, rfl, ?_⟩
  refine ⟨H.length + 1, by simp, ?_⟩
  refine ⟨H.length + 2, by simp, ?_⟩
  refine ⟨H.length + 3, by simp, ?_⟩
  rw [ap4]
  refine ⟨_, s_l01From_ok B E.2.1 (hC.ext Ext.app), ?_⟩
  rintro _ G10 ⟨rfl, hE10, hS10⟩
  generalize hs : (H ++ [(⟨false, (Zk.by 2 522).bk⟩ : Blk), ⟨false, (Zk.by 2 522).bk⟩, ⟨false, (Zk.by 0 64).bk⟩, ⟨false, (Zk.by 0 64).bk⟩]).length = s at hS10
  have hs2 : s = H.length + 4 := by rw [← hs]; simp
  refine ⟨_, s_l02Pair_ok B E.2.2.1 hS10, ?_⟩
  rintro _ G13 ⟨p, q, f, p2, q2, g, rfl, hf13, hS13⟩
  have hX13 : Ext H G13 := (Ext.app.trans hE10).fr' hf13 (by omega)
  have hm2 := hf13.get (hE10 _ _ (at_k (i := 0))) (by omega)
  have hm3 := hf13.get (hE10 _ _ (at_k (i := 1))) (by omega)
  have hm4 := hf13.get (hE10 _ _ (at_k (i := 2))) (by omega)
  have hm5 := hf13.get (hE10 _ _ (at_k (i := 3))) (by omega)
  have hl5 := hS13.lt
  refine ⟨_, rfl, ?_⟩
  refine ⟨G13.length + 1, by simp, ?_⟩
  refine ⟨_, _, _, app_old get_new, cputs_2, eqBk_rfl, ?_⟩
  rw [ap_setA]
  refine ⟨_, _, _, at_k (i := 1), cputs_2, eqBk_rfl, ?_⟩
  rw [app_set]
  refine .inl ⟨_, _, _, _, at_k (i := 0), ⟨rfl, by omega⟩, ?_⟩
  refine .inl ⟨_, _, _, _, at_k (i := 1), ⟨rfl, by omega⟩, ?_⟩
  refine .inl ⟨_, _, _, _, at_k (i := 0), ⟨rfl, by omega⟩, ?_⟩
  refine .inl ⟨_, _, _, _, at_k (i := 1), ⟨rfl, by omega⟩, ?_⟩
  refine .inl ⟨_, _, _, _, at_k (i := 0), ⟨rfl, by omega⟩, ?_⟩
  refine .inl ⟨_, _, _, _, at_k (i := 1), ⟨rfl, by omega⟩, ?_⟩
  refine ⟨_, s_l02DrawMap_ok B E.2.2.2 (p := p) (q := q) (f := f) (p2 := p2) (q2 := q2) (g := g) (hS13.ext Ext.app), ?_⟩
  rintro _ G21 ⟨F1, rfl, hf21, hS21⟩
  have hx7 := hf21.get (at_k (i := 0)) (by omega)
  have hx8 := hf21.get (at_k (i := 1)) (by omega)
  refine ⟨⟨kept1 (at_k (i := 1)) hx8, kept1 (at_k (i := 0)) hx7, kept1 (at_k (i := 1)) hx8, kept1 (at_k (i := 0)) hx7, trivial⟩, ?_⟩
  refine ⟨_, s_l02DrawMap_ok B E.2.2.2 (p := p) (q := q) (f := f) (p2 := p2) (q2 := q2) (g := g) hS21, ?_⟩
  rintro _ G25 ⟨F2, rfl, hf25, hS25⟩
  have hy7 := hf25.get hx7 (by omega)
  have hy8 := hf25.get hx8 (by omega)
  refine ⟨⟨kept1 hx8 hy8, kept1 hx7 hy7, kept1 hx8 hy8, kept1 hx7 hy7, trivial⟩, ?_⟩
  have hX25 : Ext H G25 := ((hX13.trans Ext.app).fr' hf21 (by omega)).fr' hf25 (by omega)
  have hn2 := hf25.get (hf21.get (app_old hm2) (by omega)) (by omega)
  have hn3 := hf25.get (hf21.get (app_old hm3) (by omega)) (by omega)
  have hn4 := hf25.get (hf21.get (app_old hm4) (by omega)) (by omega)
  have hn5 := hf25.get (hf21.get (app_old hm5) (by omega)) (by omega)
  refine ⟨_, _, _, hn2, cputs_2, eqBk_rfl, ?_⟩
  have hw7 := set_other (B := ⟨false, .by [p, q] 522 f⟩) hy7 (show H.length ≠ G13.length + 0 by omega)
  have hw8 := set_other (B := ⟨false, .by [p, q] 522 f⟩) hy8 (show H.length ≠ G13.length + 1 by omega)
  refine ⟨⟨kept1 hy8 hw8, kept1 hy7 hw7, kept1 hy8 hw8, kept1 hy7 hw7, trivial⟩, ?_⟩
  refine ⟨_, _, _, set_other hn3 (by omega), cputs_2, eqBk_rfl, ?_⟩
  refine ⟨_, _, _, set_other (set_other hn4 (by omega)) (by omega), cputs_by (by simp) (by omega), eqBk_rfl, ?_⟩
  refine ⟨_, _, _, set_other (set_other (set_other hn5 (by omega)) (by omega)) (by omega), cputs_by (by simp) (by omega), eqBk_rfl, ?_⟩
  exact ⟨rfl, false, _, 522, _, set_other (set_other (set_other (set_same hn2) (by omega)) (by omega)) (by omega), ⟨rfl, by omega⟩, false, _, 522, _, set_other (set_other (set_same (set_other hn3 (by omega))) (by omega)) (by omega), ⟨rfl, by omega⟩,
    false, [], 64, _, F1, set_other (set_same (set_other (set_other hn4 (by omega)) (by omega))) (by omega), ⟨by simp, by omega⟩, fun x hx => by simp [spl, hx], false, [], 64, _, F2, set_same (set_other (set_other (set_other hn5 (by omega)) (by omega)) (by omega)), ⟨by simp, by omega⟩, fun x hx => by simp [spl, hx],
    ⟨_, _, _, _, _, _, _, _, rfl, (((hX25.set (by omega)).set (by omega)).set (by omega)).set (by omega)⟩⟩

end Hf
namespace Hf
open Go Classical
def zqS (p : Int) : Setoid Int := ⟨cg p, ⟨fun _ => rfl, fun h => Eq.symm h, fun h h' => Eq.trans h h'⟩⟩
def Zq (p : Int) : Type := Quotient (zqS p)
section
variable {p : Int} {n m : Nat}
def zc (a : Int) : Zq p := Quotient.mk (zqS p) a
theorem zc_eq {a b : Int} : (zc a : Zq p) = zc b ↔ cg p a b := ⟨fun h => Quotient.exact h, fun h => Quotient.sound h⟩
def zadd (a b : Zq p) : Zq p := Quotient.lift₂ (fun a b => zc (a + b)) (fun _ _ _ _ h h' => zc_eq.2 (cg_add h h')) a b
def zmul (a b : Zq p) : Zq p := Quotient.lift₂ (fun a b => zc (a * b)) (fun _ _ _ _ h h' => zc_eq.2 (cg_mul h h')) a b
instance : Add (Zq p) := ⟨zadd⟩
instance : Mul (Zq p) := ⟨zmul⟩
theorem zc_add {a b : Int} : (zc (a + b) : Zq p) = zc a + zc b := rfl
theorem zc_mul {a b : Int} : (zc (a * b) : Zq p) = zc a * zc b := rfl
theorem zi {q : Zq p → Prop} (h : ∀ a : Int, q (zc a)) (x : Zq p) : q x := Quotient.ind h x
theorem z_ac (a b : Zq p) : a + b = b + a := by
  induction a using zi with | _ a => induction b using zi with | _ b => rw [← zc_add, ← zc_add, Int.add_comm]
theorem z_aa (a b c : Zq p) : a + b + c = a + (b + c) := by
  induction a using zi with | _ a => induction b using zi with | _ b => induction c using zi with | _ c => simp only [← zc_add]; rw [Int.add_assoc]
theorem z_mc (a b : Zq p) : a * b = b * a := by
  induction a using zi with | _ a => induction b using zi with | _ b => rw [← zc_mul, ← zc_mul, Int.mul_comm]
theorem z_ma (a b c : Zq p) : a * b * c = a * (b * c) := by
  induction a using zi with | _ a => induction b using zi with | _ b => induction c using zi with | _ c => simp only [← zc_mul]; rw [Int.mul_assoc]
theorem z_md (a b c : Zq p) : a * (b + c) = a * b + a * c := by
  induction a using zi with | _ a => induction b using zi with | _ b => induction c using zi with | _ c => simp only [← zc_mul, ← zc_add]; rw [Int.mul_add]
theorem z_m0 (a : Zq p) : a * zc 0 = zc 0 := by
  induction a using zi with | _ a => rw [← zc_mul, Int.mul_zero]
theorem z_a0 (a : Zq p) : a + zc 0 = a := by
  induction a using zi with | _ a => rw [← zc_add, Int.add_zero]
theorem z_0a (a : Zq p) : zc 0 + a = a := by rw [z_ac, z_a0]
theorem z_1m (a : Zq p) : zc 1 * a = a := by
  induction a using zi with | _ a => rw [← zc_mul, Int.one_mul]
theorem z_0m (a : Zq p) : zc 0 * a = zc 0 := by rw [z_mc, z_m0]
theorem z_ml (a b c : Zq p) : a * (b * c) = b * (a * c) := by rw [← z_ma, z_mc a b, z_ma]
/-- a sum over n places -/
def sf : {n : Nat} → (Fin n → Zq p) → Zq p
  | 0, _ => zc 0
  | n + 1, F => sf (fun i : Fin n => F i.castSucc) + F (Fin.last n)
theorem sf_sm {x : Nat → Int} : ∀ {n : Nat}, (zc (sm n x) : Zq p) = sf fun i : Fin n => zc (x i.val)
  | 0 => rfl
  | n + 1 => by rw [sm, zc_add, sf_sm]; rfl
theorem sf_0 : ∀ {n : Nat}, (sf fun _ : Fin n => (zc 0 : Zq p)) = zc 0
  | 0 => rfl
  | n + 1 => by rw [sf, sf_0, z_a0]
theorem sf_add : ∀ {n : Nat} {F G : Fin n → Zq p}, sf (fun i => F i + G i) = sf F + sf G
  | 0, _, _ => (z_a0 _).symm
  | n + 1, F, G => by
    simp only [sf]
    rw [sf_add]
    rw [z_aa, z_aa, ← z_aa (sf fun i => G i.castSucc), z_ac (sf fun i => G i.castSucc), z_aa]
theorem sf_mul {c : Zq p} : ∀ {n : Nat} {F : Fin n → Zq p}, sf (fun i => c * F i) = c * sf F
  | 0, _ => (z_m0 _).symm
  | n + 1, F => by simp only [sf]; rw [sf_mul, z_md]
theorem sf_mulr {c : Zq p} {F : Fin n → Zq p} : sf (fun i => F i * c) = sf F * c := by
  rw [z_mc, ← sf_mul]; exact congrArg sf (funext fun i => z_mc _ _)
theorem sf_sw : ∀ {n m : Nat} {F : Fin n → Fin m → Zq p}, sf (fun i => sf fun j => F i j) = sf fun j => sf fun i => F i j
  | 0, m, F => by simp only [sf]; exact sf_0.symm
  | n + 1, m, F => by
    simp only [sf]
    rw [sf_sw, ← sf_add]
theorem sf_dl : ∀ {n : Nat} {i : Fin n} {F : Fin n → Zq p}, sf (fun y => (if i = y then zc 1 else zc 0) * F y) = F i
  | 0, i, _ => i.elim0
  | n + 1, i, F => by
    simp only [sf]
    rcases Nat.lt_or_ge i.val n with h | h
    · have e : i = Fin.castSucc ⟨i.val, h⟩ := rfl
      rw [e, if_neg (fun q => by have := congrArg Fin.val q; simp at this; omega), z_0m, z_a0]
      rw [← sf_dl (i := (⟨i.val, h⟩ : Fin n)) (F := fun y => F y.castSucc)]
      refine congrArg sf (funext fun y => ?_)
      congr 1
      by_cases hy : (⟨i.val, h⟩ : Fin n) = y
      · rw [if_pos hy, if_pos (congrArg Fin.castSucc hy)]
      · rw [if_neg hy, if_neg (fun q => hy (Fin.castSucc_inj.1 q))]
    · have e : i = Fin.last n := by apply Fin.ext; have := i.isLt; simp; omega
      subst e
      rw [if_pos rfl, z_1m]
      have : (sf fun y : Fin n => (if Fin.last n = y.castSucc then (zc 1 : Zq p) else zc 0) * F y.castSucc) = zc 0 := by
        refine Eq.trans (congrArg sf (funext fun y => ?_)) sf_0
        rw [if_neg (fun q => by have := congrArg Fin.val q; have := y.isLt; simp at *; omega), z_0m]
      rw [this, z_0a]
theorem sf_congr {F G : Fin n → Zq p} (h : ∀ i, F i = G i) : sf F = sf G := congrArg sf (funext h)

/-- linear: over one place, over two -/
def l1 (c : Fin n → Zq p) (F : Fin n → Zq p) : Zq p := sf fun x => c x * F x
def l2 (c : Fin n → Fin n → Zq p) (F : Fin n → Fin n → Zq p) : Zq p := sf fun x => sf fun y => c x y * F x y
variable {c d : Fin n → Zq p} {c2 d2 : Fin n → Fin n → Zq p}
theorem l1_m {r : Zq p} {F : Fin n → Zq p} : l1 c (fun x => r * F x) = r * l1 c F := by
  unfold l1; rw [← sf_mul]; exact sf_congr fun x => z_ml _ _ _
theorem l2_m {r : Zq p} {F : Fin n → Fin n → Zq p} : l2 c2 (fun x y => r * F x y) = r * l2 c2 F := by
  unfold l2; rw [← sf_mul]; refine sf_congr fun x => ?_; rw [← sf_mul]; exact sf_congr fun y => z_ml _ _ _
theorem l1_sf {F : Fin n → Fin m → Zq p} : l1 c (fun x => sf fun y => F x y) = sf fun y => l1 c fun x => F x y := by
  unfold l1; rw [← sf_sw]; exact sf_congr fun x => sf_mul.symm
theorem l2_sf {F : Fin n → Fin n → Fin m → Zq p} : l2 c2 (fun x y => sf fun z => F x y z) = sf fun z => l2 c2 fun x y => F x y z := by
  unfold l2; exact (sf_congr fun x => (sf_congr fun y => sf_mul.symm).trans sf_sw).trans sf_sw
/-- one behind the other -/
theorem l11 {D : Fin n → Fin n → Zq p} {F : Fin n → Zq p} : l1 c (fun x => l1 (D x) F) = l1 (fun y => sf fun x => c x * D x y) F := by
  show l1 c (fun x => sf fun y => D x y * F y) = sf fun y => (sf fun x => c x * D x y) * F y
  rw [l1_sf]; refine sf_congr fun y => ?_
  rw [← sf_mulr]; exact sf_congr fun x => (z_ma _ _ _).symm
theorem l12 {D : Fin n → Fin n → Fin n → Zq p} {F : Fin n → Fin n → Zq p} : l1 c (fun x => l2 (D x) F) = l2 (fun y z => sf fun x => c x * D x y z) F := by
  show l1 c (fun x => sf fun y => sf fun z => D x y z * F y z) = sf fun y => sf fun z => (sf fun x => c x * D x y z) * F y z
  rw [l1_sf]; refine sf_congr fun y => ?_
  rw [l1_sf]; refine sf_congr fun z => ?_
  rw [← sf_mulr]; exact sf_congr fun x => (z_ma _ _ _).symm
theorem l1_dl {i : Fin n} {F : Fin n → Zq p} : l1 (fun y => if i = y then zc 1 else zc 0) F = F i := sf_dl
/-- two twos, the second at the first's first place -/
theorem l2l {D : Fin n → Fin n → Fin n → Zq p} {F : Fin n → Fin n → Fin n → Zq p} : l2 c2 (fun j k => l2 (D j) fun a b => F a b k) = sf fun a => sf fun b => sf fun k => (sf fun j => c2 j k * D j a b) * F a b k := by
  show l2 c2 (fun j k => sf fun a => sf fun b => D j a b * F a b k) = _
  rw [l2_sf]; refine sf_congr fun a => ?_
  rw [l2_sf]; refine sf_congr fun b => ?_
  show (sf fun j => sf fun k => c2 j k * (D j a b * F a b k)) = _
  rw [sf_sw]; refine sf_congr fun k => ?_
  rw [← sf_mulr]; exact sf_congr fun j => (z_ma _ _ _).symm
/-- at the second place -/
theorem l2r {D : Fin n → Fin n → Fin n → Zq p} {F : Fin n → Fin n → Fin n → Zq p} : l2 c2 (fun j k => l2 (D k) fun a b => F j a b) = sf fun j => sf fun a => sf fun b => (sf fun k => c2 j k * D k a b) * F j a b := by
  show (sf fun j => sf fun k => c2 j k * l2 (D k) fun a b => F j a b) = _
  refine sf_congr fun j => ?_
  show l1 (c2 j) (fun k => l2 (D k) fun a b => F j a b) = _
  rw [l12]; rfl
end
end Hf
namespace Hf
open Go Classical
section
variable {p : Int} {n : Nat}
theorem ou2 {F : Fin n → Fin n → Fin n → Zq p} : (sf fun a => sf fun b => sf fun x => F a b x) = sf fun x => sf fun a => sf fun b => F a b x := (sf_congr fun a => sf_sw).trans sf_sw
/-- the tables of a Hopf algebra, as numbers modulo p -/
structure HA (p : Int) (n : Nat) where
  m : Fin n → Fin n → Fin n → Zq p
  d : Fin n → Fin n → Fin n → Zq p
  u : Fin n → Zq p
  e : Fin n → Zq p
  s : Fin n → Fin n → Zq p
  as : ∀ i j k y, (sf fun x => m i j x * m x k y) = sf fun x => m j k x * m i x y
  ul : ∀ i y, (sf fun x => u x * m x i y) = if i = y then zc 1 else zc 0
  ur : ∀ i y, (sf fun x => u x * m i x y) = if i = y then zc 1 else zc 0
  ca : ∀ i j k l, (sf fun a => d i a l * d a j k) = sf fun a => d i j a * d a k l
  cl : ∀ i x, (sf fun j => e j * d i j x) = if i = x then zc 1 else zc 0
  cr : ∀ i j, (sf fun k => e k * d i j k) = if i = j then zc 1 else zc 0
  md : ∀ i j y z, (sf fun x => m i j x * d x y z) = sf fun a => sf fun b => m a b y * sf fun c => sf fun q => d i a c * d j b q * m c q z
  me : ∀ i j, (sf fun k => e k * m i j k) = e i * e j
  u1 : (sf fun k => e k * u k) = zc 1
  ud : ∀ y z, (sf fun x => u x * d x y z) = u y * u z
  s1 : ∀ i y, (sf fun j => sf fun k => d i j k * sf fun a => s j a * m a k y) = e i * u y
  s2 : ∀ i y, (sf fun j => sf fun k => d i j k * sf fun a => s k a * m j a y) = e i * u y
namespace HA
variable (A : HA p n)
def M (i j : Fin n) (F : Fin n → Zq p) : Zq p := l1 (A.m i j) F
def D (i : Fin n) (F : Fin n → Fin n → Zq p) : Zq p := l2 (A.d i) F
def U (F : Fin n → Zq p) : Zq p := l1 A.u F
def N (h j : Fin n) (F : Fin n → Zq p) : Zq p := l1 (fun y => A.m h y j) F
def B (y : Fin n) (F : Fin n → Fin n → Zq p) : Zq p := l2 (fun j k => A.d j y k) F
variable {A} {i j k h x y z : Fin n} {F : Fin n → Zq p} {F2 : Fin n → Fin n → Zq p} {F3 : Fin n → Fin n → Fin n → Zq p} {r : Zq p}
variable (A) in
def be (X : Fin n → Fin n → Zq p) (x y : Fin n) : Zq p := A.B y fun j k => A.M x k fun w => X w j
variable (A) in
variable {X : Fin n → Fin n → Zq p}
/-- the dual's tables -/
def dual (A : HA p n) : HA p n where
  m i j k := A.d k i j
  d i j k := A.m j k i
  u := A.e
  e := A.u
  s i j := A.s j i
  as i j k y := by
    rw [sf_congr fun x => z_mc (A.d x i j) (A.d y x k), sf_congr fun x => z_mc (A.d x j k) (A.d y i x)]
    exact A.ca y i j k
  ul i y := (A.cl y i).trans (by simp only [eq_comm])
  ur i y := (A.cr y i).trans (by simp only [eq_comm])
  ca i j k l := by
    rw [sf_congr fun x => z_mc (A.m x l i) (A.m j k x), sf_congr fun x => z_mc (A.m j x i) (A.m k l x)]
    exact A.as j k l i
  cl i x := (A.ul x i).trans (by simp only [eq_comm])
  cr i j := (A.ur j i).trans (by simp only [eq_comm])
  md i j y z := by
    rw [sf_congr fun x => z_mc (A.d x i j) (A.m y z x), A.md]
    simp only [← sf_mul]
    refine sf_congr fun a => ?_
    rw [sf_sw]
    refine sf_congr fun b => sf_congr fun c => sf_congr fun q => ?_
    simp only [z_mc, z_ml, z_ma]
  me i j := A.ud i j
  u1 := by rw [sf_congr fun k => z_mc (A.u k) (A.e k)]; exact A.u1
  ud y z := A.me y z
  s1 i y := by
    rw [z_mc, ← A.s1 y i]
    simp only [← sf_mul]
    refine ou2.trans (sf_congr fun a => sf_sw.trans (sf_congr fun k => sf_congr fun j => ?_))
    simp only [z_mc, z_ml, z_ma]
  s2 i y := by
    rw [z_mc, ← A.s2 y i]
    simp only [← sf_mul]
    refine sf_congr fun j => sf_sw.trans (sf_congr fun a => sf_congr fun k => ?_)
    simp only [z_mc, z_ml, z_ma]
end HA
end
end Hf
namespace Hf
open Go Classical
theorem vecE {N : Nat} {p : Int} {x y : Nat → Int} (hp : 1 ≤ p) (hp2 : p ≤ 256) (h : vec N p x = vec N p y) {k : Nat} (hk : k < N) : cg p (x k) (y k) := by
  have e := cg_vec (x := x) hp hp2 hk
  rw [h] at e
  exact e.symm.trans (cg_vec hp hp2 hk)
theorem vecE' {N : Nat} {p : Int} {x : Nat → Int} {g : By} (hp : 1 ≤ p) (hp2 : p ≤ 256) (h : vec N p x = g) {k : Nat} (hk : k < N) : cg p (x k) (bz g k) := by
  rw [← h]; exact (cg_vec hp hp2 hk).symm
theorem prd_r {n o : Nat} {f v : By} {k y : Nat} (hk : k < n) : prd n f o v (bas k) y = sm n fun i => bz v i * bz f (o + i * 64 + k * 8 + y) := by
  unfold prd
  refine sm_congr fun i _ => ?_
  rw [← sm_bas (X := fun j => bz f (o + i * 64 + j * 8 + y)) hk, ← sm_mul]
  exact sm_congr fun j _ => Int.mul_assoc _ _ _
theorem prd_l {n o : Nat} {f w : By} {k y : Nat} (hk : k < n) : prd n f o (bas k) w y = sm n fun j => bz w j * bz f (o + k * 64 + j * 8 + y) := by
  unfold prd
  rw [← sm_bas (X := fun i => sm n fun j => bz w j * bz f (o + i * 64 + j * 8 + y)) hk]
  refine sm_congr fun i _ => ?_
  rw [← sm_mul]
  exact sm_congr fun j _ => Int.mul_assoc _ _ _
theorem zc_bas {p : Int} {n : Nat} {i y : Fin n} : (zc (bz (bas i.val) y.val) : Zq p) = if i = y then zc 1 else zc 0 := by
  by_cases h : i = y
  · subst h; rw [if_pos rfl, one_bz (by unfold bas; rw [if_pos rfl])]
  · rw [if_neg h, bz_eq0.2 (by unfold bas; rw [if_neg fun q => h (Fin.ext q.symm)])]
theorem Cog.coa {p : Int} {n : Nat} {f : By} (h : Cog p n f) {i j k l : Nat} (hi : i < n) (hj : j < n) (hk : k < n) (hl : l < n) : Coa p n f i j k l := by
  have h1 : i * n + j + 1 ≤ n * n := by
    have := Nat.mul_le_mul_right n (show i + 1 ≤ n by omega)
    rw [Nat.add_mul, Nat.one_mul] at this; omega
  have h2 : (i * n + j) * n + k + 1 ≤ n * n * n := by
    have := Nat.mul_le_mul_right n h1
    rw [Nat.add_mul, Nat.one_mul] at this; omega
  have h3 : ((i * n + j) * n + k) * n + l + 1 ≤ n * n * n * n := by
    have := Nat.mul_le_mul_right n h2
    rw [Nat.add_mul, Nat.one_mul] at this; omega
  have q := h.2.2 (((i * n + j) * n + k) * n + l) (by rw [Int.toNat_natCast]; omega)
  unfold CoaT at q
  rw [Int.toNat_natCast] at q
  have e1 : (((i * n + j) * n + k) * n + l) / n = (i * n + j) * n + k := by
    rw [Nat.mul_comm, Nat.mul_add_div (by omega), Nat.div_eq_of_lt hl, Nat.add_zero]
  have e2 : ((i * n + j) * n + k) / n = i * n + j := by
    rw [Nat.mul_comm, Nat.mul_add_div (by omega), Nat.div_eq_of_lt hk, Nat.add_zero]
  have e3 : (i * n + j) / n = i := by
    rw [Nat.mul_comm, Nat.mul_add_div (by omega), Nat.div_eq_of_lt hj, Nat.add_zero]
  have m1 : (((i * n + j) * n + k) * n + l) % n = l := by rw [Nat.mul_comm, Nat.mul_add_mod, Nat.mod_eq_of_lt hl]
  have m2 : ((i * n + j) * n + k) % n = k := by rw [Nat.mul_comm, Nat.mul_add_mod, Nat.mod_eq_of_lt hk]
  have m3 : (i * n + j) % n = j := by rw [Nat.mul_comm, Nat.mul_add_mod, Nat.mod_eq_of_lt hj]
  rw [← Nat.div_div_eq_div_mul, ← Nat.div_div_eq_div_mul, e1, e2, e3, m1, m2, m3] at q
  exact q

section
variable {p : Int} {n : Nat} {f : By}
theorem bz_sh' {o x : Nat} : bz (sh f o) x = bz f (o + x) := rfl
end
end Hf
namespace Hf
open Go Classical
structure AL (p : Int) (N : Nat) where
  m : Fin N → Fin N → Fin N → Zq p
  u : Fin N → Zq p
  as : ∀ i j k y, (sf fun x => m i j x * m x k y) = sf fun x => m j k x * m i x y
  ul : ∀ i y, (sf fun x => u x * m x i y) = if i = y then zc 1 else zc 0
  ur : ∀ i y, (sf fun x => u x * m i x y) = if i = y then zc 1 else zc 0
structure CO (p : Int) (n : Nat) where
  d : Fin n → Fin n → Fin n → Zq p
  e : Fin n → Zq p
  ca : ∀ i j k l, (sf fun a => d i a l * d a j k) = sf fun a => d i j a * d a k l
  cl : ∀ i x, (sf fun j => e j * d i j x) = if i = x then zc 1 else zc 0
  cr : ∀ i j, (sf fun k => e k * d i j k) = if i = j then zc 1 else zc 0
section
variable {p : Int} {n m : Nat}
def alOf {f : By} (hp1 : 1 ≤ p) (hp2 : p ≤ 256) (hm : m ≤ 8) (hA : Alg p m f) : AL p m := by
  refine ⟨fun i j k => zc (bz f (10 + i.val * 64 + j.val * 8 + k.val)), fun k => zc (bz f (2 + k.val)), ?_, ?_, ?_⟩
  · intro i j k y
    have q := zc_eq.2 (vecE hp1 hp2 (hA.2.2 i.val j.val k.val (by simp) (by simp) (by simp)) (k := y.val) (by omega))
    rw [Int.toNat_natCast, prd_r k.isLt, prd_l i.isLt] at q
    simp only [sf_sm, zc_mul, bz_sh'] at q
    exact q
  · intro i y
    have q := zc_eq.2 (vecE' hp1 hp2 (hA.2.1 i.val (by omega)).1 (k := y.val) (by omega))
    rw [Int.toNat_natCast, prd_r i.isLt, zc_bas] at q
    simp only [sf_sm, zc_mul, bz_sh'] at q
    exact q
  · intro i y
    have q := zc_eq.2 (vecE' hp1 hp2 (hA.2.1 i.val (by omega)).2 (k := y.val) (by omega))
    rw [Int.toNat_natCast, prd_l i.isLt, zc_bas] at q
    simp only [sf_sm, zc_mul, bz_sh'] at q
    exact q
def coOf {f : By} (hp1 : 1 ≤ p) (hp2 : p ≤ 256) (hn : n ≤ 8) (hC : Cog p n f) : CO p n := by
  refine ⟨fun i j k => zc (bz f (10 + i.val * 64 + j.val * 8 + k.val)), fun k => zc (bz f (2 + k.val)), ?_, ?_, ?_⟩
  · intro i j k l
    have q : cg p (coL n f i.val j.val k.val l.val) (coR n f i.val j.val k.val l.val) := hC.coa i.isLt j.isLt k.isLt l.isLt
    have q := zc_eq.2 q
    unfold coL coR at q
    simp only [sf_sm, zc_mul] at q
    exact q
  · intro i x
    have q := zc_eq.2 (vecE' hp1 hp2 (hC.2.1 i.val (by simp)).1 (k := x.val) (by omega))
    rw [Int.toNat_natCast, zc_bas] at q
    unfold cuL at q
    simp only [sf_sm, zc_mul] at q
    exact q
  · intro i j
    have q := hC.2.1 i.val (by simp)
    rw [Int.toNat_natCast] at q
    have q := zc_eq.2 (vecE' hp1 hp2 q.2 (k := j.val) (by omega))
    rw [zc_bas] at q
    unfold cuR at q
    simp only [sf_sm, zc_mul] at q
    exact q
variable {A : AL p m} {C : CO p n}
/-! ### linear, over places of either kind -/
theorem x1_m {c : Fin n → Zq p} {r : Zq p} {F : Fin n → Zq p} : l1 c (fun x => F x * r) = l1 c F * r := by
  unfold l1; rw [← sf_mulr]; exact sf_congr fun x => (z_ma _ _ _).symm
theorem x2_m {c : Fin n → Fin n → Zq p} {r : Zq p} {F : Fin n → Fin n → Zq p} : l2 c (fun x y => F x y * r) = l2 c F * r := by
  unfold l2; rw [← sf_mulr]; refine sf_congr fun x => ?_; rw [← sf_mulr]; exact sf_congr fun y => (z_ma _ _ _).symm
theorem x11 {c : Fin n → Zq p} {d : Fin m → Zq p} {F : Fin n → Fin m → Zq p} : l1 c (fun x => l1 d fun y => F x y) = l1 d fun y => l1 c fun x => F x y := by
  show l1 c (fun x => sf fun y => d y * F x y) = sf fun y => d y * l1 c fun x => F x y
  rw [l1_sf]; exact sf_congr fun y => l1_m
theorem x21 {c : Fin n → Fin n → Zq p} {d : Fin m → Zq p} {F : Fin n → Fin n → Fin m → Zq p} : l2 c (fun w x => l1 d fun y => F w x y) = l1 d fun y => l2 c fun w x => F w x y := by
  show l2 c (fun w x => sf fun y => d y * F w x y) = sf fun y => d y * l2 c fun w x => F w x y
  rw [l2_sf]; exact sf_congr fun y => l2_m
/-- what is made of a sum -/
theorem y2 {c : Fin n → Fin n → Zq p} {T : Fin n → Fin n → Fin m → Zq p} {F : Fin m → Zq p} : l1 (fun y => l2 c fun j k => T j k y) F = l2 c fun j k => l1 (T j k) F := by
  show (sf fun y => l2 c (fun j k => T j k y) * F y) = l2 c fun j k => sf fun y => T j k y * F y
  rw [l2_sf]; exact sf_congr fun y => x2_m.symm
theorem y1 {c : Fin n → Zq p} {T : Fin n → Fin m → Zq p} {F : Fin m → Zq p} : l1 (fun y => l1 c fun j => T j y) F = l1 c fun j => l1 (T j) F := by
  show (sf fun y => l1 c (fun j => T j y) * F y) = l1 c fun j => sf fun y => T j y * F y
  rw [l1_sf]; exact sf_congr fun y => x1_m.symm
theorem l1_at {X : Fin m → Zq p} {y : Fin m} : l1 X (fun a => if y = a then zc 1 else zc 0) = X y := by
  show (sf fun a => X a * (if y = a then zc 1 else zc 0)) = X y
  exact (sf_congr fun a => z_mc _ _).trans sf_dl
/-! ### convolution -/
def AL.M (A : AL p m) (i j : Fin m) (F : Fin m → Zq p) : Zq p := l1 (A.m i j) F
def CO.D (C : CO p n) (i : Fin n) (F : Fin n → Fin n → Zq p) : Zq p := l2 (C.d i) F
def cnv (C : CO p n) (A : AL p m) (F G : Fin n → Fin m → Zq p) (i : Fin n) (y : Fin m) : Zq p := l2 (C.d i) fun j k => l1 (F j) fun a => l1 (G k) fun b => A.m a b y
def unm (C : CO p n) (A : AL p m) (i : Fin n) (y : Fin m) : Zq p := C.e i * A.u y
theorem M_as' {i j k : Fin m} {F : Fin m → Zq p} : A.M i j (fun x => A.M x k F) = A.M j k fun x => A.M i x F := by
  unfold AL.M
  rw [l11, l11]
  exact congrArg (fun c => l1 c F) (funext fun y => A.as i j k y)
theorem U_l' {i : Fin m} {F : Fin m → Zq p} : l1 A.u (fun x => A.M x i F) = F i := by
  unfold AL.M
  rw [l11]
  exact (congrArg (fun c => l1 c F) (funext fun y => A.ul i y)).trans l1_dl
theorem U_r' {i : Fin m} {F : Fin m → Zq p} : l1 A.u (fun x => A.M i x F) = F i := by
  unfold AL.M
  rw [l11]
  exact (congrArg (fun c => l1 c F) (funext fun y => A.ur i y)).trans l1_dl
theorem D_a' {i : Fin n} {F3 : Fin n → Fin n → Fin n → Zq p} : C.D i (fun j k => C.D j fun a b => F3 a b k) = C.D i fun j k => C.D k fun a b => F3 j a b := by
  unfold CO.D
  rw [l2l, l2r]
  exact sf_congr fun a => sf_congr fun b => sf_congr fun c => by rw [C.ca]
theorem D_l' {i : Fin n} {F : Fin n → Zq p} : C.D i (fun j k => C.e j * F k) = F i := by
  show (sf fun j => sf fun k => C.d i j k * (C.e j * F k)) = F i
  rw [sf_sw]
  refine (sf_congr fun k => ?_).trans (sf_dl (i := i) (F := F))
  rw [← C.cl i k, ← sf_mulr]
  exact sf_congr fun j => by rw [z_ml, z_ma]
theorem D_r' {i : Fin n} {F : Fin n → Zq p} : C.D i (fun j k => C.e k * F j) = F i := by
  show (sf fun j => sf fun k => C.d i j k * (C.e k * F j)) = F i
  refine (sf_congr fun k => ?_).trans (sf_dl (i := i) (F := F))
  rw [← C.cr i k, ← sf_mulr]
  exact sf_congr fun j => by rw [z_ml, z_ma]
variable {F G K : Fin n → Fin m → Zq p}
theorem cnv_l {i : Fin n} {h : Fin m → Zq p} : l1 (cnv C A F G i) h = C.D i fun j k => l1 (F j) fun a => l1 (G k) fun b => A.M a b h := by
  unfold cnv CO.D AL.M
  rw [y2]
  refine congrArg (l2 (C.d i)) (funext fun j => funext fun k => ?_)
  rw [y1]
  refine congrArg (l1 (F j)) (funext fun a => ?_)
  rw [y1]
theorem unm_l {i : Fin n} {h : Fin m → Zq p} : l1 (unm C A i) h = C.e i * l1 A.u h := by
  unfold unm l1; rw [← sf_mul]; exact sf_congr fun x => z_ma _ _ _
theorem cnv_as {i : Fin n} {y : Fin m} : cnv C A (cnv C A F G) K i y = cnv C A F (cnv C A G K) i y := by
  rw [← l1_at (X := cnv C A (cnv C A F G) K i), ← l1_at (X := cnv C A F (cnv C A G K) i)]
  generalize (fun a => if y = a then (zc 1 : Zq p) else zc 0) = h
  rw [cnv_l, cnv_l]
  have e1 : ∀ j k, l1 (cnv C A F G j) (fun a => l1 (K k) fun b => A.M a b h) = C.D j fun u v => l1 (F u) fun c => l1 (G v) fun e => l1 (K k) fun b => A.M e b fun a => A.M c a h := fun j k => by
    rw [cnv_l]
    refine congrArg (C.D j) (funext fun u => funext fun v => congrArg (l1 (F u)) (funext fun c => congrArg (l1 (G v)) (funext fun e => ?_)))
    show l1 (A.m c e) (fun a => l1 (K k) fun b => A.M a b h) = _
    rw [x11]
    exact congrArg (l1 (K k)) (funext fun b => M_as')
  have e2 : ∀ j k, l1 (F j) (fun c => l1 (cnv C A G K k) fun a => A.M c a h) = C.D k fun u v => l1 (F j) fun c => l1 (G u) fun e => l1 (K v) fun b => A.M e b fun a => A.M c a h := fun j k => by
    unfold CO.D
    rw [x21]
    refine congrArg (l1 (F j)) (funext fun c => ?_)
    exact cnv_l
  simp only [e1, e2]
  exact D_a'
theorem cnv_u {i : Fin n} {y : Fin m} : cnv C A (unm C A) F i y = F i y := by
  rw [← l1_at (X := cnv C A (unm C A) F i), ← l1_at (X := F i)]
  generalize (fun a => if y = a then (zc 1 : Zq p) else zc 0) = h
  rw [cnv_l]
  have e : ∀ j k, l1 (unm C A j) (fun a => l1 (F k) fun b => A.M a b h) = C.e j * l1 (F k) h := fun j k => by
    rw [unm_l, x11]
    exact congrArg (fun q => C.e j * l1 (F k) q) (funext fun b => U_l')
  simp only [e]
  exact D_l' (F := fun k => l1 (F k) h)
theorem cnv_v {i : Fin n} {y : Fin m} : cnv C A F (unm C A) i y = F i y := by
  rw [← l1_at (X := cnv C A F (unm C A) i), ← l1_at (X := F i)]
  generalize (fun a => if y = a then (zc 1 : Zq p) else zc 0) = h
  rw [cnv_l]
  have e : ∀ j k, l1 (F j) (fun a => l1 (unm C A k) fun b => A.M a b h) = C.e k * l1 (F j) h := fun j k => by
    simp only [unm_l]
    rw [l1_m]
    exact congrArg (fun q => C.e k * l1 (F j) q) (funext fun b => U_r')
  simp only [e]
  exact D_r' (F := fun k => l1 (F k) h)
end
section
variable {p : Int} {n m : Nat} {f g F G K : By}
def cvT (p : Int) (m : Nat) (f g F G : By) (i j k y : Nat) : Int := bz f (10 + i * 64 + j * 8 + k) * bz (vec 8 p (prd m g 10 (sh F (j * 8)) (sh G (k * 8)))) y
def cvS (p : Int) (n m : Nat) (f g F G : By) (i j k y : Nat) : Int := (sm j fun j' => sm n fun k' => cvT p m f g F G i j' k' y) + sm k fun k' => cvT p m f g F G i j k' y
/-- row i, j columns and k entries of the next one done -/
def cvW (p : Int) (n m : Nat) (f g F G : By) (i j k : Nat) : By := vec 8 p (cvS p n m f g F G i j k)
def cvF (p : Int) (n m : Nat) (f g F G : By) : By := fun x => if x / 8 < n then cvW p n m f g F G (x / 8) n 0 (x % 8) else 0
theorem cvW_0 {i : Nat} : cvW p n m f g F G i 0 0 = fun _ => 0 := vec_zero fun k hk => rfl
theorem cvW_j {i j : Nat} : cvW p n m f g F G i j n = cvW p n m f g F G i (j + 1) 0 := by
  unfold cvW cvS
  exact congrArg (vec 8 p) (funext fun y => by simp only [sm, Int.add_zero])
theorem cvS_k {i j k y : Nat} : cvS p n m f g F G i j (k + 1) y = cvS p n m f g F G i j k y + cvT p m f g F G i j k y := by
  unfold cvS; simp only [sm]; omega
theorem cvW_k (hp : 1 ≤ p) (hp2 : p ≤ 256) {i j k : Nat} : vec 8 p (fun y => bz (cvW p n m f g F G i j k) y + bz f (10 + i * 64 + j * 8 + k) * bz (vec 8 p (prd m g 10 (sh F (j * 8)) (sh G (k * 8)))) y) = cvW p n m f g F G i j (k + 1) := by
  refine vec_congr fun y hy => ?_
  rw [cvS_k]
  exact cg_add (cg_vec hp hp2 hy) cg.rfl'
theorem cvW_z {i j k : Nat} (h : bz f (10 + i * 64 + j * 8 + k) = 0) : cvW p n m f g F G i j (k + 1) = cvW p n m f g F G i j k := by
  unfold cvW
  refine congrArg (vec 8 p) (funext fun y => ?_)
  rw [cvS_k]; unfold cvT; rw [h]; omega
theorem cvW_lt (hp : 1 ≤ p) (hp2 : p ≤ 256) {i j k y : Nat} : bz (cvW p n m f g F G i j k) y < p := bz_vec_lt hp hp2
/-- the rows so far -/
def CvI (row : Nat → Nat → Nat → By) (n i j k : Nat) (w : By) : Prop := ∀ x, x < 64 → w x = if x / 8 < i then row (x / 8) n 0 (x % 8) else if x / 8 = i then row i j k (x % 8) else 0
theorem CvI.z {row : Nat → Nat → Nat → By} {n : Nat} (h : row 0 0 0 = fun _ => 0) {w : By} (hw : ∀ x, x < 64 → w x = 0) : CvI row n 0 0 0 w := fun x hx => by
  rw [hw x hx, if_neg (by omega), h]
  split <;> rfl
theorem CvI.cur {row : Nat → Nat → Nat → By} {n i j k : Nat} {w : By} (h : CvI row n i j k w) (hi : i < 8) {y : Nat} (hy : y < 8) : w (i * 8 + y) = row i j k y := by
  rw [h _ (by omega), if_neg (by omega), if_pos (by omega), show (i * 8 + y) % 8 = y by omega]
theorem CvI.st {row : Nat → Nat → Nat → By} {n i j k j' k' : Nat} {w w' : By} (h : CvI row n i j k w) (h1 : ∀ x, x < 64 → x / 8 ≠ i → w' x = w x) (h2 : ∀ y, y < 8 → w' (i * 8 + y) = row i j' k' y) : CvI row n i j' k' w' := fun x hx => by
  by_cases e : x / 8 = i
  · rw [if_neg (by omega), if_pos e]
    have := h2 (x % 8) (by omega)
    rwa [show i * 8 + x % 8 = x by omega] at this
  · rw [h1 x hx e, h x hx, if_neg e, if_neg e]
theorem CvI.eq {row : Nat → Nat → Nat → By} {n i j k j' k' : Nat} {w : By} (h : CvI row n i j k w) (e : row i j k = row i j' k') : CvI row n i j' k' w := fun x hx => by rw [h x hx, e]
theorem CvI.nx {row : Nat → Nat → Nat → By} {n i : Nat} {w : By} (h : CvI row n i n 0 w) (e : row (i + 1) 0 0 = fun _ => 0) : CvI row n (i + 1) 0 0 w := fun x hx => by
  rw [h x hx, e]
  by_cases q : x / 8 < i
  · rw [if_pos q, if_pos (by omega)]
  · rw [if_neg q]
    by_cases q2 : x / 8 = i
    · rw [if_pos q2, if_pos (by omega), q2]
    · rw [if_neg q2, if_neg (by omega)]; split <;> rfl
theorem cvF_of {w : By} (h : CvI (cvW p n m f g F G) n n 0 0 w) : ∀ x, x < 64 → cvF p n m f g F G x = w x := fun x hx => by
  rw [h x hx, cvW_0]
  unfold cvF
  split
  · rfl
  · split <;> rfl
theorem cvF_at {i y : Nat} (hi : i < n) (hn : n ≤ 8) (hy : y < 8) : cvF p n m f g F G (i * 8 + y) = cvW p n m f g F G i n 0 y := by
  unfold cvF
  rw [show (i * 8 + y) / 8 = i by omega, if_pos hi, show (i * 8 + y) % 8 = y by omega]
theorem prd_out' (hT : Tab p m g 10) (hm : m ≤ 8) {v w : By} {k : Nat} (hk : k < 8) (h : m ≤ k) : prd m g 10 v w k = 0 := by
  unfold prd
  refine sm_zero fun i hi => sm_zero fun j hj => ?_
  have q := ((((hT i (by omega)).1) j (by omega)).1 k hk).2 (by omega)
  rw [show 10 + i * 64 + j * 8 + k = 10 + i * 64 + j * 8 + k from rfl, q, Int.mul_zero]
theorem cvF_lin (hp : 1 ≤ p) (hp2 : p ≤ 256) (hn : n ≤ 8) (hm : m ≤ 8) (hT : Tab p m g 10) : Lin p n m (cvF p n m f g F G) 0 := by
  intro i hi
  have e : ∀ k, k < 8 → bz (cvF p n m f g F G) (0 + i * 8 + k) = if i < n then bz (cvW p n m f g F G i n 0) k else 0 := fun k hk => by
    rw [Nat.zero_add]
    by_cases q : i < n
    · rw [if_pos q]; unfold bz; rw [cvF_at q hn hk]
    · rw [if_neg q]; unfold bz cvF; rw [if_neg (by omega)]; rfl
  refine ⟨fun k hk => ?_, fun h k hk => by rw [e k hk, if_neg (by omega)]⟩
  rw [e k hk]
  split
  · refine ⟨cvW_lt hp hp2, fun h => ?_⟩
    refine bz_eq0.2 ?_
    unfold cvW vec
    rw [if_pos hk]
    have : cvS p n m f g F G i n 0 k = 0 := by
      unfold cvS
      rw [show sm 0 (fun k' => cvT p m f g F G i n k' k) = 0 from rfl, Int.add_zero]
      refine sm_zero fun j hj => sm_zero fun k' hk' => ?_
      unfold cvT
      rw [show bz (vec 8 p (prd m g 10 (sh F (j * 8)) (sh G (k' * 8)))) k = 0 from ?_, Int.mul_zero]
      refine bz_eq0.2 ?_
      unfold vec
      rw [if_pos hk, prd_out' hT hm hk (by omega), Int.zero_emod]; rfl
    rw [this, Int.zero_emod]; rfl
  · exact ⟨by omega, fun _ => rfl⟩
/-- the entries modulo p -/
def tz (p : Int) (n m : Nat) (F : By) (i : Fin n) (y : Fin m) : Zq p := zc (bz F (i.val * 8 + y.val))
theorem tz_cv (hp : 1 ≤ p) (hp2 : p ≤ 256) (hn : n ≤ 8) (hm : m ≤ 8) (hA : Alg p m g) (hC : Cog p n f) : tz p n m (cvF p n m f g F G) = cnv (coOf hp hp2 hn hC) (alOf hp hp2 hm hA) (tz p n m F) (tz p n m G) := by
  funext i y
  unfold tz
  have e : (zc (bz (cvF p n m f g F G) (i.val * 8 + y.val)) : Zq p) = zc (cvS p n m f g F G i.val n 0 y.val) := by
    rw [show bz (cvF p n m f g F G) (i.val * 8 + y.val) = bz (cvW p n m f g F G i.val n 0) y.val by unfold bz; rw [cvF_at i.isLt hn (by omega)]]
    exact zc_eq.2 (cg_vec hp hp2 (by omega))
  rw [e]
  unfold cvS
  rw [show sm 0 (fun k' => cvT p m f g F G i.val n k' y.val) = 0 from rfl, Int.add_zero, sf_sm]
  refine sf_congr fun j => ?_
  rw [sf_sm]
  refine sf_congr fun k => ?_
  unfold cvT
  rw [zc_mul]
  show (zc (bz f (10 + i.val * 64 + j.val * 8 + k.val)) : Zq p) * zc _ = zc (bz f (10 + i.val * 64 + j.val * 8 + k.val)) * _
  congr 1
  rw [zc_eq.2 (cg_vec hp hp2 (show y.val < 8 by omega))]
  unfold prd
  rw [sf_sm]
  refine sf_congr fun a => ?_
  rw [sf_sm]
  show _ = zc (bz F (j.val * 8 + a.val)) * sf fun b => zc (bz G (k.val * 8 + b.val)) * zc (bz g (10 + a.val * 64 + b.val * 8 + y.val))
  rw [← sf_mul]
  refine sf_congr fun b => ?_
  rw [zc_mul, zc_mul, z_ma]
  rfl
/-- the unit map -/
def umF (p : Int) (f g : By) : By := fun x => if x < 64 then vec 8 p (fun y => bz f (2 + x / 8) * bz g (2 + y)) (x % 8) else 0
theorem umF_at {i y : Nat} (hi : i < 8) (hy : y < 8) : umF p f g (i * 8 + y) = vec 8 p (fun y => bz f (2 + i) * bz g (2 + y)) y := by
  unfold umF
  rw [if_pos (by omega), show (i * 8 + y) / 8 = i by omega, show (i * 8 + y) % 8 = y by omega]
theorem tz_um (hp : 1 ≤ p) (hp2 : p ≤ 256) (hn : n ≤ 8) (hm : m ≤ 8) (hA : Alg p m g) (hC : Cog p n f) : tz p n m (umF p f g) = unm (coOf hp hp2 hn hC) (alOf hp hp2 hm hA) := by
  funext i y
  unfold tz unm
  show _ = (zc (bz f (2 + i.val)) : Zq p) * zc (bz g (2 + y.val))
  rw [← zc_mul, show bz (umF p f g) (i.val * 8 + y.val) = bz (vec 8 p (fun y => bz f (2 + i.val) * bz g (2 + y))) y.val from congrArg (fun u : UInt8 => ((u.toNat : Nat) : Int)) (umF_at (by omega) (by omega))]
  exact zc_eq.2 (cg_vec hp hp2 (by omega))
theorem lin_eq (hp : 1 ≤ p) {F G : By} (hF : Lin p n m F 0) (hG : Lin p n m G 0) (h : tz p n m F = tz p n m G) : ∀ x, x < 64 → F x = G x := by
  intro x hx
  have q : bz F x = bz G x := by
    have h1 := hF (x / 8) (by omega)
    have h2 := hG (x / 8) (by omega)
    have e : 0 + x / 8 * 8 + x % 8 = x := by omega
    by_cases a : x / 8 < n
    · by_cases b : x % 8 < m
      · have := zc_eq.1 (congrFun (congrFun h ⟨x / 8, a⟩) ⟨x % 8, b⟩)
        simp only at this
        rw [show x / 8 * 8 + x % 8 = x by omega] at this
        have b1 := (h1.1 (x % 8) (by omega)).1
        have b2 := (h2.1 (x % 8) (by omega)).1
        rw [e] at b1 b2
        unfold cg at this
        rwa [Int.emod_eq_of_lt (bz_nn _ _) b1, Int.emod_eq_of_lt (bz_nn _ _) b2] at this
      · have b1 := (h1.1 (x % 8) (by omega)).2 (by omega)
        have b2 := (h2.1 (x % 8) (by omega)).2 (by omega)
        rw [e] at b1 b2
        rw [b1, b2]
    · have b1 := h1.2 (by omega) (x % 8) (by omega)
      have b2 := h2.2 (by omega) (x % 8) (by omega)
      rw [e] at b1 b2
      rw [b1, b2]
  apply UInt8.toNat_inj.1
  unfold bz at q
  omega
theorem umF_lin (hp : 1 ≤ p) (hp2 : p ≤ 256) (hn : n ≤ 8) (hm : m ≤ 8) (hf : Vec p n f 2) (hg : Vec p m g 2) : Lin p n m (umF p f g) 0 := by
  intro i hi
  have e : ∀ k, k < 8 → bz (umF p f g) (0 + i * 8 + k) = (bz f (2 + i) * bz g (2 + k)) % p := fun k hk => by
    rw [Nat.zero_add]
    unfold bz; rw [umF_at hi hk]
    exact bz_vec hp hp2 hk
  refine ⟨fun k hk => ?_, fun h k hk => ?_⟩
  · rw [e k hk]
    exact ⟨Int.emod_lt_of_pos _ (by omega), fun h => by rw [(hg k hk).2 h, Int.mul_zero, Int.zero_emod]⟩
  · rw [e k hk, (hf i hi).2 h, Int.zero_mul, Int.zero_emod]
theorem eqB_of {F G : By} (h : ∀ x, x < 64 → F x = G x) : eqB 64 F G = true := eqB_iff.2 h
end
end Hf
namespace Hf
open Go Classical
variable {P : Program} {ρ : Nat → FuncId}
def mpA (p n : Int) (f : By) (q m : Int) (g : By) (Ls : List By) : Prop := (Cog p n f ∧ Alg q m g) ∧ ∀ i, i < Ls.length → Lin q n m (Ls.getD i z0) 0
noncomputable def mpC (p n : Int) (f : By) (q m : Int) (g : By) (Ls : List By) : Int := if mpA p n f q m g Ls then (if p = q then 0 else 2) else 1
/-- maps in a row -/
def VL (H : List Blk) (a : At) (Ls : List By) : Prop := (a = .sn ∧ Ls = []) ∨ ∃ k r N w, a = .sl k 0 Ls.length Ls.length ∧ H[k]? = some ⟨r, .by [] N w⟩ ∧ Ls.length * 64 ≤ N ∧ ∀ i x, i < Ls.length → x < 64 → w (i * 64 + x) = (Ls.getD i z0) x
theorem VL.len {H : List Blk} {a : At} {Ls : List By} (h : VL H a Ls) : lenA a = some Ls.length := by
  rcases h with ⟨rfl, rfl⟩ | ⟨k, r, N, w, rfl, -⟩ <;> rfl
theorem VL.lt {H : List Blk} {a : At} {Ls : List By} (h : VL H a Ls) : a.lt H.length = true := by
  rcases h with ⟨rfl, rfl⟩ | ⟨k, r, N, w, rfl, hk, -⟩
  · rfl
  · simp [At.lt, lt_of hk]
/-- addresses of maps -/
def PL (H : List Blk) (a : At) (Ls : List By) : Prop := ∃ As : List At, rdR H a As ∧ As.length = Ls.length ∧ ∀ i, i < Ls.length → ∃ j r, As.getD i .sn = .pt j 0 ∧ H[j]? = some ⟨r, .by [] 64 (Ls.getD i z0)⟩
theorem sh_bz {f : By} {o k : Nat} : bz (sh f o) (0 + k) = bz f (o + k) := by unfold bz sh; rw [Nat.zero_add]
theorem vec_sh {p n : Int} {f : By} {o : Nat} : Vec p n (sh f o) 0 ↔ Vec p n f o := by
  unfold Vec
  exact ⟨fun h k hk => by have := h k hk; rwa [sh_bz] at this, fun h k hk => by rw [sh_bz]; exact h k hk⟩
theorem eq0_sh {f : By} {o : Nat} : eqB 8 (sh f o) (fun _ => 0) = true ↔ ∀ k, k < 8 → bz f (o + k) = 0 := by
  rw [eqB_iff]
  exact ⟨fun h k hk => bz_eq0.2 (h k hk), fun h k hk => bz_eq0.1 (h k hk)⟩
theorem mz_hd {y x : Int} (h : y ≠ 0) : fz [y, x] = y := by simp [fz, h]
theorem mz_tl {x : Int} : fz [0, x] = x := by by_cases h : x = 0 <;> simp [fz, h]
theorem s_l02Map_ok (B : Bs P ρ) (E : F_s_l02Map P ρ) {p n q m : Int} {f g F : By} :
    CallOK P ρ 199 [.ag [p, n] 522 f, .ag [q, m] 522 g, .ag [] 64 F] [] (.one (.b (decide (Lin q n m F 0)))) [] := by
  refine (CallR.pure (call_of_q B.fn B.mo E.1 rfl (fun _ _ => ?_) rfl) rfl).ok
  refine ⟨_, rfl, ?_⟩
  refine ⟨_, rfl, ?_⟩
  refine ⟨_, rfl, ?_⟩
  refine ⟨Unit, (fun a3 a4 a5 (i0 : Nat) (x0 : Unit) => [(3, a3), (4, a4), (5, a5), (7, .one (.i .i64 ((i0 : Nat) : Int)))]) _ _ _ , fun (i0 : Nat) (x0 : Unit) (G0 : List Blk) => ((∀ i, i < i0 → Vec q m F (i * 8) ∧ (n ≤ i → ∀ k, k < 8 → bz F (i * 8 + k) = 0)) ∧ G0 = [⟨false, .by [p, n] 522 f⟩, ⟨false, .by [q, m] 522 g⟩, ⟨false, .by [] 64 F⟩]), 8, ⟨(), ⟨fun i hi => absurd hi (Nat.not_lt_zero _), rfl⟩, ⟨rfl, rfl, rfl, rfl, trivial⟩⟩, ?_⟩
  rintro i0 _ G0 hi0 ⟨hF0, rfl⟩
  refine ⟨fun h9 => ?_, fun h9 => ?_⟩
  · replace h9 := of_decide_eq_true h9
    refine ⟨_, _, rfl, rfl, ?_⟩
    refine ⟨_, _, rfl, rfl, ?_⟩
    refine ⟨i0, _, rfl, by omega, rfl, ?_⟩
    refine ⟨_, _, _, _, sh F (i0 * 8), rfl, ⟨by simp, by omega⟩, fun x hx => by show F _ = F _; congr 1; omega, ?_⟩
    refine ⟨_, s_l01Vector_ok B E.2.1 (p := q) (n := m) (v := sh F (i0 * 8)), rfl, ?_⟩
    refine ⟨fun h21 => ?_, fun h21 => ?_⟩
    · skip
      have hV : ¬ Vec q m F (i0 * 8) := fun z => by rw [decide_eq_true (vec_sh.2 z)] at h21; cases h21
      have hq : ¬ Lin q n m F 0 := fun z => hV (by have := (z i0 (by omega)).1; rwa [Nat.zero_add] at this)
      refine brB_t ?_
      refine brB_t ?_
      refine brB_t ?_
      refine brB_t ?_
      refine brB_t ?_
      refine brB_t ?_
      refine brB_t ?_
      exact ⟨rfl, by rw [decide_eq_false hq]; rfl, Ext.nil⟩
    · skip
      have hV : Vec q m F (i0 * 8) := vec_sh.1 (by simpa using h21)
      refine brB_f ?_
      refine brB_f ?_
      refine ⟨_, _, rfl, rfl, ?_⟩
      refine brB_f ?_
      refine brB_f ?_
      refine ⟨fun h26 => ?_, fun h26 => ?_⟩
      · replace h26 := of_decide_eq_true h26
        refine brB_t ?_
        refine ⟨i0, _, rfl, by omega, rfl, ?_⟩
        refine brB_t ?_
        refine ⟨_, _, _, _, sh F (i0 * 8), rfl, ⟨by simp, by omega⟩, fun x hx => by show F _ = F _; congr 1; omega, ?_⟩
        refine brB_t ?_
        refine ⟨_, s_l01Zero_ok B E.2.2 (v := sh F (i0 * 8)), rfl, ?_⟩
        refine brB_t ?_
        refine brB_f ?_
        refine brB_t ?_
        refine brB_f ?_
        refine ⟨fun h33 => ?_, fun h33 => ?_⟩
        · skip
          have hq : ¬ Lin q n m F 0 := fun z => by
            have hz := (z i0 (by omega)).2 h26
            rw [Nat.zero_add] at hz
            rw [eq0_sh.2 hz] at h33; cases h33
          exact ⟨rfl, by rw [decide_eq_false hq]; rfl, Ext.nil⟩
        · skip
          have hZ : ∀ k, k < 8 → bz F (i0 * 8 + k) = 0 := eq0_sh.1 (by simpa using h33)
          refine ⟨((i0 + 1 : Nat) : Int), w64_id _ (by omega) (by omega), ?_⟩
          refine ⟨by omega, (), ?_, ⟨rfl, rfl, rfl, rfl, trivial⟩⟩
          refine ⟨fun i hi => ?_, rfl⟩
          by_cases e : i = i0
          · subst e; exact ⟨hV, fun _ => hZ⟩
          · exact hF0 i (by omega)
      · replace h26 := of_decide_eq_false h26
        refine brB_f ?_
        refine brB_f ?_
        refine brB_f ?_
        refine brB_f ?_
        refine brB_f ?_
        refine brB_f ?_
        refine brB_f ?_
        refine brB_f ?_
        refine ⟨((i0 + 1 : Nat) : Int), w64_id _ (by omega) (by omega), ?_⟩
        refine ⟨by omega, (), ?_, ⟨rfl, rfl, rfl, rfl, trivial⟩⟩
        refine ⟨fun i hi => ?_, rfl⟩
        by_cases e : i = i0
        · subst e; exact ⟨hV, fun h => absurd h (by omega)⟩
        · exact hF0 i (by omega)
  · replace h9 := of_decide_eq_false h9
    have e0 : 8 = i0 := by omega
    subst e0
    refine ⟨rfl, ?_, Ext.nil⟩
    rw [decide_eq_true (show Lin q n m F 0 from fun i hi => by rw [Nat.zero_add]; exact hF0 i hi)]; rfl

theorem s_l02Maps_ok (B : Bs P ρ) (E : F_s_l02Maps P ρ) {H : List Blk} {a : At} {p n q m : Int} {f g : By} {Ls : List By} (hV : VL H a Ls) (hl : Ls.length ≤ 100) :
    CallR P ρ 189 [.ag [p, n] 522 f, .ag [q, m] 522 g, a] H (fun u G => u = .one (.i .i64 (mpC p n f q m g Ls)) ∧ G = H) := by
  refine CallR.pure (call_of_q B.fn B.mo E.1 rfl (fun hAr hHp => ?_) (by simp only [List.all_cons, List.all_nil, hV.lt]; rfl)) rfl
  refine ⟨_, rfl, ?_⟩
  refine ⟨_, rfl, ?_⟩
  refine .inl ⟨_, _, _, _, app_old get_new, ⟨rfl, by omega⟩, ?_⟩
  refine ⟨_, s_l02Is_ok B E.2.1 (p := p) (n := n) (f := f), rfl, ?_⟩
  refine ⟨fun h11 => ?_, fun h11 => ?_⟩
  · skip
    have hC : ¬ Cog p n f := fun z => by rw [decide_eq_true z] at h11; cases h11
    have hq : mpC p n f q m g Ls = 1 := if_neg fun z => hC z.1.1
    refine brB_t ?_
    refine brB_t ?_
    refine brB_t ?_
    refine brB_t ?_
    exact ⟨rfl, by rw [hq]; rfl, Ext.app.trans Ext.app⟩
  · skip
    have hC : Cog p n f := by simpa using h11
    refine .inl ⟨_, _, _, _, get_new, ⟨rfl, by omega⟩, ?_⟩
    refine brB_f ?_
    refine ⟨_, s_l01Is_ok B E.2.2.1 (p := q) (n := m) (f := g), rfl, ?_⟩
    refine brB_f ?_
    refine brB_f ?_
    refine ⟨fun h15 => ?_, fun h15 => ?_⟩
    · skip
      have hA : ¬ Alg q m g := fun z => by rw [decide_eq_true z] at h15; cases h15
      have hq : mpC p n f q m g Ls = 1 := if_neg fun z => hA z.1.2
      exact ⟨rfl, by rw [hq]; rfl, Ext.app.trans Ext.app⟩
    · skip
      have hA : Alg q m g := by simpa using h15
      refine ⟨Unit, (fun a2 a3 a4 (i0 : Nat) (x0 : Unit) => [(2, a2), (3, a3), (4, a4), (7, .one (.i .i64 ((i0 : Nat) : Int)))]) _ _ _ , fun (i0 : Nat) (x0 : Unit) (G0 : List Blk) => ((∀ i, i < i0 → Lin q n m (Ls.getD i z0) 0) ∧ G0 = H ++ [⟨false, .by [p, n] 522 f⟩] ++ [⟨false, .by [q, m] 522 g⟩]), Ls.length, ⟨(), ⟨fun i hi => absurd hi (Nat.not_lt_zero _), rfl⟩, ⟨rfl, rfl, rfl, rfl, trivial⟩⟩, ?_⟩
      rintro i0 _ G0 hi0 ⟨hF0, rfl⟩
      refine ⟨Ls.length, hV.len, ?_⟩
      refine ⟨fun h19 => ?_, fun h19 => ?_⟩
      · replace h19 := of_decide_eq_true h19
        obtain ⟨k, r, N, w, ea, hk, hN, hw⟩ : ∃ k r N w, a = .sl k 0 Ls.length Ls.length ∧ H[k]? = some ⟨r, .by [] N w⟩ ∧ Ls.length * 64 ≤ N ∧ ∀ i x, i < Ls.length → x < 64 → w (i * 64 + x) = (Ls.getD i z0) x := by
          rcases hV with ⟨-, e⟩ | h
          · rw [e] at h19; simp at h19; omega
          · exact h
        refine .inl ⟨_, _, _, _, app_old get_new, ⟨rfl, by omega⟩, ?_⟩
        refine .inl ⟨_, _, _, _, get_new, ⟨rfl, by omega⟩, ?_⟩
        refine ⟨k, 0, Ls.length, Ls.length, i0, i0 * 64, ea, rfl, by omega, by omega, ?_⟩
        refine ⟨_, _, _, _, Ls.getD i0 z0, app_old (app_old hk), ⟨by simp, by omega⟩, fun x hx => (hw i0 x (by omega) hx).symm, ?_⟩
        refine ⟨_, s_l02Map_ok B E.2.2.2 (p := p) (n := n) (q := q) (m := m) (f := f) (g := g) (F := Ls.getD i0 z0), rfl, ?_⟩
        refine ⟨fun h29 => ?_, fun h29 => ?_⟩
        · skip
          have hL : ¬ Lin q n m (Ls.getD i0 z0) 0 := fun z => by rw [decide_eq_true z] at h29; cases h29
          have hq : mpC p n f q m g Ls = 1 := if_neg fun z => hL (z.2 i0 (by omega))
          exact ⟨rfl, by rw [hq]; rfl, Ext.app.trans Ext.app⟩
        · skip
          have hL : Lin q n m (Ls.getD i0 z0) 0 := by simpa using h29
          refine ⟨((i0 + 1 : Nat) : Int), w64_id _ (by omega) (by omega), ?_⟩
          refine ⟨by omega, (), ?_, ⟨rfl, rfl, rfl, rfl, trivial⟩⟩
          refine ⟨fun i hi => ?_, rfl⟩
          by_cases e : i = i0
          · subst e; exact hL
          · exact hF0 i (by omega)
      · replace h19 := of_decide_eq_false h19
        have e0 : Ls.length = i0 := by omega
        subst e0
        refine ⟨_, _, app_old get_new, rfl, ?_⟩
        refine ⟨_, _, get_new, rfl, ?_⟩
        refine ⟨fun h34 => ?_, fun h34 => ?_⟩
        · replace h34 := bne_t h34
          have hq : mpC p n f q m g Ls = 2 := by unfold mpC; rw [if_pos ⟨⟨hC, hA⟩, hF0⟩, if_neg h34]
          exact ⟨rfl, by rw [hq]; rfl, Ext.app.trans Ext.app⟩
        · replace h34 := bne_f h34
          have hq : mpC p n f q m g Ls = 0 := by unfold mpC; rw [if_pos ⟨⟨hC, hA⟩, hF0⟩, if_pos h34]
          exact ⟨rfl, by rw [hq]; rfl, Ext.app.trans Ext.app⟩

theorem i_mapsCode_ok (B : Bs P ρ) (E : F_i_mapsCode P ρ) {H : List Blk} {a : At} {k1 k2 : Nat} {r1 r2 : Bool} {p n q m : Int} {f g : By} {Ls : List By} (h1 : H[k1]? = some ⟨r1, .by [p, n] 522 f⟩) (h2 : H[k2]? = some ⟨r2, .by [q, m] 522 g⟩) (hV : PL H a Ls) (hlt : a.lt H.length = true) (hl : Ls.length ≤ 100) :
    CallR P ρ 191 [.pt k1 0, .pt k2 0, a] H (fun u G => u = .one (.i .i64 (mpC p n f q m g Ls)) ∧ G = H) := by
  obtain ⟨As, hA1, hA2, hA3⟩ := hV
  refine CallR.pure (call_of_q B.fn B.mo E.1 rfl (fun hAr hHp => ?_) (by simp only [List.all_cons, List.all_nil, hlt]; simp [At.lt, lt_of h1, lt_of h2])) rfl
  refine .inl ⟨_, _, _, _, h1, ⟨rfl, by omega⟩, ?_⟩
  refine ⟨_, i_IsCoalgebra_ok B E.2.1 (p := p) (n := n) (f := f), rfl, ?_⟩
  refine ⟨fun h14 => ?_, fun h14 => ?_⟩
  · skip
    refine brB_t ?_
    refine brB_t ?_
    refine .inl ⟨_, _, _, _, h2, ⟨rfl, by omega⟩, ?_⟩
    refine brB_t ?_
    refine ⟨_, i_IsAlgebra_ok B E.2.2.1 (p := q) (n := m) (f := g), rfl, ?_⟩
    refine brB_t ?_
    refine ⟨As.length, rdR_lenA hA1, ?_⟩
    refine ⟨Bool, (fun a0 a1 a20 a21 (i0 : Nat) (x0 : Bool) => [(0, a0), (1, a1), (7, .one (.b x0)), (20, a20), (21, a21), (22, .one (.i .i64 ((i0 : Nat) : Int)))]) _ _ _ _ , fun (i0 : Nat) (x0 : Bool) (G0 : List Blk) => ((x0 = true ↔ ((Cog p n f ∧ Alg q m g) ∧ ∀ i, i < i0 → Lin q n m (Ls.getD i z0) 0)) ∧ G0 = H), As.length, ⟨_, ?_, ⟨rfl, rfl, rfl, rfl, rfl, rfl, trivial⟩⟩, ?_⟩
    · exact ⟨⟨fun z => ⟨⟨of_decide_eq_true h14, of_decide_eq_true z⟩, fun i hi => absurd hi (Nat.not_lt_zero _)⟩, fun z => decide_eq_true z.1.2⟩, rfl⟩
    rintro i0 x0 G0 hi0 ⟨hF0, rfl⟩
    refine ⟨fun h23 => ?_, fun h23 => ?_⟩
    · replace h23 := of_decide_eq_true h23
      obtain ⟨j, rj, hj1, hj2⟩ := hA3 i0 (by omega)
      obtain ⟨k24, o24, n24, c24, q24, ea24, hl24, hq24, r24, l24, hk24, hi24⟩ := rdR_at (hA1) i0 (by omega)
      refine ⟨k24, o24, n24, c24, i0, q24, ea24, rfl, hl24, hq24, ?_⟩
      rw [hj1] at hi24
      refine ⟨_, _, hk24, hi24, ?_⟩
      refine ⟨fun h27 => ?_, fun h27 => ?_⟩
      · skip
        refine brB_t ?_
        refine brB_t ?_
        refine brB_t ?_
        refine ⟨_, _, h2, rfl, ?_⟩
        refine brB_t ?_
        refine brB_t ?_
        refine brB_t ?_
        refine brB_t ?_
        refine ⟨_, _, h1, rfl, ?_⟩
        refine brB_t ?_
        refine brB_t ?_
        refine brB_t ?_
        refine brB_t ?_
        refine ⟨_, _, h2, rfl, ?_⟩
        refine brB_t ?_
        refine brB_t ?_
        refine ⟨_, CallOK.at1 hj2 (i_isLinear_ok B E.2.2.2.1 (p := q) (n := n) (size := m) (hd := []) (N := 64) (off := 0) (f := Ls.getD i0 z0) (by simp) (by omega)) rfl rfl, ?_⟩
        rintro _ _ ⟨rfl, rfl⟩
        refine brB_t ?_
        refine ⟨((i0 + 1 : Nat) : Int), w64_id _ (by omega) (by omega), ?_⟩
        refine ⟨by omega, _, ?_, ⟨rfl, rfl, rfl, rfl, rfl, rfl, trivial⟩⟩
        refine ⟨⟨fun z => ?_, fun z => ?_⟩, rfl⟩
        · have hz := of_decide_eq_true z
          have hx := hF0.1 h27
          refine ⟨hx.1, fun i hi => ?_⟩
          by_cases e : i = i0
          · subst e; exact hz.2
          · exact hx.2 i (by omega)
        · exact decide_eq_true ⟨z.1.2.1.1, z.2 i0 (by omega)⟩
      · skip
        refine brB_f ?_
        refine brB_f ?_
        refine brB_f ?_
        refine brB_f ?_
        refine brB_f ?_
        refine brB_f ?_
        refine brB_f ?_
        refine brB_f ?_
        refine brB_f ?_
        refine brB_f ?_
        refine brB_f ?_
        refine brB_f ?_
        refine brB_f ?_
        refine brB_f ?_
        refine ⟨((i0 + 1 : Nat) : Int), w64_id _ (by omega) (by omega), ?_⟩
        refine ⟨by omega, _, ?_, ⟨rfl, rfl, rfl, rfl, rfl, rfl, trivial⟩⟩
        refine ⟨⟨fun z => (by cases z), fun z => ?_⟩, rfl⟩
        rw [hF0.2 ⟨z.1, fun i hi => z.2 i (by omega)⟩] at h27; cases h27
    · replace h23 := of_decide_eq_false h23
      have e0 : As.length = i0 := by omega
      subst e0
      refine ⟨_, i_unless_ok B E.2.2.2.2.1 (b := x0) (c := 1), rfl, ?_⟩
      refine ⟨_, _, h1, rfl, ?_⟩
      refine ⟨_, _, h2, rfl, ?_⟩
      refine ⟨_, i_unless_ok B E.2.2.2.2.1 (b := p == q) (c := 2), rfl, ?_⟩
      refine ⟨_, rfl, ?_⟩
      refine ⟨_, first2_at B E.2.2.2.2.2 get_new, ?_⟩
      rintro _ _ ⟨rfl, rfl⟩
      refine ⟨rfl, ?_, Ext.app⟩
      rw [hA2] at hF0
      show Sv.one (.i .i64 (fz [if x0 = true then 0 else 1, if (p == q) = true then 0 else 2])) = Sv.one (.i .i64 (mpC p n f q m g Ls))
      unfold mpC
      by_cases hm : mpA p n f q m g Ls
      · rw [if_pos hm, if_pos (hF0.2 hm), mz_tl]
        by_cases e : p = q
        · rw [if_pos (by simpa using e), if_pos e]
        · rw [if_neg (by simpa using e), if_neg e]
      · rw [if_neg hm, if_neg fun z => hm (hF0.1 z), mz_hd (by decide)]
  · skip
    refine brB_f ?_
    refine brB_f ?_
    refine brB_f ?_
    refine brB_f ?_
    refine ⟨As.length, rdR_lenA hA1, ?_⟩
    refine ⟨Bool, (fun a0 a1 a20 a21 (i1 : Nat) (x1 : Bool) => [(0, a0), (1, a1), (7, .one (.b x1)), (20, a20), (21, a21), (22, .one (.i .i64 ((i1 : Nat) : Int)))]) _ _ _ _ , fun (i1 : Nat) (x1 : Bool) (G1 : List Blk) => ((x1 = true ↔ ((Cog p n f ∧ Alg q m g) ∧ ∀ i, i < i1 → Lin q n m (Ls.getD i z0) 0)) ∧ G1 = H), As.length, ⟨_, ?_, ⟨rfl, rfl, rfl, rfl, rfl, rfl, trivial⟩⟩, ?_⟩
    · exact ⟨⟨fun z => (by cases z), fun z => by rw [decide_eq_true z.1.1] at h14; cases h14⟩, rfl⟩
    rintro i1 x1 G1 hi1 ⟨hF1, rfl⟩
    refine ⟨fun h23 => ?_, fun h23 => ?_⟩
    · replace h23 := of_decide_eq_true h23
      obtain ⟨j, rj, hj1, hj2⟩ := hA3 i1 (by omega)
      obtain ⟨k24, o24, n24, c24, q24, ea24, hl24, hq24, r24, l24, hk24, hi24⟩ := rdR_at (hA1) i1 (by omega)
      refine ⟨k24, o24, n24, c24, i1, q24, ea24, rfl, hl24, hq24, ?_⟩
      rw [hj1] at hi24
      refine ⟨_, _, hk24, hi24, ?_⟩
      refine ⟨fun h27 => ?_, fun h27 => ?_⟩
      · skip
        refine brB_t ?_
        refine brB_t ?_
        refine brB_t ?_
        refine ⟨_, _, h2, rfl, ?_⟩
        refine brB_t ?_
        refine brB_t ?_
        refine brB_t ?_
        refine brB_t ?_
        refine ⟨_, _, h1, rfl, ?_⟩
        refine brB_t ?_
        refine brB_t ?_
        refine brB_t ?_
        refine brB_t ?_
        refine ⟨_, _, h2, rfl, ?_⟩
        refine brB_t ?_
        refine brB_t ?_
        refine ⟨_, CallOK.at1 hj2 (i_isLinear_ok B E.2.2.2.1 (p := q) (n := n) (size := m) (hd := []) (N := 64) (off := 0) (f := Ls.getD i1 z0) (by simp) (by omega)) rfl rfl, ?_⟩
        rintro _ _ ⟨rfl, rfl⟩
        refine brB_t ?_
        refine ⟨((i1 + 1 : Nat) : Int), w64_id _ (by omega) (by omega), ?_⟩
        refine ⟨by omega, _, ?_, ⟨rfl, rfl, rfl, rfl, rfl, rfl, trivial⟩⟩
        refine ⟨⟨fun z => ?_, fun z => ?_⟩, rfl⟩
        · have hz := of_decide_eq_true z
          have hx := hF1.1 h27
          refine ⟨hx.1, fun i hi => ?_⟩
          by_cases e : i = i1
          · subst e; exact hz.2
          · exact hx.2 i (by omega)
        · exact decide_eq_true ⟨z.1.2.1.1, z.2 i1 (by omega)⟩
      · skip
        refine brB_f ?_
        refine brB_f ?_
        refine brB_f ?_
        refine brB_f ?_
        refine brB_f ?_
        refine brB_f ?_
        refine brB_f ?_
        refine brB_f ?_
        refine brB_f ?_
        refine brB_f ?_
        refine brB_f ?_
        refine brB_f ?_
        refine brB_f ?_
        refine brB_f ?_
        refine ⟨((i1 + 1 : Nat) : Int), w64_id _ (by omega) (by omega), ?_⟩
        refine ⟨by omega, _, ?_, ⟨rfl, rfl, rfl, rfl, rfl, rfl, trivial⟩⟩
        refine ⟨⟨fun z => (by cases z), fun z => ?_⟩, rfl⟩
        rw [hF1.2 ⟨z.1, fun i hi => z.2 i (by omega)⟩] at h27; cases h27
    · replace h23 := of_decide_eq_false h23
      have e1 : As.length = i1 := by omega
      subst e1
      refine ⟨_, i_unless_ok B E.2.2.2.2.1 (b := x1) (c := 1), rfl, ?_⟩
      refine ⟨_, _, h1, rfl, ?_⟩
      refine ⟨_, _, h2, rfl, ?_⟩
      refine ⟨_, i_unless_ok B E.2.2.2.2.1 (b := p == q) (c := 2), rfl, ?_⟩
      refine ⟨_, rfl, ?_⟩
      refine ⟨_, first2_at B E.2.2.2.2.2 get_new, ?_⟩
      rintro _ _ ⟨rfl, rfl⟩
      refine ⟨rfl, ?_, Ext.app⟩
      rw [hA2] at hF1
      show Sv.one (.i .i64 (fz [if x1 = true then 0 else 1, if (p == q) = true then 0 else 2])) = Sv.one (.i .i64 (mpC p n f q m g Ls))
      unfold mpC
      by_cases hm : mpA p n f q m g Ls
      · rw [if_pos hm, if_pos (hF1.2 hm), mz_tl]
        by_cases e : p = q
        · rw [if_pos (by simpa using e), if_pos e]
        · rw [if_neg (by simpa using e), if_neg e]
      · rw [if_neg hm, if_neg fun z => hm (hF1.1 z), mz_hd (by decide)]

set_option maxHeartbeats 4000000 in
theorem s_l02Convolve_ok (B : Bs P ρ) (E : F_s_l02Convolve P ρ) {p : Int} {n m : Nat} {f g F G : By} (hp : 1 ≤ p) (hp2 : p ≤ 256) (hn : n ≤ 8) (hm : m ≤ 8) :
    CallOK P ρ 190 [.ag [p, (n : Int)] 522 f, .ag [p, (m : Int)] 522 g, .ag [] 64 F, .ag [] 64 G] [] (.one (.ag [] 64 (cvF p n m f g F G))) [] := by
  refine (CallR.pure (call_of_q B.fn B.mo E.1 rfl (fun _ _ => ?_) rfl) rfl).ok
  refine ⟨_, rfl, ?_⟩
  refine ⟨_, rfl, ?_⟩
  refine ⟨_, rfl, ?_⟩
  refine ⟨_, rfl, ?_⟩
  refine ⟨_, rfl, ?_⟩
  refine ⟨_, rfl, ?_⟩
  refine ⟨_, _, _, rfl, cputs_by (by simp) (by omega), eqBk_rfl, ?_⟩
  refine ⟨Unit, (fun a4 a5 a6 a7 a8 a9 (i0 : Nat) (x0 : Unit) => [(4, a4), (5, a5), (6, a6), (7, a7), (8, a8), (9, a9), (10, .one (.i .i64 ((i0 : Nat) : Int)))]) _ _ _ _ _ _ , fun (i0 : Nat) (x0 : Unit) (G0 : List Blk) => (∃ w, G0 = [⟨false, .by [p, (n : Int)] 522 f⟩, ⟨false, .by [p, (m : Int)] 522 g⟩, ⟨false, .by [] 64 F⟩, ⟨false, .by [] 64 G⟩, ⟨false, .by [] 64 fun _ => 0⟩, ⟨false, .by [] 64 w⟩] ∧ CvI (cvW p n m f g F G) n i0 0 0 w), n, ⟨(), ⟨_, rfl, CvI.z cvW_0 fun x hx => by simp [spl]⟩, ⟨rfl, rfl, rfl, rfl, rfl, rfl, rfl, trivial⟩⟩, ?_⟩
  rintro i0 _ G0 hi0 ⟨w0, rfl, hI0⟩
  refine ⟨_, _, rfl, rfl, ?_⟩
  refine ⟨fun h17 => ?_, fun h17 => ?_⟩
  · replace h17 := of_decide_eq_true h17
    refine ⟨Unit, (fun a4 a5 a6 a7 a8 a9 a10 (i1 : Nat) (x1 : Unit) => [(4, a4), (5, a5), (6, a6), (7, a7), (8, a8), (9, a9), (10, a10), (11, .one (.i .i64 ((i1 : Nat) : Int)))]) _ _ _ _ _ _ _ , fun (i1 : Nat) (x1 : Unit) (G1 : List Blk) => (∃ w, G1 = [⟨false, .by [p, (n : Int)] 522 f⟩, ⟨false, .by [p, (m : Int)] 522 g⟩, ⟨false, .by [] 64 F⟩, ⟨false, .by [] 64 G⟩, ⟨false, .by [] 64 fun _ => 0⟩, ⟨false, .by [] 64 w⟩] ∧ CvI (cvW p n m f g F G) n i0 i1 0 w), n, ⟨(), ⟨_, rfl, hI0⟩, ⟨rfl, rfl, rfl, rfl, rfl, rfl, rfl, rfl, trivial⟩⟩, ?_⟩
    rintro i1 _ G1 hi1 ⟨w1, rfl, hI1⟩
    refine ⟨_, _, rfl, rfl, ?_⟩
    refine ⟨fun h23 => ?_, fun h23 => ?_⟩
    · replace h23 := of_decide_eq_true h23
      refine ⟨Unit, (fun a4 a5 a6 a7 a8 a9 a10 a11 (i2 : Nat) (x2 : Unit) => [(4, a4), (5, a5), (6, a6), (7, a7), (8, a8), (9, a9), (10, a10), (11, a11), (12, .one (.i .i64 ((i2 : Nat) : Int)))]) _ _ _ _ _ _ _ _ , fun (i2 : Nat) (x2 : Unit) (G2 : List Blk) => (∃ w, G2 = [⟨false, .by [p, (n : Int)] 522 f⟩, ⟨false, .by [p, (m : Int)] 522 g⟩, ⟨false, .by [] 64 F⟩, ⟨false, .by [] 64 G⟩, ⟨false, .by [] 64 fun _ => 0⟩, ⟨false, .by [] 64 w⟩] ∧ CvI (cvW p n m f g F G) n i0 i1 i2 w), n, ⟨(), ⟨_, rfl, hI1⟩, ⟨rfl, rfl, rfl, rfl, rfl, rfl, rfl, rfl, rfl, trivial⟩⟩, ?_⟩
      rintro i2 _ G2 hi2 ⟨w2, rfl, hI2⟩
      refine ⟨_, _, rfl, rfl, ?_⟩
      refine ⟨fun h29 => ?_, fun h29 => ?_⟩
      · replace h29 := of_decide_eq_true h29
        refine ⟨i0, _, rfl, by omega, rfl, ?_⟩
        refine ⟨i1, _, rfl, by omega, rfl, ?_⟩
        refine ⟨i2, _, rfl, by omega, rfl, ?_⟩
        refine ⟨_, _, rfl, cat_bq (10 + i0 * 64 + i1 * 8 + i2) (by omega) (by simp <;> omega) (by omega), ?_⟩
        refine ⟨fun h40 => ?_, fun h40 => ?_⟩
        · replace h40 := bne_t h40
          refine ⟨_, _, rfl, rfl, ?_⟩
          refine ⟨i0, _, rfl, by omega, rfl, ?_⟩
          refine ⟨_, _, _, _, cvW p n m f g F G i0 i1 i2, rfl, ⟨by simp, by omega⟩, fun x hx => by rw [← hI2.cur (by omega) hx]; congr 1; omega, ?_⟩
          refine .inl ⟨_, _, _, _, rfl, ⟨rfl, by omega⟩, ?_⟩
          refine ⟨i1, _, rfl, by omega, rfl, ?_⟩
          refine ⟨_, _, _, _, sh F (i1 * 8), rfl, ⟨by simp, by omega⟩, fun x hx => by show F _ = F _; congr 1; omega, ?_⟩
          refine ⟨i2, _, rfl, by omega, rfl, ?_⟩
          refine ⟨_, _, _, _, sh G (i2 * 8), rfl, ⟨by simp, by omega⟩, fun x hx => by show G _ = G _; congr 1; omega, ?_⟩
          refine ⟨_, s_l01Times_ok B E.2.1 (p := p) (n := m) (f := g) (v := sh F (i1 * 8)) (w := sh G (i2 * 8)) hp hp2 hm, rfl, ?_⟩
          refine ⟨i0, _, rfl, by omega, rfl, ?_⟩
          refine ⟨i1, _, rfl, by omega, rfl, ?_⟩
          refine ⟨i2, _, rfl, by omega, rfl, ?_⟩
          refine ⟨_, _, rfl, cat_bq (10 + i0 * 64 + i1 * 8 + i2) (by omega) (by simp <;> omega) (by omega), ?_⟩
          have hbl := toNat_le (f (10 + i0 * 64 + i1 * 8 + i2))
          refine ⟨_, s_l01Add_ok B E.2.2 (p := p) (k := bz f (10 + i0 * 64 + i1 * 8 + i2)) (v := cvW p n m f g F G i0 i1 i2) (w := vec 8 p (prd m g 10 (sh F (i1 * 8)) (sh G (i2 * 8)))) hp (by omega) (by unfold bz; omega) (by unfold bz; omega), rfl, ?_⟩
          rw [cvW_k hp hp2]
          refine ⟨i0, _, rfl, by omega, rfl, ?_⟩
          refine ⟨_, _, _, rfl, cputs_by (by simp) (by omega), eqBk_rfl, ?_⟩
          refine ⟨((i2 + 1 : Nat) : Int), w64_id _ (by omega) (by omega), ?_⟩
          refine ⟨by omega, (), ?_, ⟨rfl, rfl, rfl, rfl, rfl, rfl, rfl, rfl, rfl, trivial⟩⟩
          refine ⟨_, rfl, hI2.st (fun x hx he => ?_) fun y hy => ?_⟩
          · unfold spl; rw [if_neg (by omega)]
          · unfold spl; rw [if_pos (by omega)]; congr 1; omega
        · replace h40 := bne_f h40
          refine ⟨((i2 + 1 : Nat) : Int), w64_id _ (by omega) (by omega), ?_⟩
          refine ⟨by omega, (), ?_, ⟨rfl, rfl, rfl, rfl, rfl, rfl, rfl, rfl, rfl, trivial⟩⟩
          have hz : bz f (10 + i0 * 64 + i1 * 8 + i2) = 0 := bz_eq0.2 h40
          exact ⟨_, rfl, hI2.eq (cvW_z hz).symm⟩
      · replace h29 := of_decide_eq_false h29
        have e2 : n = i2 := by omega
        subst e2
        refine ⟨((i1 + 1 : Nat) : Int), w64_id _ (by omega) (by omega), ?_⟩
        exact ⟨by omega, (), ⟨_, rfl, hI2.eq cvW_j⟩, ⟨rfl, rfl, rfl, rfl, rfl, rfl, rfl, rfl, trivial⟩⟩
    · replace h23 := of_decide_eq_false h23
      have e1 : n = i1 := by omega
      subst e1
      refine ⟨((i0 + 1 : Nat) : Int), w64_id _ (by omega) (by omega), ?_⟩
      exact ⟨by omega, (), ⟨_, rfl, hI1.nx cvW_0⟩, ⟨rfl, rfl, rfl, rfl, rfl, rfl, rfl, trivial⟩⟩
  · replace h17 := of_decide_eq_false h17
    have e0 : n = i0 := by omega
    subst e0
    refine ⟨_, _, _, _, cvF p n m f g F G, rfl, ⟨by simp, by omega⟩, fun x hx => by rw [Nat.zero_add]; exact cvF_of hI0 x hx, ?_⟩
    refine ⟨_, _, _, rfl, cputs_by (by simp) (by omega), eqBk_rfl, ?_⟩
    exact ⟨rfl, false, [], 64, _, cvF p n m f g F G, rfl, ⟨by simp, by omega⟩, fun x hx => by simp [spl, hx], rfl, Ext.nil⟩

theorem s_ConvolveMaps_ok (B : Bs P ρ) (E : F_s_ConvolveMaps P ρ) {p n q m : Int} {f g F G : By} :
    CallOK P ρ 178 [.ag [p, n] 522 f, .ag [q, m] 522 g, .ag [] 64 F, .ag [] 64 G] [] (.tup [.ag [] 64 (if mpC p n f q m g [F, G] = 0 then cvF p n.toNat m.toNat f g F G else z0), .i .i64 (mpC p n f q m g [F, G])]) [] := by
  refine (CallR.pure (call_of_q B.fn B.mo E.1 rfl (fun _ _ => ?_) rfl) rfl).ok
  refine ⟨_, rfl, ?_⟩
  refine ⟨_, rfl, ?_⟩
  refine ⟨_, rfl, ?_⟩
  refine ⟨_, rfl, ?_⟩
  refine ⟨_, rfl, ?_⟩
  refine .inl ⟨_, _, _, _, rfl, ⟨rfl, by omega⟩, ?_⟩
  refine .inl ⟨_, _, _, _, rfl, ⟨rfl, by omega⟩, ?_⟩
  refine ⟨_, _, _, _, F, rfl, ⟨by simp, by omega⟩, fun x _ => congrArg _ (Nat.zero_add x).symm, ?_⟩
  refine ⟨_, _, _, _, G, rfl, ⟨by simp, by omega⟩, fun x _ => congrArg _ (Nat.zero_add x).symm, ?_⟩
  refine ⟨_, rfl, ?_⟩
  refine ⟨_, s_l02Maps_ok B E.2.1 (p := p) (n := n) (q := q) (m := m) (f := f) (g := g) (Ls := [F, G]) (.inr ⟨_, _, _, _, rfl, rfl, by simp, fun i x hi hx => by
    rcases (show i = 0 ∨ i = 1 by simp at hi; omega) with rfl | rfl
    · simp [spl, show x < 128 by omega, hx]; intro h; omega
    · simp [spl, hx]; intro h; omega⟩) (by simp), ?_⟩
  rintro _ _ ⟨rfl, rfl⟩
  refine ⟨fun h18 => ?_, fun h18 => ?_⟩
  · replace h18 := bne_t h18
    have hc : mpC p n f q m g [F, G] ≠ 0 := h18
    refine ⟨_, _, _, rfl, cputs_by (by simp) (by omega), eqBk_rfl, ?_⟩
    first
      | exact ⟨rfl, false, [], 64, _, z0, rfl, ⟨by simp, by omega⟩, fun x hx => by simp [spl, hx, z0], by rw [if_neg hc]; rfl, Ext.nil⟩
      | exact ⟨rfl, false, [], 64, _, cvF p n m f g F G, rfl, ⟨by simp, by omega⟩, fun x hx => by simp [spl, hx], by rw [if_pos hc, hc]; rfl, Ext.nil⟩
  · replace h18 := bne_f h18
    have hc : mpC p n f q m g [F, G] = 0 := h18
    have hq : mpA p n f q m g [F, G] ∧ p = q := by
      unfold mpC at hc
      by_cases z : mpA p n f q m g [F, G]
      · rw [if_pos z] at hc
        by_cases e : p = q
        · exact ⟨z, e⟩
        · rw [if_neg e] at hc; cases hc
      · rw [if_neg z] at hc; cases hc
    obtain ⟨hq, rfl⟩ := hq
    obtain ⟨n, rfl⟩ : ∃ k : Nat, n = (k : Int) := ⟨n.toNat, by have := hq.1.1.1.1.2.1; omega⟩
    obtain ⟨m, rfl⟩ : ∃ k : Nat, m = (k : Int) := ⟨m.toNat, by have := hq.1.2.1.1.2.1; omega⟩
    have hp2 := hq.1.1.1.1.1.1
    have hp3 := hq.1.1.1.1.1.2.1
    have hn8 : n ≤ 8 := by have := hq.1.1.1.1.2.2; omega
    have hm8 : m ≤ 8 := by have := hq.1.2.1.1.2.2; omega
    refine .inl ⟨_, _, _, _, rfl, ⟨rfl, by omega⟩, ?_⟩
    refine .inl ⟨_, _, _, _, rfl, ⟨rfl, by omega⟩, ?_⟩
    refine ⟨_, _, _, _, F, rfl, ⟨by simp, by omega⟩, fun x _ => congrArg _ (Nat.zero_add x).symm, ?_⟩
    refine ⟨_, _, _, _, G, rfl, ⟨by simp, by omega⟩, fun x _ => congrArg _ (Nat.zero_add x).symm, ?_⟩
    refine ⟨_, s_l02Convolve_ok B E.2.2 (p := p) (n := n) (m := m) (f := f) (g := g) (F := F) (G := G) (by omega) (by omega) hn8 hm8, rfl, ?_⟩
    refine ⟨_, _, _, rfl, cputs_by (by simp) (by omega), eqBk_rfl, ?_⟩
    first
      | exact ⟨rfl, false, [], 64, _, z0, rfl, ⟨by simp, by omega⟩, fun x hx => by simp [spl, hx, z0], by rw [if_neg hc]; rfl, Ext.nil⟩
      | exact ⟨rfl, false, [], 64, _, cvF p n m f g F G, rfl, ⟨by simp, by omega⟩, fun x hx => by simp [spl, hx], by rw [if_pos hc, hc]; rfl, Ext.nil⟩

end Hf
namespace Hf
open Go Classical
variable {P : Program} {ρ : Nat → FuncId}
theorem ag_field_at (B : Bs P ρ) (E : E_i_Algebra_field P ρ) {H : List Blk} {k : Nat} {r : Bool} {p n : Int} {f : By} (hk : H[k]? = some ⟨r, .by [p, n] 522 f⟩) : CallR P ρ 116 [.pt k 0] H fun u G => u = .one (.ag [p, n] 2 fun _ => 0) ∧ G = H :=
  CallOK.at1 hk (i_Algebra_field_ok B E (p := p) (n := n) (f := f)) rfl rfl
theorem mp_ok {p n q m : Int} {f g : By} {Ls : List By} (h : mpC p n f q m g Ls = 0) : mpA p n f q m g Ls ∧ p = q := by
  unfold mpC at h
  by_cases z : mpA p n f q m g Ls
  · rw [if_pos z] at h
    by_cases e : p = q
    · exact ⟨z, e⟩
    · rw [if_neg e] at h; cases h
  · rw [if_neg z] at h; cases h
/-- rows up to i -/
def UmI (p : Int) (f g : By) (i : Nat) (w : By) : Prop := ∀ x, x < 64 → w x = if x / 8 < i then vec 8 p (fun y => bz f (2 + x / 8) * bz g (2 + y)) (x % 8) else 0
theorem UmI.st {p : Int} {f g w w' : By} {i : Nat} (h : UmI p f g i w) (h1 : ∀ x, x < 64 → x / 8 ≠ i → w' x = w x) (h2 : ∀ y, y < 8 → w' (i * 8 + y) = vec 8 p (fun y => bz f (2 + i) * bz g (2 + y)) y) : UmI p f g (i + 1) w' := fun x hx => by
  by_cases e : x / 8 = i
  · rw [if_pos (by omega), e]
    have := h2 (x % 8) (by omega)
    rwa [show i * 8 + x % 8 = x by omega] at this
  · rw [h1 x hx e, h x hx]
    by_cases q : x / 8 < i
    · rw [if_pos q, if_pos (by omega)]
    · rw [if_neg q, if_neg (by omega)]
theorem UmI.all {p : Int} {n : Nat} {f g w : By} (hp : 1 ≤ p) (h : UmI p f g n w) (hn : n ≤ 8) (hf : ∀ i, n ≤ i → i < 8 → bz f (2 + i) = 0) : ∀ x, x < 64 → umF p f g x = w x := fun x hx => by
  rw [h x hx]
  unfold umF
  rw [if_pos hx]
  split
  · rfl
  · unfold vec
    rw [if_pos (by omega), hf (x / 8) (by omega) (by omega)]
    show byt ((0 * bz g (2 + x % 8)) % p) = 0
    rw [Int.zero_mul, Int.zero_emod]; rfl
def cvH (p : Int) (n m : Nat) (f g F G w : By) : List Blk := [⟨false, .by [p, (n : Int)] 522 f⟩, ⟨false, .by [p, (m : Int)] 522 g⟩, ⟨false, .by [] 64 F⟩, ⟨false, .by [] 64 G⟩, ⟨false, .by [] 64 fun _ => 0⟩, ⟨false, .rw [.pt 2 0, .pt 3 0]⟩, ⟨false, .by [] 64 w⟩, ⟨false, .by [p, (m : Int)] 2 fun _ => 0⟩]
theorem s_UnitMap_ok (B : Bs P ρ) (E : F_s_UnitMap P ρ) {p n q m : Int} {f g : By} :
    CallOK P ρ 181 [.ag [p, n] 522 f, .ag [q, m] 522 g] [] (.tup [.ag [] 64 (if mpC p n f q m g [] = 0 then umF p f g else z0), .i .i64 (mpC p n f q m g [])]) [] := by
  refine (CallR.pure (call_of_q B.fn B.mo E.1 rfl (fun _ _ => ?_) rfl) rfl).ok
  refine ⟨_, rfl, ?_⟩
  refine ⟨_, rfl, ?_⟩
  refine ⟨_, rfl, ?_⟩
  refine .inl ⟨_, _, _, _, rfl, ⟨rfl, by omega⟩, ?_⟩
  refine .inl ⟨_, _, _, _, rfl, ⟨rfl, by omega⟩, ?_⟩
  refine ⟨_, s_l02Maps_ok B E.2.1 (p := p) (n := n) (q := q) (m := m) (f := f) (g := g) (Ls := []) (.inl ⟨rfl, rfl⟩) (by simp), ?_⟩
  rintro _ _ ⟨rfl, rfl⟩
  refine ⟨fun h13 => ?_, fun h13 => ?_⟩
  · replace h13 := bne_t h13
    have hc : mpC p n f q m g [] ≠ 0 := h13
    refine ⟨_, _, _, rfl, cputs_by (by simp) (by omega), eqBk_rfl, ?_⟩
    first
      | exact ⟨rfl, false, [], 64, _, z0, rfl, ⟨by simp, by omega⟩, fun x hx => by simp [spl, hx, z0], by rw [if_neg hc]; rfl, Ext.nil⟩
      | exact ⟨rfl, false, [], 64, _, umF p f g, rfl, ⟨by simp, by omega⟩, fun x hx => by simp [spl, hx], by rw [if_pos hc, hc]; rfl, Ext.nil⟩
  · replace h13 := bne_f h13
    have hc : mpC p n f q m g [] = 0 := h13
    obtain ⟨hq, rfl⟩ := mp_ok hc
    obtain ⟨n, rfl⟩ : ∃ k : Nat, n = (k : Int) := ⟨n.toNat, by have := hq.1.1.1.1.2.1; omega⟩
    have hp2 := hq.1.1.1.1.1.1
    have hp3 := hq.1.1.1.1.1.2.1
    have hn8 : n ≤ 8 := by have := hq.1.1.1.1.2.2; omega
    have hf8 : ∀ i, n ≤ i → i < 8 → bz f (2 + i) = 0 := fun i h1 h2 => (hq.1.1.1.2.1 i h2).2 (by omega)
    refine ⟨_, rfl, ?_⟩
    refine ⟨_, _, _, rfl, cputs_by (by simp) (by omega), eqBk_rfl, ?_⟩
    refine ⟨Unit, (fun a2 a3 a4 a7 (i0 : Nat) (x0 : Unit) => [(2, a2), (3, a3), (4, a4), (7, a7), (8, .one (.i .i64 ((i0 : Nat) : Int)))]) _ _ _ _ , fun (i0 : Nat) (x0 : Unit) (G0 : List Blk) => (∃ w, G0 = [⟨false, .by [p, (n : Int)] 522 f⟩, ⟨false, .by [p, m] 522 g⟩, ⟨false, .by [] 64 fun _ => 0⟩, ⟨false, .by [] 64 w⟩] ∧ UmI p f g i0 w), n, ⟨(), ⟨_, rfl, fun x hx => by simp [spl]⟩, ⟨rfl, rfl, rfl, rfl, rfl, trivial⟩⟩, ?_⟩
    rintro i0 _ G0 hi0 ⟨w, rfl, hI0⟩
    refine ⟨_, _, rfl, rfl, ?_⟩
    refine ⟨fun h20 => ?_, fun h20 => ?_⟩
    · replace h20 := of_decide_eq_true h20
      refine ⟨_, _, rfl, rfl, ?_⟩
      refine ⟨_, _, _, _, sh g 2, rfl, ⟨by simp, by omega⟩, fun x hx => rfl, ?_⟩
      refine ⟨i0, _, rfl, by omega, rfl, ?_⟩
      refine ⟨_, _, rfl, cat_bq (2 + i0) (by omega) (by simp <;> omega) (by omega), ?_⟩
      have hbl := toNat_le (f (2 + i0))
      refine ⟨_, s_l01Add_ok B E.2.2 (p := p) (k := bz f (2 + i0)) (v := fun _ => 0) (w := sh g 2) (by omega) (by omega) (by unfold bz; omega) (by unfold bz; omega), rfl, ?_⟩
      refine ⟨i0, _, rfl, by omega, rfl, ?_⟩
      refine ⟨_, _, _, rfl, cputs_by (by simp) (by omega), eqBk_rfl, ?_⟩
      refine ⟨((i0 + 1 : Nat) : Int), w64_id _ (by omega) (by omega), ?_⟩
      refine ⟨by omega, (), ?_, ⟨rfl, rfl, rfl, rfl, rfl, trivial⟩⟩
      refine ⟨_, rfl, hI0.st (fun x hx he => ?_) fun y hy => ?_⟩
      · unfold spl; rw [if_neg (by omega)]
      · unfold spl; rw [if_pos (by omega), show i0 * 8 + y - (0 + i0 * 8) = y by omega]
        exact congrFun (vec_congr fun k hk => cg_of_eq (by show (0 : Int) + bz f (2 + i0) * bz g (2 + k) = _; omega)) y
    · replace h20 := of_decide_eq_false h20
      have e0 : n = i0 := by omega
      subst e0
      refine ⟨_, _, _, _, umF p f g, rfl, ⟨by simp, by omega⟩, fun x hx => by rw [Nat.zero_add]; exact hI0.all (by omega) hn8 hf8 x hx, ?_⟩
      refine ⟨_, _, _, rfl, cputs_by (by simp) (by omega), eqBk_rfl, ?_⟩
      first
        | exact ⟨rfl, false, [], 64, _, z0, rfl, ⟨by simp, by omega⟩, fun x hx => by simp [spl, hx, z0], by rw [if_neg hc]; rfl, Ext.nil⟩
        | exact ⟨rfl, false, [], 64, _, umF p f g, rfl, ⟨by simp, by omega⟩, fun x hx => by simp [spl, hx], by rw [if_pos hc, hc]; rfl, Ext.nil⟩

theorem i_UnitMap_ok (B : Bs P ρ) (E : F_i_UnitMap P ρ) {p n q m : Int} {f g : By} :
    CallOK P ρ 182 [.ag [p, n] 522 f, .ag [q, m] 522 g] [] (.tup [.ag [] 64 (if mpC p n f q m g [] = 0 then umF p f g else z0), .i .i64 (mpC p n f q m g [])]) [] := by
  refine (CallR.pure (call_of_q B.fn B.mo E.1 rfl (fun _ _ => ?_) rfl) rfl).ok
  refine ⟨_, rfl, ?_⟩
  refine ⟨_, rfl, ?_⟩
  refine ⟨_, rfl, ?_⟩
  refine ⟨_, i_mapsCode_ok B E.2.1 (p := p) (n := n) (q := q) (m := m) (f := f) (g := g) (Ls := []) rfl rfl ⟨[], rfl, rfl, fun i hi => absurd hi (by simp)⟩ rfl (by simp), ?_⟩
  rintro _ _ ⟨rfl, rfl⟩
  refine ⟨fun h12 => ?_, fun h12 => ?_⟩
  · replace h12 := bne_t h12
    have hc : mpC p n f q m g [] ≠ 0 := h12
    refine ⟨_, _, _, rfl, cputs_by (by simp) (by omega), eqBk_rfl, ?_⟩
    first
      | exact ⟨rfl, false, [], 64, _, z0, rfl, ⟨by simp, by omega⟩, fun x hx => by simp [spl, hx, z0], by rw [if_neg hc]; rfl, Ext.nil⟩
      | exact ⟨rfl, false, [], 64, _, umF p f g, rfl, ⟨by simp, by omega⟩, fun x hx => by simp [spl, hx], by rw [if_pos hc, hc]; rfl, Ext.nil⟩
  · replace h12 := bne_f h12
    have hc : mpC p n f q m g [] = 0 := h12
    obtain ⟨hq, rfl⟩ := mp_ok hc
    have hp2 := hq.1.1.1.1.1.1
    have hp3 := hq.1.1.1.1.1.2.1
    refine ⟨_, rfl, ?_⟩
    refine ⟨_, _, _, rfl, cputs_by (by simp) (by omega), eqBk_rfl, ?_⟩
    refine ⟨_, _, _, _, sh f 2, rfl, ⟨by simp, by omega⟩, fun x hx => rfl, ?_⟩
    refine ⟨Unit, (fun a3 a4 a7 a17 (i0 : Nat) (x0 : Unit) => [(3, a3), (4, a4), (7, a7), (17, a17), (18, .one (.i .i64 ((i0 : Nat) : Int)))]) _ _ _ _ , fun (i0 : Nat) (x0 : Unit) (G0 : List Blk) => (∃ w, G0 = [⟨false, .by [p, n] 522 f⟩, ⟨false, .by [p, m] 522 g⟩, ⟨false, .by [] 64 fun _ => 0⟩, ⟨false, .by [] 64 w⟩] ∧ UmI p f g i0 w), 8, ⟨(), ⟨_, rfl, fun x hx => by simp [spl]⟩, ⟨rfl, rfl, rfl, rfl, rfl, trivial⟩⟩, ?_⟩
    rintro i0 _ G0 hi0 ⟨w, rfl, hI0⟩
    refine ⟨fun h19 => ?_, fun h19 => ?_⟩
    · replace h19 := of_decide_eq_true h19
      refine ⟨_, rfl, by omega, by omega, ?_⟩
      refine ⟨_, _, _, _, sh g 2, rfl, ⟨by simp, by omega⟩, fun x hx => rfl, ?_⟩
      refine ⟨_, ag_field_at B E.2.2.1 (p := p) (n := m) (f := g) rfl, ?_⟩
      rintro _ _ ⟨rfl, rfl⟩
      refine ⟨⟨rfl, trivial⟩, ?_⟩
      have hbl := toNat_le (f (2 + i0))
      refine ⟨_, i_field_times_ok B E.2.2.2 (p := p) (n := m) (k := bz f (2 + i0)) (g := fun _ => 0) (w := sh g 2) (by omega) (by omega) (by unfold bz; omega) (by unfold bz; omega), rfl, ?_⟩
      refine ⟨i0, _, rfl, by omega, rfl, ?_⟩
      refine ⟨_, _, _, rfl, cputs_by (by simp) (by omega), eqBk_rfl, ?_⟩
      refine ⟨((i0 + 1 : Nat) : Int), w64_id _ (by omega) (by omega), ?_⟩
      refine ⟨by omega, (), ?_, ⟨rfl, rfl, rfl, rfl, rfl, trivial⟩⟩
      refine ⟨_, rfl, hI0.st (fun x hx he => ?_) fun y hy => ?_⟩
      · unfold spl; rw [if_neg (by omega)]
      · unfold spl; rw [if_pos (by omega), show i0 * 8 + y - (0 + i0 * 8) = y by omega]; rfl
    · replace h19 := of_decide_eq_false h19
      have e0 : 8 = i0 := by omega
      subst e0
      refine ⟨_, _, _, _, umF p f g, rfl, ⟨by simp, by omega⟩, fun x hx => by rw [Nat.zero_add]; exact hI0.all (by omega) (Nat.le_refl 8) (fun i h1 h2 => by omega) x hx, ?_⟩
      refine ⟨_, _, _, rfl, cputs_by (by simp) (by omega), eqBk_rfl, ?_⟩
      first
        | exact ⟨rfl, false, [], 64, _, z0, rfl, ⟨by simp, by omega⟩, fun x hx => by simp [spl, hx, z0], by rw [if_neg hc]; rfl, Ext.nil⟩
        | exact ⟨rfl, false, [], 64, _, umF p f g, rfl, ⟨by simp, by omega⟩, fun x hx => by simp [spl, hx], by rw [if_pos hc, hc]; rfl, Ext.nil⟩

set_option maxHeartbeats 4000000 in
theorem i_ConvolveMaps_ok (B : Bs P ρ) (E : F_i_ConvolveMaps P ρ) {p n q m : Int} {f g F G : By} :
    CallOK P ρ 179 [.ag [p, n] 522 f, .ag [q, m] 522 g, .ag [] 64 F, .ag [] 64 G] [] (.tup [.ag [] 64 (if mpC p n f q m g [F, G] = 0 then cvF p n.toNat m.toNat f g F G else z0), .i .i64 (mpC p n f q m g [F, G])]) [] := by
  refine (CallR.pure (call_of_q B.fn B.mo E.1 rfl (fun _ _ => ?_) rfl) rfl).ok
  refine ⟨_, rfl, ?_⟩
  refine ⟨_, rfl, ?_⟩
  refine ⟨_, rfl, ?_⟩
  refine ⟨_, rfl, ?_⟩
  refine ⟨_, rfl, ?_⟩
  refine ⟨_, rfl, ?_⟩
  refine ⟨_, i_mapsCode_ok B E.2.1 (p := p) (n := n) (q := q) (m := m) (f := f) (g := g) (Ls := [F, G]) rfl rfl ⟨[.pt 2 0, .pt 3 0], ⟨_, _, rfl, by simp, rfl⟩, rfl, fun i hi => by
    rcases (show i = 0 ∨ i = 1 by simp at hi; omega) with rfl | rfl
    · exact ⟨2, false, rfl, rfl⟩
    · exact ⟨3, false, rfl, rfl⟩⟩ rfl (by simp), ?_⟩
  rintro _ _ ⟨rfl, rfl⟩
  refine ⟨fun h20 => ?_, fun h20 => ?_⟩
  · replace h20 := bne_t h20
    have hc : mpC p n f q m g [F, G] ≠ 0 := h20
    refine ⟨_, _, _, rfl, cputs_by (by simp) (by omega), eqBk_rfl, ?_⟩
    first
      | exact ⟨rfl, false, [], 64, _, z0, rfl, ⟨by simp, by omega⟩, fun x hx => by simp [spl, hx, z0], by rw [if_neg hc]; rfl, Ext.nil⟩
      | exact ⟨rfl, false, [], 64, _, cvF p n m f g F G, rfl, ⟨by simp, by omega⟩, fun x hx => by simp [spl, hx], by rw [if_pos hc, hc]; rfl, Ext.nil⟩
  · replace h20 := bne_f h20
    have hc : mpC p n f q m g [F, G] = 0 := h20
    obtain ⟨hq, rfl⟩ := mp_ok hc
    obtain ⟨n, rfl⟩ : ∃ k : Nat, n = (k : Int) := ⟨n.toNat, by have := hq.1.1.1.1.2.1; omega⟩
    obtain ⟨m, rfl⟩ : ∃ k : Nat, m = (k : Int) := ⟨m.toNat, by have := hq.1.2.1.1.2.1; omega⟩
    have hp2 := hq.1.1.1.1.1.1
    have hp3 := hq.1.1.1.1.1.2.1
    have hp1 : 1 ≤ p := by omega
    have hp256 : p ≤ 256 := by omega
    have hn8 : n ≤ 8 := by have := hq.1.1.1.1.2.2; omega
    have hm8 : m ≤ 8 := by have := hq.1.2.1.1.2.2; omega
    refine ⟨_, ag_field_at B E.2.2.1 (p := p) (n := (m : Int)) (f := g) rfl, ?_⟩
    rintro _ _ ⟨rfl, rfl⟩
    refine ⟨_, rfl, ?_⟩
    refine ⟨_, rfl, ?_⟩
    refine ⟨_, _, _, rfl, cputs_by (by simp) (by omega), eqBk_rfl, ?_⟩
    refine ⟨_, _, _, rfl, cputs_2, eqBk_rfl, ?_⟩
    refine ⟨_, _, rfl, rfl, ?_⟩
    refine ⟨Unit, (fun a4 a5 a6 a7 a8 a11 a12 a26 (i0 : Nat) (x0 : Unit) => [(4, a4), (5, a5), (6, a6), (7, a7), (8, a8), (11, a11), (12, a12), (26, a26), (27, .one (.i .i64 ((i0 : Nat) : Int)))]) _ _ _ _ _ _ _ _ , fun (i0 : Nat) (x0 : Unit) (G0 : List Blk) => (∃ w, G0 = cvH p n m f g F G w ∧ CvI (cvW p n m f g F G) n i0 0 0 w), n, ⟨(), ⟨_, rfl, CvI.z cvW_0 fun x hx => by simp [spl]⟩, ⟨rfl, rfl, rfl, rfl, rfl, rfl, rfl, rfl, rfl, trivial⟩⟩, ?_⟩
    rintro i0 _ G0 hi0 ⟨w0, rfl, hI0⟩
    refine ⟨fun h28 => ?_, fun h28 => ?_⟩
    · replace h28 := of_decide_eq_true h28
      refine ⟨_, _, rfl, rfl, ?_⟩
      refine ⟨Unit, (fun a4 a5 a6 a7 a8 a11 a12 a13 a26 a27 a31 (i1 : Nat) (x1 : Unit) => [(4, a4), (5, a5), (6, a6), (7, a7), (8, a8), (11, a11), (12, a12), (13, a13), (26, a26), (27, a27), (31, a31), (32, .one (.i .i64 ((i1 : Nat) : Int)))]) _ _ _ _ _ _ _ _ _ _ _ , fun (i1 : Nat) (x1 : Unit) (G1 : List Blk) => (∃ w, G1 = cvH p n m f g F G w ∧ CvI (cvW p n m f g F G) n i0 i1 0 w), n, ⟨(), ⟨_, rfl, hI0⟩, ⟨rfl, rfl, rfl, rfl, rfl, rfl, rfl, rfl, rfl, rfl, rfl, rfl, trivial⟩⟩, ?_⟩
      rintro i1 _ G1 hi1 ⟨w1, rfl, hI1⟩
      refine ⟨fun h33 => ?_, fun h33 => ?_⟩
      · replace h33 := of_decide_eq_true h33
        refine ⟨_, _, rfl, rfl, ?_⟩
        refine ⟨Unit, (fun a4 a5 a6 a7 a8 a11 a12 a13 a14 a26 a27 a31 a32 a36 (i2 : Nat) (x2 : Unit) => [(4, a4), (5, a5), (6, a6), (7, a7), (8, a8), (11, a11), (12, a12), (13, a13), (14, a14), (26, a26), (27, a27), (31, a31), (32, a32), (36, a36), (37, .one (.i .i64 ((i2 : Nat) : Int)))]) _ _ _ _ _ _ _ _ _ _ _ _ _ _ , fun (i2 : Nat) (x2 : Unit) (G2 : List Blk) => (∃ w, G2 = cvH p n m f g F G w ∧ CvI (cvW p n m f g F G) n i0 i1 i2 w), n, ⟨(), ⟨_, rfl, hI1⟩, ⟨rfl, rfl, rfl, rfl, rfl, rfl, rfl, rfl, rfl, rfl, rfl, rfl, rfl, rfl, rfl, trivial⟩⟩, ?_⟩
        rintro i2 _ G2 hi2 ⟨w2, rfl, hI2⟩
        refine ⟨fun h38 => ?_, fun h38 => ?_⟩
        · replace h38 := of_decide_eq_true h38
          refine ⟨i0, _, rfl, by omega, rfl, ?_⟩
          refine ⟨i1, _, rfl, by omega, rfl, ?_⟩
          refine ⟨i2, _, rfl, by omega, rfl, ?_⟩
          refine ⟨_, _, rfl, cat_bq (10 + i0 * 64 + i1 * 8 + i2) (by omega) (by simp <;> omega) (by omega), ?_⟩
          have hbl := toNat_le (f (10 + i0 * 64 + i1 * 8 + i2))
          refine ⟨fun h50 => ?_, fun h50 => ?_⟩
          · replace h50 := bne_t h50
            refine .inl ⟨_, _, _, _, rfl, ⟨rfl, by omega⟩, ?_⟩
            refine ⟨i0, _, rfl, by omega, rfl, ?_⟩
            refine ⟨i1, _, rfl, by omega, rfl, ?_⟩
            refine ⟨_, _, _, _, sh F (i1 * 8), rfl, ⟨by simp, by omega⟩, fun x hx => by show F _ = F _; congr 1; omega, ?_⟩
            refine ⟨i2, _, rfl, by omega, rfl, ?_⟩
            refine ⟨_, _, _, _, sh G (i2 * 8), rfl, ⟨by simp, by omega⟩, fun x hx => by show G _ = G _; congr 1; omega, ?_⟩
            refine ⟨_, CallOK.at1 (k := 1) rfl (i_Algebra_product_ok B E.2.2.2.1 (p := p) (n := m) (f := g) (v := sh F (i1 * 8)) (w := sh G (i2 * 8)) hp1 hp256 hm8) rfl rfl, ?_⟩
            rintro _ _ ⟨rfl, rfl⟩
            refine ⟨⟨rfl, trivial⟩, ?_⟩
            refine ⟨_, plus_at B E.2.2.2.2 (k := 6) (off := 0 + i0 * 8) (N := 64) (hd := []) (f := w2) (p := p) (n := (m : Int)) (c := bz f (10 + i0 * 64 + i1 * 8 + i2)) (g0 := fun _ => 0) (w := vec 8 p (prd m g 10 (sh F (i1 * 8)) (sh G (i2 * 8)))) rfl hp1 (by omega) (by simp) (by omega) (by unfold bz; omega) (by unfold bz; omega) (fun x h1 h2 => ?_), ?_⟩
            · have hx := hI2.cur (y := x - i0 * 8) (by omega) (by omega)
              rw [show i0 * 8 + (x - i0 * 8) = x by omega] at hx
              show ((w2 x).toNat : Int) < p
              rw [hx]; exact cvW_lt hp1 hp256
            rintro _ _ ⟨rfl, rfl⟩
            refine ⟨((i2 + 1 : Nat) : Int), w64_id _ (by omega) (by omega), ?_⟩
            refine ⟨by omega, (), ?_, ⟨rfl, rfl, rfl, rfl, rfl, rfl, rfl, rfl, rfl, rfl, rfl, rfl, rfl, rfl, rfl, trivial⟩⟩
            refine ⟨_, rfl, hI2.st (fun x hx he => ?_) fun y hy => ?_⟩
            · unfold plsN; rw [if_neg (by omega)]
            · unfold plsN
              rw [if_pos (by omega), ← cvW_k hp1 hp256, show i0 * 8 + y - (0 + i0 * 8) = y by omega]
              unfold vec
              rw [if_pos hy]
              have hx := hI2.cur (y := y) (by omega) hy
              show byt (((w2 (i0 * 8 + y)).toNat + _) % p) = _
              rw [hx]; rfl
          · replace h50 := bne_f h50
            refine ⟨((i2 + 1 : Nat) : Int), w64_id _ (by omega) (by omega), ?_⟩
            refine ⟨by omega, (), ?_, ⟨rfl, rfl, rfl, rfl, rfl, rfl, rfl, rfl, rfl, rfl, rfl, rfl, rfl, rfl, rfl, trivial⟩⟩
            have hz : bz f (10 + i0 * 64 + i1 * 8 + i2) = 0 := h50
            exact ⟨_, rfl, hI2.eq (cvW_z hz).symm⟩
        · replace h38 := of_decide_eq_false h38
          have e2 : n = i2 := by omega
          subst e2
          refine ⟨((i1 + 1 : Nat) : Int), w64_id _ (by omega) (by omega), ?_⟩
          exact ⟨by omega, (), ⟨_, rfl, hI2.eq cvW_j⟩, ⟨rfl, rfl, rfl, rfl, rfl, rfl, rfl, rfl, rfl, rfl, rfl, rfl, trivial⟩⟩
      · replace h33 := of_decide_eq_false h33
        have e1 : n = i1 := by omega
        subst e1
        refine ⟨((i0 + 1 : Nat) : Int), w64_id _ (by omega) (by omega), ?_⟩
        exact ⟨by omega, (), ⟨_, rfl, hI1.nx cvW_0⟩, ⟨rfl, rfl, rfl, rfl, rfl, rfl, rfl, rfl, rfl, trivial⟩⟩
    · replace h28 := of_decide_eq_false h28
      have e0 : n = i0 := by omega
      subst e0
      refine ⟨_, _, _, _, cvF p n m f g F G, rfl, ⟨by simp, by omega⟩, fun x hx => by rw [Nat.zero_add]; exact cvF_of hI0 x hx, ?_⟩
      refine ⟨_, _, _, rfl, cputs_by (by simp) (by omega), eqBk_rfl, ?_⟩
      first
        | exact ⟨rfl, false, [], 64, _, z0, rfl, ⟨by simp, by omega⟩, fun x hx => by simp [spl, hx, z0], by rw [if_neg hc]; rfl, Ext.nil⟩
        | exact ⟨rfl, false, [], 64, _, cvF p n m f g F G, rfl, ⟨by simp, by omega⟩, fun x hx => by simp [spl, hx], by rw [if_pos hc, hc]; rfl, Ext.nil⟩

end Hf
namespace Hf
open Go Classical
variable {P : Program} {ρ : Nat → FuncId}
/-- the law's code, however long -/
def CV (H : List Blk) (a : At) : Prop := a = .sn ∨ ∃ k off len cap r cs fz, a = .sl k off len cap ∧ H[k]? = some ⟨r, .fo cs fz⟩ ∧ len ≤ 9223372036854775807 ∧ ∀ y, y < len → ∃ u : UInt8, cs[off + y]? = some (.int .u8 (u.toNat : Int))
theorem CV.len {H : List Blk} {a : At} (h : CV H a) : ∃ n, lenA a = some n ∧ n ≤ 9223372036854775807 := by
  rcases h with rfl | ⟨k, off, len, cap, r, cs, fz, rfl, -, h, -⟩
  · exact ⟨0, rfl, by omega⟩
  · exact ⟨len, rfl, h⟩
theorem CV.lt {H : List Blk} {a : At} (h : CV H a) : a.lt H.length = true := by
  rcases h with rfl | ⟨k, off, len, cap, r, cs, fz, rfl, h1, -⟩
  · rfl
  · simp [At.lt, lt_of h1]
theorem CV.cb {H : List Blk} {a : At} {n : Nat} (h : CV H a) (hn : lenA a = some n) (h2 : n ≤ 4096) : CB H a := by
  rcases h with rfl | ⟨k, off, len, cap, r, cs, fz, rfl, h1, h3, h4⟩
  · exact .inl rfl
  · have : len = n := by simpa [lenA] using hn
    exact .inr ⟨k, off, len, cap, r, cs, fz, rfl, h1, by omega, h4⟩
theorem eqB_self {n : Nat} {f : By} : eqB n f f = true := eqB_iff.2 fun _ _ => rfl
theorem mp_nil {p n q m : Int} {f g : By} {Ls : List By} (h : mpC p n f q m g Ls = 0) : mpC p n f q m g [] = 0 := by
  obtain ⟨h1, h2⟩ := mp_ok h
  unfold mpC
  rw [if_pos ⟨h1.1, fun i hi => absurd hi (by simp)⟩, if_pos h2]
theorem mp_2 {p n m : Int} {f g F G : By} (hC : Cog p n f) (hA : Alg p m g) (hF : Lin p n m F 0) (hG : Lin p n m G 0) : mpC p n f p m g [F, G] = 0 := by
  have hm : mpA p n f p m g [F, G] := ⟨⟨hC, hA⟩, fun i hi => by
    rcases (show i = 0 ∨ i = 1 by simp at hi; omega) with rfl | rfl
    · exact hF
    · exact hG⟩
  unfold mpC
  rw [if_pos hm]
  simp
theorem mp_val {p : Int} {n m : Nat} {f g F G : By} (h : mpC p n f p m g [F, G] = 0) : (if mpC p n f p m g [F, G] = 0 then cvF p (n : Int).toNat (m : Int).toNat f g F G else z0) = cvF p n m f g F G := by
  rw [if_pos h, Int.toNat_natCast, Int.toNat_natCast]
theorem ne_app {k : Nat} {G l : List Blk} (h : k < G.length) : k ≠ (G ++ l).length := by rw [List.length_append]; omega
theorem le_app {k : Nat} {G l : List Blk} (h : k ≤ G.length) : k ≤ (G ++ l).length := by rw [List.length_append]; omega
theorem as1 {H l : List Blk} {B : Blk} : H ++ l ++ [B] = H ++ (l ++ [B]) := List.append_assoc _ _ _
set_option maxHeartbeats 8000000 in
theorem l_FnConvolutionMaps_ok (B : Bs P ρ) (E : F_l_FnConvolutionMaps P ρ) {H : List Blk} {a : At} (hV : CV H a) :
    CallR P ρ 185 [a] H (fun u G => u = .one (.b true) ∧ G = H) := by
  obtain ⟨n0, hn0, hn1⟩ := hV.len
  refine CallR.pure (call_of_q B.fn B.mo E.1 rfl (fun hAr hHp => ?_) (by simp only [List.all_cons, List.all_nil, hV.lt]; rfl)) rfl
  refine ⟨_, l_big_ok B E.2.1 hn0 hV.lt, ?_⟩
  rintro _ H ⟨rfl, rfl⟩
  refine ⟨fun h31 => ?_, fun h31 => ?_⟩
  · skip
    exact ⟨rfl, rfl, Ext.refl⟩
  · skip
    have hC : CB H a := hV.cb hn0 (by have hh := h31; simp at hh; omega)
    refine ⟨_, s_DrawConvolveMaps_ok B E.2.2.1 hC, ?_⟩
    rintro _ G34 ⟨p, n, f, q, m, g, F, G, rfl, hE34⟩
    refine ⟨G34.length + 0, rfl, ?_⟩
    refine ⟨G34.length + 1, by simp, ?_⟩
    refine ⟨G34.length + 2, by simp, ?_⟩
    refine ⟨G34.length + 3, by simp, ?_⟩
    rw [ap4]
    refine ⟨_, _, _, at_k, cputs_2, eqBk_rfl, ?_⟩
    rw [app_set]
    refine ⟨_, _, _, at_k, cputs_2, eqBk_rfl, ?_⟩
    rw [app_set]
    refine ⟨_, _, _, at_k, cputs_by (by simp) (by omega), eqBk_rfl, ?_⟩
    rw [app_set]
    refine ⟨_, _, _, at_k, cputs_by (by simp) (by omega), eqBk_rfl, ?_⟩
    rw [app_set]
    refine .inl ⟨_, _, _, _, at_k, ⟨rfl, by omega⟩, ?_⟩
    refine .inl ⟨_, _, _, _, at_k, ⟨rfl, by omega⟩, ?_⟩
    refine ⟨_, _, _, _, F, at_k, ⟨by simp, by omega⟩, fun x hx => by simp [spl, hx], ?_⟩
    refine ⟨_, _, _, _, G, at_k, ⟨by simp, by omega⟩, fun x hx => by simp [spl, hx], ?_⟩
    refine ⟨_, s_ConvolveMaps_ok B E.2.2.2.1 (p := p) (n := n) (q := q) (m := m) (f := f) (g := g) (F := F) (G := G), rfl, ?_⟩
    generalize hR : (if mpC p n f q m g [F, G] = 0 then cvF p n.toNat m.toNat f g F G else z0) = R
    generalize hc : mpC p n f q m g [F, G] = c
    refine ⟨G34.length + 4, by simp, ?_⟩
    rw [as1]
    refine ⟨_, _, _, at_k, cputs_by (by simp) (by omega), eqBk_rfl, ?_⟩
    rw [app_set]
    refine .inl ⟨_, _, _, _, at_k, ⟨rfl, by omega⟩, ?_⟩
    refine .inl ⟨_, _, _, _, at_k, ⟨rfl, by omega⟩, ?_⟩
    refine ⟨_, _, _, _, F, at_k, ⟨by simp, by omega⟩, fun x hx => by simp [spl, hx], ?_⟩
    refine ⟨_, _, _, _, G, at_k, ⟨by simp, by omega⟩, fun x hx => by simp [spl, hx], ?_⟩
    refine ⟨_, i_ConvolveMaps_ok B E.2.2.2.2.1 (p := p) (n := n) (q := q) (m := m) (f := f) (g := g) (F := F) (G := G), rfl, ?_⟩
    rw [hR, hc]
    refine ⟨G34.length + 5, by simp, ?_⟩
    rw [as1]
    refine ⟨_, _, _, at_k, cputs_by (by simp) (by omega), eqBk_rfl, ?_⟩
    rw [app_set]
    refine ⟨fun h58 => ?_, fun h58 => ?_⟩
    · replace h58 := bne_t h58
      exact absurd rfl h58
    · replace h58 := bne_f h58
      refine ⟨_, _, _, _, R, at_k, ⟨by simp, by omega⟩, fun x hx => by simp [spl, hx], ?_⟩
      refine brB_f ?_
      refine ⟨_, _, _, _, R, at_k, ⟨by simp, by omega⟩, fun x hx => by simp [spl, hx], ?_⟩
      refine brB_f ?_
      refine brB_f ?_
      refine brB_f' (by rw [eqB_self]; rfl) ?_
      refine ⟨_, s_DrawUnitMap_ok B E.2.2.2.2.2.1 (hC.ext (hE34.trans Ext.app)), ?_⟩
      rintro _ G65 ⟨p2, n2, f2, q2, m2, g2, rfl, hE65⟩
      have hb3 := hE65 _ _ (at_k (i := 0))
      have hb4 := hE65 _ _ (at_k (i := 1))
      have hb5 := hE65 _ _ (at_k (i := 2))
      have hb6 := hE65 _ _ (at_k (i := 3))
      have hb9 := hE65 _ _ (at_k (i := 5))
      have hX : Ext H G65 := (hE34.trans Ext.app).trans hE65
      have hl65 := lt_of hb9
      refine ⟨G65.length + 0, rfl, ?_⟩
      refine ⟨G65.length + 1, by simp, ?_⟩
      rw [ap2]
      refine ⟨_, _, _, at_k, cputs_2, eqBk_rfl, ?_⟩
      rw [app_set]
      refine ⟨_, _, _, at_k, cputs_2, eqBk_rfl, ?_⟩
      rw [app_set]
      refine .inl ⟨_, _, _, _, at_k, ⟨rfl, by omega⟩, ?_⟩
      refine .inl ⟨_, _, _, _, at_k, ⟨rfl, by omega⟩, ?_⟩
      refine ⟨_, s_UnitMap_ok B E.2.2.2.2.2.2.1 (p := p2) (n := n2) (q := q2) (m := m2) (f := f2) (g := g2), rfl, ?_⟩
      generalize hU : (if mpC p2 n2 f2 q2 m2 g2 [] = 0 then umF p2 f2 g2 else z0) = U
      generalize huc : mpC p2 n2 f2 q2 m2 g2 [] = uc
      refine ⟨G65.length + 2, by simp, ?_⟩
      rw [as1]
      refine ⟨_, _, _, at_k, cputs_by (by simp) (by omega), eqBk_rfl, ?_⟩
      rw [app_set]
      refine .inl ⟨_, _, _, _, at_k, ⟨rfl, by omega⟩, ?_⟩
      refine .inl ⟨_, _, _, _, at_k, ⟨rfl, by omega⟩, ?_⟩
      refine ⟨_, i_UnitMap_ok B E.2.2.2.2.2.2.2.1 (p := p2) (n := n2) (q := q2) (m := m2) (f := f2) (g := g2), rfl, ?_⟩
      rw [hU, huc]
      refine ⟨G65.length + 3, by simp, ?_⟩
      rw [as1]
      refine ⟨_, _, _, at_k, cputs_by (by simp) (by omega), eqBk_rfl, ?_⟩
      rw [app_set]
      refine ⟨fun h83 => ?_, fun h83 => ?_⟩
      · replace h83 := bne_t h83
        exact absurd rfl h83
      · replace h83 := bne_f h83
        refine ⟨_, _, _, _, U, at_k, ⟨by simp, by omega⟩, fun x hx => by simp [spl, hx], ?_⟩
        refine brB_f ?_
        refine ⟨_, _, _, _, U, at_k, ⟨by simp, by omega⟩, fun x hx => by simp [spl, hx], ?_⟩
        refine brB_f ?_
        refine brB_f ?_
        refine brB_f' (by rw [eqB_self]; rfl) ?_
        refine ⟨fun h89 => ?_, fun h89 => ?_⟩
        · replace h89 := bne_t h89
          have hR0 : R = z0 := by rw [← hR, if_neg (by rw [hc]; exact h89)]
          refine ⟨_, _, _, _, R, app_old hb9, ⟨by simp, by omega⟩, fun x hx => by simp [spl, hx], ?_⟩
          refine ⟨rfl, ?_, hX.trans Ext.app⟩
          rw [hR0]
          show Sv.one (.b (eqB 64 z0 fun _ => 0)) = _
          rw [show eqB 64 z0 (fun _ => 0) = true from eqB_self]
        · replace h89 := bne_f h89
          obtain rfl : c = 0 := h89
          have hq := mp_ok hc
          obtain ⟨hq, hpq⟩ := hq
          subst hpq
          obtain ⟨n, rfl⟩ : ∃ k : Nat, n = (k : Int) := ⟨n.toNat, by have := hq.1.1.1.1.2.1; omega⟩
          obtain ⟨m, rfl⟩ : ∃ k : Nat, m = (k : Int) := ⟨m.toNat, by have := hq.1.2.1.1.2.1; omega⟩
          have hp2 := hq.1.1.1.1.1.1
          have hp3 := hq.1.1.1.1.1.2.1
          have hp1 : 1 ≤ p := by omega
          have hp256 : p ≤ 256 := by omega
          have hn8 : n ≤ 8 := by have := hq.1.1.1.1.2.2; omega
          have hm8 : m ≤ 8 := by have := hq.1.2.1.1.2.2; omega
          have hCo := hq.1.1
          have hAl := hq.1.2
          have hFl : Lin p n m F 0 := hq.2 0 (by simp)
          have hGl : Lin p n m G 0 := hq.2 1 (by simp)
          have hTa := hAl.1.2.2
          have hUl : Lin p n m (umF p f g) 0 := umF_lin hp1 hp256 hn8 hm8 hCo.1.2.1 hAl.1.2.1
          have hcvl : ∀ X Y : By, Lin p n m (cvF p n m f g X Y) 0 := fun X Y => cvF_lin hp1 hp256 hn8 hm8 hTa
          have hRv : R = cvF p n m f g F G := by rw [← hR]; exact mp_val hc
          subst hRv
          have hm0 := mp_nil hc
          refine .inl ⟨_, _, _, _, app_old hb3, ⟨rfl, by omega⟩, ?_⟩
          refine .inl ⟨_, _, _, _, app_old hb4, ⟨rfl, by omega⟩, ?_⟩
          refine ⟨_, i_UnitMap_ok B E.2.2.2.2.2.2.2.1 (p := p) (n := (n : Int)) (q := p) (m := (m : Int)) (f := f) (g := g), rfl, ?_⟩
          rw [if_pos hm0, hm0]
          refine ⟨G65.length + 4, by simp, ?_⟩
          rw [as1]
          refine ⟨_, _, _, at_k, cputs_by (by simp) (by omega), eqBk_rfl, ?_⟩
          rw [app_set]
          refine .inl ⟨_, _, _, _, app_old hb3, ⟨rfl, by omega⟩, ?_⟩
          refine .inl ⟨_, _, _, _, app_old hb4, ⟨rfl, by omega⟩, ?_⟩
          refine ⟨_, _, _, _, umF p f g, at_k, ⟨by simp, by omega⟩, fun x hx => by simp [spl, hx], ?_⟩
          refine ⟨_, _, _, _, F, app_old hb5, ⟨by simp, by omega⟩, fun x hx => by simp [spl, hx], ?_⟩
          refine ⟨_, i_ConvolveMaps_ok B E.2.2.2.2.1 (p := p) (n := (n : Int)) (q := p) (m := (m : Int)) (f := f) (g := g) (F := umF p f g) (G := F), rfl, ?_⟩
          have hm1 := mp_2 hCo hAl hUl hFl
          rw [mp_val hm1, hm1]
          refine ⟨G65.length + 5, by simp, ?_⟩
          rw [as1]
          refine ⟨_, _, _, at_k, cputs_by (by simp) (by omega), eqBk_rfl, ?_⟩
          rw [app_set]
          refine .inl ⟨_, _, _, _, app_old hb3, ⟨rfl, by omega⟩, ?_⟩
          refine .inl ⟨_, _, _, _, app_old hb4, ⟨rfl, by omega⟩, ?_⟩
          refine ⟨_, _, _, _, F, app_old hb5, ⟨by simp, by omega⟩, fun x hx => by simp [spl, hx], ?_⟩
          refine ⟨_, _, _, _, umF p f g, at_k, ⟨by simp, by omega⟩, fun x hx => by simp [spl, hx], ?_⟩
          refine ⟨_, i_ConvolveMaps_ok B E.2.2.2.2.1 (p := p) (n := (n : Int)) (q := p) (m := (m : Int)) (f := f) (g := g) (F := F) (G := umF p f g), rfl, ?_⟩
          have hm2 := mp_2 hCo hAl hFl hUl
          rw [mp_val hm2, hm2]
          refine ⟨G65.length + 6, by simp, ?_⟩
          rw [as1]
          refine ⟨_, _, _, at_k, cputs_by (by simp) (by omega), eqBk_rfl, ?_⟩
          rw [app_set]
          have hEl : eqB 64 (cvF p n m f g (umF p f g) F) F = true := eqB_of (lin_eq hp1 (hcvl _ _) hFl (by rw [tz_cv hp1 hp256 hn8 hm8 hAl hCo, tz_um hp1 hp256 hn8 hm8 hAl hCo]; funext i y; exact cnv_u))
          have hEr : eqB 64 (cvF p n m f g F (umF p f g)) F = true := eqB_of (lin_eq hp1 (hcvl _ _) hFl (by rw [tz_cv hp1 hp256 hn8 hm8 hAl hCo, tz_um hp1 hp256 hn8 hm8 hAl hCo]; funext i y; exact cnv_v))
          refine ⟨fun h117 => ?_, fun h117 => ?_⟩
          · replace h117 := bne_t h117
            exact absurd rfl h117
          · replace h117 := bne_f h117
            refine brB_f ?_
            refine brB_f ?_
            refine ⟨fun h121 => ?_, fun h121 => ?_⟩
            · replace h121 := bne_t h121
              exact absurd rfl h121
            · replace h121 := bne_f h121
              refine ⟨_, _, _, _, cvF p n m f g (umF p f g) F, at_k, ⟨by simp, by omega⟩, fun x hx => by simp [spl, hx], ?_⟩
              refine brB_f ?_
              refine ⟨_, _, _, _, F, app_old hb5, ⟨by simp, by omega⟩, fun x hx => by simp [spl, hx], ?_⟩
              refine brB_f ?_
              refine brB_f ?_
              refine ⟨fun h126 => ?_, fun h126 => ?_⟩
              · skip
                rw [hEl] at h126; cases h126
              · skip
                refine brB_f ?_
                refine brB_f ?_
                refine ⟨fun h130 => ?_, fun h130 => ?_⟩
                · replace h130 := bne_t h130
                  exact absurd rfl h130
                · replace h130 := bne_f h130
                  refine ⟨_, _, _, _, cvF p n m f g F (umF p f g), at_k, ⟨by simp, by omega⟩, fun x hx => by simp [spl, hx], ?_⟩
                  refine brB_f ?_
                  refine ⟨_, _, _, _, F, app_old hb5, ⟨by simp, by omega⟩, fun x hx => by simp [spl, hx], ?_⟩
                  refine brB_f ?_
                  refine brB_f ?_
                  refine brB_f' (by rw [hEr]; rfl) ?_
                  refine ⟨_, _, app_old hb4, rfl, ?_⟩
                  refine ⟨_, _, app_old hb3, rfl, ?_⟩
                  refine ⟨_, _, app_old hb4, rfl, ?_⟩
                  have hl3 := lt_of hb3
                  have hl4 := lt_of hb4
                  have hl5 := lt_of hb5
                  have hl6 := lt_of hb6
                  refine ⟨?_, ?_, trivial⟩
                  · skip
                    refine ⟨_, l_roll_ok B E.2.2.2.2.2.2.2.2.1 (a := a) (z := 9804) (hC.ext (hX.trans Ext.app)), ?_⟩
                    rintro _ Gr ⟨rfl, hEo, hSo⟩
                    refine ⟨⟨kept1 (app_old hb4) (hEo _ _ (app_old hb4)), kept1 (app_old hb3) (hEo _ _ (app_old hb3)), kept1 (app_old hb4) (hEo _ _ (app_old hb4)), trivial⟩, ?_⟩
                    refine ⟨?_, ?_, trivial⟩
                    · skip
                      refine ⟨_, l_linear9_ok B E.2.2.2.2.2.2.2.2.2 (p := p) (n := n) (m := m) hSo hp1 hp256 hn8 hm8, ?_⟩
                      rintro _ Gl ⟨T3, rfl, hT3, hfl, hSl⟩
                      have hg : ∀ {k : Nat} {B : Blk}, k < G65.length → G65[k]? = some B → Gl[k]? = some B := fun hk hb => by
                        first
                          | exact hfl.get (hEo _ _ (app_old hb)) (ne_app hk)
                          | exact hfl.get (app_old (hEo _ _ (app_old hb))) (ne_app hk)
                      have hXl : Ext H Gl := by
                        first
                          | exact ((hX.trans Ext.app).trans hEo).fr' hfl (le_app hX.len)
                          | exact (((hX.trans Ext.app).trans hEo).trans Ext.app).fr' hfl (le_app hX.len)
                      refine ⟨?_, trivial⟩
                      refine ⟨_, rfl, ?_⟩
                      refine ⟨⟨kept1 (hg hl4 hb4) (app_old (hg hl4 hb4)), kept1 (hg hl3 hb3) (app_old (hg hl3 hb3)), kept1 (hg hl4 hb4) (app_old (hg hl4 hb4)), trivial⟩, ?_⟩
                      refine ⟨?_, trivial⟩
                      refine ⟨_, _, .by [] 64 (spl (fun _ => 0) 0 64 T3), get_new, cputs_by (by simp) (by omega), eqBk_rfl, ?_⟩
                      rw [app_set0]
                      have hGE : ∀ {k : Nat} {B : Blk}, k < G65.length → G65[k]? = some B → (Gl ++ [⟨false, .by [] 64 (spl (fun _ => 0) 0 64 T3)⟩])[k]? = some B := fun hk hb => app_old (hg hk hb)
                      have hk23 : (Gl ++ [⟨false, .by [] 64 (spl (fun _ => 0) 0 64 T3)⟩])[Gl.length]? = some ⟨false, .by [] 64 (spl (fun _ => 0) 0 64 T3)⟩ := get_new
                      have hXE : Ext H (Gl ++ [⟨false, .by [] 64 (spl (fun _ => 0) 0 64 T3)⟩]) := hXl.trans Ext.app
                      generalize (Gl ++ [(⟨false, .by [] 64 (spl (fun _ => 0) 0 64 T3)⟩ : Blk)]) = GE at hGE hk23 hXE ⊢
                      refine .inl ⟨_, _, _, _, hGE hl3 hb3, ⟨rfl, by omega⟩, ?_⟩
                      refine .inl ⟨_, _, _, _, hGE hl4 hb4, ⟨rfl, by omega⟩, ?_⟩
                      refine ⟨_, _, _, _, cvF p n m f g F G, hGE hl65 hb9, ⟨by simp, by omega⟩, fun x hx => by simp [spl, hx], ?_⟩
                      refine ⟨_, _, _, _, T3, hk23, ⟨by simp, by omega⟩, fun x hx => by simp [spl, hx], ?_⟩
                      refine ⟨_, i_ConvolveMaps_ok B E.2.2.2.2.1 (p := p) (n := (n : Int)) (q := p) (m := (m : Int)) (f := f) (g := g) (F := cvF p n m f g F G) (G := T3), rfl, ?_⟩
                      have hm3 := mp_2 hCo hAl (hcvl F G) hT3
                      rw [mp_val hm3, hm3]
                      refine ⟨GE.length + 0, rfl, ?_⟩
                      refine ⟨_, _, _, at_k, cputs_by (by simp) (by omega), eqBk_rfl, ?_⟩
                      rw [app_set]
                      refine .inl ⟨_, _, _, _, app_old (hGE hl3 hb3), ⟨rfl, by omega⟩, ?_⟩
                      refine .inl ⟨_, _, _, _, app_old (hGE hl4 hb4), ⟨rfl, by omega⟩, ?_⟩
                      refine ⟨_, _, _, _, G, app_old (hGE hl6 hb6), ⟨by simp, by omega⟩, fun x hx => by simp [spl, hx], ?_⟩
                      refine ⟨_, _, _, _, T3, app_old hk23, ⟨by simp, by omega⟩, fun x hx => by simp [spl, hx], ?_⟩
                      refine ⟨_, i_ConvolveMaps_ok B E.2.2.2.2.1 (p := p) (n := (n : Int)) (q := p) (m := (m : Int)) (f := f) (g := g) (F := G) (G := T3), rfl, ?_⟩
                      have hm4 := mp_2 hCo hAl hGl hT3
                      rw [mp_val hm4, hm4]
                      refine ⟨GE.length + 1, by simp, ?_⟩
                      rw [as1]
                      refine ⟨_, _, _, at_k, cputs_by (by simp) (by omega), eqBk_rfl, ?_⟩
                      rw [app_set]
                      refine .inl ⟨_, _, _, _, app_old (hGE hl3 hb3), ⟨rfl, by omega⟩, ?_⟩
                      refine .inl ⟨_, _, _, _, app_old (hGE hl4 hb4), ⟨rfl, by omega⟩, ?_⟩
                      refine ⟨_, _, _, _, F, app_old (hGE hl5 hb5), ⟨by simp, by omega⟩, fun x hx => by simp [spl, hx], ?_⟩
                      refine ⟨_, _, _, _, cvF p n m f g G T3, at_k, ⟨by simp, by omega⟩, fun x hx => by simp [spl, hx], ?_⟩
                      refine ⟨_, i_ConvolveMaps_ok B E.2.2.2.2.1 (p := p) (n := (n : Int)) (q := p) (m := (m : Int)) (f := f) (g := g) (F := F) (G := cvF p n m f g G T3), rfl, ?_⟩
                      have hm5 := mp_2 hCo hAl hFl (hcvl G T3)
                      rw [mp_val hm5, hm5]
                      refine ⟨GE.length + 2, by simp, ?_⟩
                      rw [as1]
                      refine ⟨_, _, _, at_k, cputs_by (by simp) (by omega), eqBk_rfl, ?_⟩
                      rw [app_set]
                      refine ⟨fun h170 => ?_, fun h170 => ?_⟩
                      · replace h170 := eq_of_beq h170
                        refine brB_t ?_
                        refine brB_t ?_
                        refine ⟨fun h174 => ?_, fun h174 => ?_⟩
                        · replace h174 := eq_of_beq h174
                          refine brB_t ?_
                          refine brB_t ?_
                          refine ⟨fun h178 => ?_, fun h178 => ?_⟩
                          · replace h178 := eq_of_beq h178
                            refine ⟨_, _, _, _, cvF p n m f g (cvF p n m f g F G) T3, at_k, ⟨by simp, by omega⟩, fun x hx => by simp [spl, hx], ?_⟩
                            refine brB_t ?_
                            refine ⟨_, _, _, _, cvF p n m f g F (cvF p n m f g G T3), at_k, ⟨by simp, by omega⟩, fun x hx => by simp [spl, hx], ?_⟩
                            refine brB_t ?_
                            refine brB_t ?_
                            refine ⟨rfl, ?_, hXE.trans Ext.app⟩
                            have hAs : eqB 64 (cvF p n m f g (cvF p n m f g F G) T3) (cvF p n m f g F (cvF p n m f g G T3)) = true := eqB_of (lin_eq hp1 (hcvl _ _) (hcvl _ _) (by simp only [tz_cv hp1 hp256 hn8 hm8 hAl hCo]; funext i y; exact cnv_as))
                            show Sv.one (.b (eqB 64 (cvF p n m f g (cvF p n m f g F G) T3) (cvF p n m f g F (cvF p n m f g G T3)))) = _
                            rw [hAs]
                          · replace h178 := ne_of_beq_false h178
                            exact absurd rfl h178
                        · replace h174 := ne_of_beq_false h174
                          exact absurd rfl h174
                      · replace h170 := ne_of_beq_false h170
                        exact absurd rfl h170
                    · skip
                      first
                        | (obtain ⟨K, hK⟩ : ∃ K, Gr.length = K := ⟨_, rfl⟩; refine ⟨K, hK, ?_⟩)
                        | (obtain ⟨K, hK⟩ : ∃ K, G65.length + 7 = K := ⟨_, rfl⟩; refine ⟨K, by rw [← hK]; simp, ?_⟩)
                      first
                        | refine ⟨⟨kept1 (app_old hb4) (app_old (app_old hb4)), kept1 (app_old hb3) (app_old (app_old hb3)), kept1 (app_old hb4) (app_old (app_old hb4)), trivial⟩, ?_⟩
                        | refine ⟨⟨kept1 (hEo _ _ (app_old hb4)) (app_old (hEo _ _ (app_old hb4))), kept1 (hEo _ _ (app_old hb3)) (app_old (hEo _ _ (app_old hb3))), kept1 (hEo _ _ (app_old hb4)) (app_old (hEo _ _ (app_old hb4))), trivial⟩, ?_⟩
                      have hlK : G65.length ≤ K := by
                        first
                          | omega
                          | (have := hEo.len; rw [List.length_append] at this; omega)
                      try rw [as1]
                      refine ⟨?_, trivial⟩
                      first
                        | refine ⟨_, l_linear9_ok B E.2.2.2.2.2.2.2.2.2 (p := p) (n := n) (m := m) (hSo.ext Ext.app) hp1 hp256 hn8 hm8, ?_⟩
                        | refine ⟨_, l_linear9_ok B E.2.2.2.2.2.2.2.2.2 (p := p) (n := n) (m := m) hSo hp1 hp256 hn8 hm8, ?_⟩
                      rintro _ Gl ⟨T3, rfl, hT3, hfl, hSl⟩
                      have hg : ∀ {k : Nat} {B : Blk}, k < G65.length → G65[k]? = some B → Gl[k]? = some B := fun hk hb => by
                        first
                          | exact hfl.get (hEo _ _ (app_old hb)) (ne_app hk)
                          | exact hfl.get (app_old (hEo _ _ (app_old hb))) (ne_app hk)
                      have hXl : Ext H Gl := by
                        first
                          | exact ((hX.trans Ext.app).trans hEo).fr' hfl (le_app hX.len)
                          | exact (((hX.trans Ext.app).trans hEo).trans Ext.app).fr' hfl (le_app hX.len)
                      have hgK : Gl[K]? = some ⟨false, (Zk.by 0 64).bk⟩ := by
                        first
                          | exact hfl.get (by rw [← hK]; exact get_new) (by have := hSo.lt; omega)
                          | exact hfl.get (hEo _ _ (by rw [← hK]; exact at_k (i := 7))) (by rw [List.length_append]; simp; omega)
                      refine ⟨?_, trivial⟩
                      refine ⟨_, _, .by [] 64 (spl (fun _ => 0) 0 64 T3), hgK, cputs_by (by simp) (by omega), eqBk_rfl, ?_⟩
                      have hGE : ∀ {k : Nat} {B : Blk}, k < G65.length → G65[k]? = some B → (Gl.set K ⟨false, .by [] 64 (spl (fun _ => 0) 0 64 T3)⟩)[k]? = some B := fun hk hb => set_other (hg hk hb) (by omega)
                      have hk23 : (Gl.set K ⟨false, .by [] 64 (spl (fun _ => 0) 0 64 T3)⟩)[K]? = some ⟨false, .by [] 64 (spl (fun _ => 0) 0 64 T3)⟩ := set_same hgK
                      have hXE : Ext H (Gl.set K ⟨false, .by [] 64 (spl (fun _ => 0) 0 64 T3)⟩) := hXl.set (by have := hX.len; omega)
                      generalize (Gl.set K (⟨false, .by [] 64 (spl (fun _ => 0) 0 64 T3)⟩ : Blk)) = GE at hGE hk23 hXE ⊢
                      refine .inl ⟨_, _, _, _, hGE hl3 hb3, ⟨rfl, by omega⟩, ?_⟩
                      refine .inl ⟨_, _, _, _, hGE hl4 hb4, ⟨rfl, by omega⟩, ?_⟩
                      refine ⟨_, _, _, _, cvF p n m f g F G, hGE hl65 hb9, ⟨by simp, by omega⟩, fun x hx => by simp [spl, hx], ?_⟩
                      refine ⟨_, _, _, _, T3, hk23, ⟨by simp, by omega⟩, fun x hx => by simp [spl, hx], ?_⟩
                      refine ⟨_, i_ConvolveMaps_ok B E.2.2.2.2.1 (p := p) (n := (n : Int)) (q := p) (m := (m : Int)) (f := f) (g := g) (F := cvF p n m f g F G) (G := T3), rfl, ?_⟩
                      have hm3 := mp_2 hCo hAl (hcvl F G) hT3
                      rw [mp_val hm3, hm3]
                      refine ⟨GE.length + 0, rfl, ?_⟩
                      refine ⟨_, _, _, at_k, cputs_by (by simp) (by omega), eqBk_rfl, ?_⟩
                      rw [app_set]
                      refine .inl ⟨_, _, _, _, app_old (hGE hl3 hb3), ⟨rfl, by omega⟩, ?_⟩
                      refine .inl ⟨_, _, _, _, app_old (hGE hl4 hb4), ⟨rfl, by omega⟩, ?_⟩
                      refine ⟨_, _, _, _, G, app_old (hGE hl6 hb6), ⟨by simp, by omega⟩, fun x hx => by simp [spl, hx], ?_⟩
                      refine ⟨_, _, _, _, T3, app_old hk23, ⟨by simp, by omega⟩, fun x hx => by simp [spl, hx], ?_⟩
                      refine ⟨_, i_ConvolveMaps_ok B E.2.2.2.2.1 (p := p) (n := (n : Int)) (q := p) (m := (m : Int)) (f := f) (g := g) (F := G) (G := T3), rfl, ?_⟩
                      have hm4 := mp_2 hCo hAl hGl hT3
                      rw [mp_val hm4, hm4]
                      refine ⟨GE.length + 1, by simp, ?_⟩
                      rw [as1]
                      refine ⟨_, _, _, at_k, cputs_by (by simp) (by omega), eqBk_rfl, ?_⟩
                      rw [app_set]
                      refine .inl ⟨_, _, _, _, app_old (hGE hl3 hb3), ⟨rfl, by omega⟩, ?_⟩
                      refine .inl ⟨_, _, _, _, app_old (hGE hl4 hb4), ⟨rfl, by omega⟩, ?_⟩
                      refine ⟨_, _, _, _, F, app_old (hGE hl5 hb5), ⟨by simp, by omega⟩, fun x hx => by simp [spl, hx], ?_⟩
                      refine ⟨_, _, _, _, cvF p n m f g G T3, at_k, ⟨by simp, by omega⟩, fun x hx => by simp [spl, hx], ?_⟩
                      refine ⟨_, i_ConvolveMaps_ok B E.2.2.2.2.1 (p := p) (n := (n : Int)) (q := p) (m := (m : Int)) (f := f) (g := g) (F := F) (G := cvF p n m f g G T3), rfl, ?_⟩
                      have hm5 := mp_2 hCo hAl hFl (hcvl G T3)
                      rw [mp_val hm5, hm5]
                      refine ⟨GE.length + 2, by simp, ?_⟩
                      rw [as1]
                      refine ⟨_, _, _, at_k, cputs_by (by simp) (by omega), eqBk_rfl, ?_⟩
                      rw [app_set]
                      refine ⟨fun h170 => ?_, fun h170 => ?_⟩
                      · replace h170 := eq_of_beq h170
                        refine brB_t ?_
                        refine brB_t ?_
                        refine ⟨fun h174 => ?_, fun h174 => ?_⟩
                        · replace h174 := eq_of_beq h174
                          refine brB_t ?_
                          refine brB_t ?_
                          refine ⟨fun h178 => ?_, fun h178 => ?_⟩
                          · replace h178 := eq_of_beq h178
                            refine ⟨_, _, _, _, cvF p n m f g (cvF p n m f g F G) T3, at_k, ⟨by simp, by omega⟩, fun x hx => by simp [spl, hx], ?_⟩
                            refine brB_t ?_
                            refine ⟨_, _, _, _, cvF p n m f g F (cvF p n m f g G T3), at_k, ⟨by simp, by omega⟩, fun x hx => by simp [spl, hx], ?_⟩
                            refine brB_t ?_
                            refine brB_t ?_
                            refine ⟨rfl, ?_, hXE.trans Ext.app⟩
                            have hAs : eqB 64 (cvF p n m f g (cvF p n m f g F G) T3) (cvF p n m f g F (cvF p n m f g G T3)) = true := eqB_of (lin_eq hp1 (hcvl _ _) (hcvl _ _) (by simp only [tz_cv hp1 hp256 hn8 hm8 hAl hCo]; funext i y; exact cnv_as))
                            show Sv.one (.b (eqB 64 (cvF p n m f g (cvF p n m f g F G) T3) (cvF p n m f g F (cvF p n m f g G T3)))) = _
                            rw [hAs]
                          · replace h178 := ne_of_beq_false h178
                            exact absurd rfl h178
                        · replace h174 := ne_of_beq_false h174
                          exact absurd rfl h174
                      · replace h170 := ne_of_beq_false h170
                        exact absurd rfl h170
                  · skip
                    first
                      | (obtain ⟨K, hK⟩ : ∃ K, Gr.length = K := ⟨_, rfl⟩; refine ⟨K, hK, ?_⟩)
                      | (obtain ⟨K, hK⟩ : ∃ K, G65.length + 7 = K := ⟨_, rfl⟩; refine ⟨K, by rw [← hK]; simp, ?_⟩)
                    first
                      | refine ⟨⟨kept1 (app_old hb4) (app_old (app_old hb4)), kept1 (app_old hb3) (app_old (app_old hb3)), kept1 (app_old hb4) (app_old (app_old hb4)), trivial⟩, ?_⟩
                      | refine ⟨⟨kept1 (hEo _ _ (app_old hb4)) (app_old (hEo _ _ (app_old hb4))), kept1 (hEo _ _ (app_old hb3)) (app_old (hEo _ _ (app_old hb3))), kept1 (hEo _ _ (app_old hb4)) (app_old (hEo _ _ (app_old hb4))), trivial⟩, ?_⟩
                    have hlK : G65.length ≤ K := by
                      first
                        | omega
                        | (have := hEo.len; rw [List.length_append] at this; omega)
                    try rw [as1]
                    refine ⟨?_, trivial⟩
                    refine ⟨_, l_roll_ok B E.2.2.2.2.2.2.2.2.1 (a := a) (z := 9804) (hC.ext (hX.trans Ext.app)), ?_⟩
                    rintro _ Gr ⟨rfl, hEo, hSo⟩
                    refine ⟨⟨kept1 (app_old hb4) (hEo _ _ (app_old hb4)), kept1 (app_old hb3) (hEo _ _ (app_old hb3)), kept1 (app_old hb4) (hEo _ _ (app_old hb4)), trivial⟩, ?_⟩
                    refine ⟨?_, trivial⟩
                    first
                      | refine ⟨_, l_linear9_ok B E.2.2.2.2.2.2.2.2.2 (p := p) (n := n) (m := m) (hSo.ext Ext.app) hp1 hp256 hn8 hm8, ?_⟩
                      | refine ⟨_, l_linear9_ok B E.2.2.2.2.2.2.2.2.2 (p := p) (n := n) (m := m) hSo hp1 hp256 hn8 hm8, ?_⟩
                    rintro _ Gl ⟨T3, rfl, hT3, hfl, hSl⟩
                    have hg : ∀ {k : Nat} {B : Blk}, k < G65.length → G65[k]? = some B → Gl[k]? = some B := fun hk hb => by
                      first
                        | exact hfl.get (hEo _ _ (app_old hb)) (ne_app hk)
                        | exact hfl.get (app_old (hEo _ _ (app_old hb))) (ne_app hk)
                    have hXl : Ext H Gl := by
                      first
                        | exact ((hX.trans Ext.app).trans hEo).fr' hfl (le_app hX.len)
                        | exact (((hX.trans Ext.app).trans hEo).trans Ext.app).fr' hfl (le_app hX.len)
                    have hgK : Gl[K]? = some ⟨false, (Zk.by 0 64).bk⟩ := by
                      first
                        | exact hfl.get (by rw [← hK]; exact get_new) (by have := hSo.lt; omega)
                        | exact hfl.get (hEo _ _ (by rw [← hK]; exact at_k (i := 7))) (by rw [List.length_append]; simp; omega)
                    refine ⟨?_, trivial⟩
                    refine ⟨_, _, .by [] 64 (spl (fun _ => 0) 0 64 T3), hgK, cputs_by (by simp) (by omega), eqBk_rfl, ?_⟩
                    have hGE : ∀ {k : Nat} {B : Blk}, k < G65.length → G65[k]? = some B → (Gl.set K ⟨false, .by [] 64 (spl (fun _ => 0) 0 64 T3)⟩)[k]? = some B := fun hk hb => set_other (hg hk hb) (by omega)
                    have hk23 : (Gl.set K ⟨false, .by [] 64 (spl (fun _ => 0) 0 64 T3)⟩)[K]? = some ⟨false, .by [] 64 (spl (fun _ => 0) 0 64 T3)⟩ := set_same hgK
                    have hXE : Ext H (Gl.set K ⟨false, .by [] 64 (spl (fun _ => 0) 0 64 T3)⟩) := hXl.set (by have := hX.len; omega)
                    generalize (Gl.set K (⟨false, .by [] 64 (spl (fun _ => 0) 0 64 T3)⟩ : Blk)) = GE at hGE hk23 hXE ⊢
                    refine .inl ⟨_, _, _, _, hGE hl3 hb3, ⟨rfl, by omega⟩, ?_⟩
                    refine .inl ⟨_, _, _, _, hGE hl4 hb4, ⟨rfl, by omega⟩, ?_⟩
                    refine ⟨_, _, _, _, cvF p n m f g F G, hGE hl65 hb9, ⟨by simp, by omega⟩, fun x hx => by simp [spl, hx], ?_⟩
                    refine ⟨_, _, _, _, T3, hk23, ⟨by simp, by omega⟩, fun x hx => by simp [spl, hx], ?_⟩
                    refine ⟨_, i_ConvolveMaps_ok B E.2.2.2.2.1 (p := p) (n := (n : Int)) (q := p) (m := (m : Int)) (f := f) (g := g) (F := cvF p n m f g F G) (G := T3), rfl, ?_⟩
                    have hm3 := mp_2 hCo hAl (hcvl F G) hT3
                    rw [mp_val hm3, hm3]
                    refine ⟨GE.length + 0, rfl, ?_⟩
                    refine ⟨_, _, _, at_k, cputs_by (by simp) (by omega), eqBk_rfl, ?_⟩
                    rw [app_set]
                    refine .inl ⟨_, _, _, _, app_old (hGE hl3 hb3), ⟨rfl, by omega⟩, ?_⟩
                    refine .inl ⟨_, _, _, _, app_old (hGE hl4 hb4), ⟨rfl, by omega⟩, ?_⟩
                    refine ⟨_, _, _, _, G, app_old (hGE hl6 hb6), ⟨by simp, by omega⟩, fun x hx => by simp [spl, hx], ?_⟩
                    refine ⟨_, _, _, _, T3, app_old hk23, ⟨by simp, by omega⟩, fun x hx => by simp [spl, hx], ?_⟩
                    refine ⟨_, i_ConvolveMaps_ok B E.2.2.2.2.1 (p := p) (n := (n : Int)) (q := p) (m := (m : Int)) (f := f) (g := g) (F := G) (G := T3), rfl, ?_⟩
                    have hm4 := mp_2 hCo hAl hGl hT3
                    rw [mp_val hm4, hm4]
                    refine ⟨GE.length + 1, by simp, ?_⟩
                    rw [as1]
                    refine ⟨_, _, _, at_k, cputs_by (by simp) (by omega), eqBk_rfl, ?_⟩
                    rw [app_set]
                    refine .inl ⟨_, _, _, _, app_old (hGE hl3 hb3), ⟨rfl, by omega⟩, ?_⟩
                    refine .inl ⟨_, _, _, _, app_old (hGE hl4 hb4), ⟨rfl, by omega⟩, ?_⟩
                    refine ⟨_, _, _, _, F, app_old (hGE hl5 hb5), ⟨by simp, by omega⟩, fun x hx => by simp [spl, hx], ?_⟩
                    refine ⟨_, _, _, _, cvF p n m f g G T3, at_k, ⟨by simp, by omega⟩, fun x hx => by simp [spl, hx], ?_⟩
                    refine ⟨_, i_ConvolveMaps_ok B E.2.2.2.2.1 (p := p) (n := (n : Int)) (q := p) (m := (m : Int)) (f := f) (g := g) (F := F) (G := cvF p n m f g G T3), rfl, ?_⟩
                    have hm5 := mp_2 hCo hAl hFl (hcvl G T3)
                    rw [mp_val hm5, hm5]
                    refine ⟨GE.length + 2, by simp, ?_⟩
                    rw [as1]
                    refine ⟨_, _, _, at_k, cputs_by (by simp) (by omega), eqBk_rfl, ?_⟩
                    rw [app_set]
                    refine ⟨fun h170 => ?_, fun h170 => ?_⟩
                    · replace h170 := eq_of_beq h170
                      refine brB_t ?_
                      refine brB_t ?_
                      refine ⟨fun h174 => ?_, fun h174 => ?_⟩
                      · replace h174 := eq_of_beq h174
                        refine brB_t ?_
                        refine brB_t ?_
                        refine ⟨fun h178 => ?_, fun h178 => ?_⟩
                        · replace h178 := eq_of_beq h178
                          refine ⟨_, _, _, _, cvF p n m f g (cvF p n m f g F G) T3, at_k, ⟨by simp, by omega⟩, fun x hx => by simp [spl, hx], ?_⟩
                          refine brB_t ?_
                          refine ⟨_, _, _, _, cvF p n m f g F (cvF p n m f g G T3), at_k, ⟨by simp, by omega⟩, fun x hx => by simp [spl, hx], ?_⟩
                          refine brB_t ?_
                          refine brB_t ?_
                          refine ⟨rfl, ?_, hXE.trans Ext.app⟩
                          have hAs : eqB 64 (cvF p n m f g (cvF p n m f g F G) T3) (cvF p n m f g F (cvF p n m f g G T3)) = true := eqB_of (lin_eq hp1 (hcvl _ _) (hcvl _ _) (by simp only [tz_cv hp1 hp256 hn8 hm8 hAl hCo]; funext i y; exact cnv_as))
                          show Sv.one (.b (eqB 64 (cvF p n m f g (cvF p n m f g F G) T3) (cvF p n m f g F (cvF p n m f g G T3)))) = _
                          rw [hAs]
                        · replace h178 := ne_of_beq_false h178
                          exact absurd rfl h178
                      · replace h174 := ne_of_beq_false h174
                        exact absurd rfl h174
                    · replace h170 := ne_of_beq_false h170
                      exact absurd rfl h170

end Hf
