/- Contracts of the functions that the law reaches. -/
import Derived.Test.YtjadcnckmdceiaaGreatC2
set_option linter.unusedVariables false
set_option linter.unusedSimpArgs false
namespace Hf
open Go Classical
variable {P : Program} {ρ : Nat → FuncId}
/-- a call that reads one block -/
theorem CallOK.at1 {f k : Nat} {as args : List At} {H : List Blk} {v : Sv} {r : Bool} {hd : List Int} {N : Nat} {g : By} (hk : H[k]? = some ⟨r, .by hd N g⟩) (h : CallOK P ρ f as [⟨true, .by hd N g⟩] v [⟨true, .by hd N g⟩]) (ha : args = as.map (mva (tau [k] H.length))) (hv : mvs (tau [k] H.length) v = v) :
    CallR P ρ f args H fun u G => u = v ∧ G = H :=
  (h.emb [k] ha ⟨⟨r, hk, fun h => by cases h⟩, trivial⟩ rfl hv (by simp [back])).r
/-- and one that reads two -/
theorem CallOK.at2 {f k k' : Nat} {as args : List At} {H : List Blk} {v : Sv} {r r' : Bool} {hd hd' : List Int} {N N' : Nat} {g g' : By} (hk : H[k]? = some ⟨r, .by hd N g⟩) (hk' : H[k']? = some ⟨r', .by hd' N' g'⟩)
    (h : CallOK P ρ f as [⟨true, .by hd N g⟩, ⟨true, .by hd' N' g'⟩] v [⟨true, .by hd N g⟩, ⟨true, .by hd' N' g'⟩]) (ha : args = as.map (mva (tau [k, k'] H.length))) (hv : mvs (tau [k, k'] H.length) v = v) :
    CallR P ρ f args H fun u G => u = v ∧ G = H :=
  (h.emb [k, k'] ha ⟨⟨r, hk, fun h => by cases h⟩, ⟨r', hk', fun h => by cases h⟩, trivial⟩ (by simp [apart]) hv (by simp [back])).r

/-! ### the rows of a matrix -/
def rw8 (g : By) (i : Nat) : By := fun x => if x < 8 then g (i * 8 + x) else 0
def rows8 (g : By) : List By := (List.range 8).map (rw8 g)
theorem rows8_at {g : By} {i : Nat} (h : i < 8) : (rows8 g).getD i z0 = rw8 g i := by simp [rows8, List.getD_eq_getElem?_getD, h]
theorem VS.ag {H : List Blk} {k : Nat} {r : Bool} {g : By} (h : H[k]? = some ⟨r, .by [] 64 g⟩) : VS H (.sl k 0 8 8) (rows8 g) := by
  refine .inr ⟨k, 0, 8, r, 64, g, by simp [rows8], h, by simp [rows8], fun i x hi hx => ?_⟩
  have hi : i < 8 := by simpa [rows8] using hi
  rw [rows8_at hi, rw8, if_pos hx, Nat.zero_add]
theorem VW.one {H : List Blk} {m : Nat} {v : By} (hm : m ≤ H.length) : VW m (H ++ [⟨false, .by [] (1 * 8) (spl (fun _ => 0) (0 * 8) 8 v)⟩]) (.sl H.length 0 1 1) [v] := by
  refine ⟨H.length, 0, 1, _, _, rfl, get_new, ⟨by omega, by simp, hm⟩, fun i x h hx => ?_⟩
  obtain rfl : i = 0 := by simpa using h
  simp [spl, hx]
/-- a slice that may be nil -/
def VM (m : Nat) (H : List Blk) (a : At) (L : List By) : Prop := (a = .sn ∧ L = []) ∨ VW m H a L
theorem VM.vs {m : Nat} {H : List Blk} {a : At} {L : List By} (h : VM m H a L) : VS H a L := by
  rcases h with h | h
  · exact .inl h
  · exact h.vs
theorem VM.vw {m : Nat} {H : List Blk} {a : At} {L : List By} (h : VM m H a L) (hl : 0 < L.length) : VW m H a L := by
  rcases h with ⟨-, rfl⟩ | h
  · simp at hl
  · exact h
theorem VM.nil {m : Nat} {H : List Blk} : VM m H .sn [] := .inl ⟨rfl, rfl⟩
theorem VM.mono {m m' : Nat} {H : List Blk} {a : At} {L : List By} (h : VM m H a L) (hm : m' ≤ m) : VM m' H a L := h.imp id fun h => h.mono hm
theorem VM.ext {m : Nat} {H H' : List Blk} {a : At} {L : List By} (h : VM m H a L) (e : Ext H H') : VM m H' a L := h.imp id fun h => h.ext e
theorem VS.upto {m : Nat} {H H' : List Blk} {a : At} {L : List By} (h : VS H a L) (hm : H.length ≤ m) (e : Upto m H H') : VS H' a L := h.ext fun k B hk => e k B (by have := lt_of hk; omega) hk

theorem brB_f' {b : Bool} {K : Bool → Prop} (hb : b = false) (h : K false) : brB b K := by subst hb; exact brB_f h
/-! ### marks -/
def mkL (k : Int) (n : Nat) : List By := (List.range n).map fun i => fun x => byt (k + ((i * 8 + x : Nat) : Int))
theorem mkL_len {k : Int} {n : Nat} : (mkL k n).length = n := by simp [mkL]
theorem mkL_at {k : Int} {n i : Nat} (h : i < n) : (mkL k n).getD i z0 = fun x => byt (k + ((i * 8 + x : Nat) : Int)) := by simp [mkL, List.getD_eq_getElem?_getD, h]
/-- a list whose first i vectors, and the first j entries of the next, are marked -/
def mkP (k : Int) (L : List By) (t : Nat) : List By := (List.range L.length).map fun i => fun x => if i * 8 + x < t ∧ x < 8 then byt (k + ((i * 8 + x : Nat) : Int)) else (L.getD i z0) x
theorem mkP_len {k : Int} {L : List By} {t : Nat} : (mkP k L t).length = L.length := by simp [mkP]
theorem mkP_at {k : Int} {L : List By} {t i : Nat} (h : i < L.length) : (mkP k L t).getD i z0 = fun x => if i * 8 + x < t ∧ x < 8 then byt (k + ((i * 8 + x : Nat) : Int)) else (L.getD i z0) x := by simp [mkP, List.getD_eq_getElem?_getD, h]
theorem VW.congr {m : Nat} {H : List Blk} {a : At} {L L' : List By} (h : VW m H a L) (hl : L'.length = L.length) (e : ∀ i x, i < L.length → x < 8 → (L.getD i z0) x = (L'.getD i z0) x) : VW m H a L' := by
  obtain ⟨k, off, cap, N, f, rfl, h2, h3, h4⟩ := h
  exact ⟨k, off, cap, N, f, by rw [hl], h2, by rw [hl]; exact h3, fun i x hi hx => by rw [hl] at hi; rw [h4 i x hi hx]; exact e i x hi hx⟩
/-- an entry is written -/
theorem VW.st {m : Nat} {H : List Blk} {a : At} {L : List By} (h : VW m H a L) (i : Nat) (hi : i < L.length) :
    ∃ k off len cap q c, a = .sl k off len cap ∧ i < len ∧ off + i * 8 = q ∧ H[k]? = some ⟨false, c⟩ ∧ ∀ x b, x < 8 → cput c (q + x) (.u b) = some (bput c (q + x) b) ∧
      (∀ L', L'.length = L.length → (∀ j y, j < L.length → y < 8 → (L'.getD j z0) y = if j = i ∧ y = x then b else (L.getD j z0) y) → VW m (H.set k ⟨false, bput c (q + x) b⟩) a L') ∧ Upto m H (H.set k ⟨false, bput c (q + x) b⟩) := by
  obtain ⟨k, off, cap, N, f, rfl, h2, h3, h4⟩ := h
  refine ⟨k, off, L.length, cap, off + i * 8, _, rfl, hi, rfl, h2, fun x b hx => ⟨cput_u (by simp) (by omega), fun L' hl he => ⟨k, off, cap, N, upd f (off + i * 8 + x) b, by rw [hl], set_same h2, by rw [hl]; exact h3, fun j y hj hy => ?_⟩, fun j B hj e => set_other e (by omega)⟩⟩
  rw [hl] at hj
  rw [he j y hj hy]
  unfold upd
  by_cases e : j = i ∧ y = x
  · rw [if_pos e, if_pos (by omega)]
  · rw [if_neg e, if_neg (by omega)]
    exact h4 j y hj hy
end Hf
namespace Hf
open Go Classical
variable {P : Program} {ρ : Nat → FuncId}
theorem l_eqVectorS_ok (B : Bs P ρ) (E : F_l_eqVectorS P ρ) {H : List Blk} {a b : At} {L : List By} (hA : VS H a L) (hB : VS H b L) (hlen : L.length ≤ 1000000) :
    CallR P ρ 247 [a, b] H (fun u G => u = .one (.b true) ∧ G = H) := by
  refine call_of_q B.fn B.mo E.1 rfl (fun hAr hHp => ?_) (by simp only [List.all_cons, List.all_nil, hA.lt, hB.lt]; rfl)
  refine ⟨_, (hA).len, ?_⟩   -- 7 .len ['.t', 6]
  refine ⟨_, (hB).len, ?_⟩   -- 9 .len ['.t', 8]
  refine brB_f' (by simp) ?_
  refine ⟨Unit, (fun a0 a1 (i0 : Nat) (x0 : Unit) => [(0, a0), (1, a1), (5, .one (.i .i64 ((i0 : Nat) : Int)))]) _ _ , fun (i0 : Nat) (x0 : Unit) (G0 : List Blk) => (G0 = H), L.length, ⟨(), rfl, ⟨rfl, rfl, rfl, trivial⟩⟩, ?_⟩
  rintro i0 _ G0 hi0 rfl
  refine ⟨_, (hA).len, ?_⟩   -- 13 .len ['.t', 12]
  refine ⟨fun h14 => ?_, fun h14 => ?_⟩
  · replace h14 := of_decide_eq_true h14
    obtain ⟨k19, o19, n19, c19, q19, ea19, hl19, hq19, r19, N19, f19, hk19, hN19, hf19⟩ := (hA).at i0 (by omega)   -- 19 .ids ['.t', 17]
    refine ⟨k19, o19, n19, c19, i0, q19, ea19, rfl, hl19, hq19, ?_⟩
    refine ⟨_, _, _, _, _, hk19, ⟨by simp, hN19⟩, hf19, ?_⟩   -- 20 .lda ['.t', 19]
    obtain ⟨k23, o23, n23, c23, q23, ea23, hl23, hq23, r23, N23, f23, hk23, hN23, hf23⟩ := (hB).at i0 (by omega)   -- 23 .ids ['.t', 21]
    refine ⟨k23, o23, n23, c23, i0, q23, ea23, rfl, hl23, hq23, ?_⟩
    refine ⟨_, _, _, _, _, hk23, ⟨by simp, hN23⟩, hf23, ?_⟩   -- 24 .lda ['.t', 23]
    refine ⟨_, l_eqVector_ok B E.2 , rfl, ?_⟩   -- 25 .calp 19
    refine brB_f ?_
    refine ⟨((i0 + 1 : Nat) : Int), w64_id _ (by omega) (by omega), ?_⟩   -- 16 .bin
    exact ⟨by omega, (), rfl, ⟨rfl, rfl, rfl, trivial⟩⟩
  · replace h14 := of_decide_eq_false h14
    have e0 : L.length = i0 := by omega
    subst e0
    exact ⟨rfl, rfl, rfl⟩

theorem l_markVectorS_ok (B : Bs P ρ) (E : F_l_markVectorS P ρ) {H : List Blk} {m : Nat} {a : At} {L : List By} {k : Int} (hA : VM m H a L) (hlen : L.length ≤ 1000) (hk : 0 ≤ k) (hk2 : k ≤ 1000) :
    CallR P ρ 248 [a, .i .i64 k] H (fun u G => u = .one (.i .i64 (k + ((L.length * 8 : Nat) : Int))) ∧ VM m G a (mkL k L.length) ∧ Upto m H G) := by
  refine call_of_q B.fn B.mo E rfl (fun hAr hHp => ?_) (by simp only [List.all_cons, List.all_nil, hA.vs.lt]; rfl)
  refine ⟨Int, (fun a0 (i0 : Nat) (x0 : Int) => [(0, a0), (1, .one (.i .i64 x0)), (5, .one (.i .i64 ((i0 : Nat) : Int)))]) _ , fun (i0 : Nat) (x0 : Int) (G0 : List Blk) => (x0 = k + ((i0 * 8 : Nat) : Int) ∧ VM m G0 a (mkP k L (i0 * 8)) ∧ Upto m H G0), L.length, ⟨k, ?_, ⟨rfl, rfl, rfl, trivial⟩⟩, ?_⟩
  · refine ⟨by omega, ?_, Upto.refl⟩
    rcases hA with ⟨rfl, rfl⟩ | hA
    · exact .inl ⟨rfl, rfl⟩
    · exact .inr (hA.congr mkP_len fun i x hi hx => by rw [mkP_at hi]; simp)
  rintro i0 x0 G0 hi0 ⟨hx0, hV0, hU0⟩
  refine ⟨L.length, by rw [hV0.vs.len, mkP_len], ?_⟩
  refine ⟨fun h10 => ?_, fun h10 => ?_⟩
  · replace h10 := of_decide_eq_true h10
    refine ⟨Int, (fun a0 a5 (i1 : Nat) (x1 : Int) => [(0, a0), (1, .one (.i .i64 x1)), (5, a5), (6, .one (.i .i64 ((i1 : Nat) : Int)))]) _ _ , fun (i1 : Nat) (x1 : Int) (G1 : List Blk) => (x1 = k + ((i0 * 8 + i1 : Nat) : Int) ∧ VW m G1 a (mkP k L (i0 * 8 + i1)) ∧ Upto m H G1), 8, ⟨_, ⟨by omega, hV0.vw (by rw [mkP_len]; omega), hU0⟩, ⟨rfl, rfl, rfl, rfl, trivial⟩⟩, ?_⟩
    rintro i1 x1 G1 hi1 ⟨hx1, hV1, hU1⟩
    refine ⟨fun h14 => ?_, fun h14 => ?_⟩
    · replace h14 := of_decide_eq_true h14
      obtain ⟨k22, o22, n22, c22, q22, C22, ea22, hl22, hq22, hk22, hs22⟩ := VW.st (hV1) i0 (by rw [mkP_len]; omega)   -- 22 .ids ['.t', 17]
      refine ⟨k22, o22, n22, c22, i0, q22, ea22, rfl, hl22, hq22, ?_⟩
      refine ⟨i1, q22 + i1, rfl, by omega, by omega, ?_⟩
      refine ⟨_, _, _, hk22, (hs22 i1 _ (by omega)).1, eqBk_rfl, ?_⟩
      refine ⟨_, w64_id _ (by omega) (by omega), ?_⟩   -- 25 .bin
      refine ⟨((i1 + 1 : Nat) : Int), w64_id _ (by omega) (by omega), ?_⟩   -- 16 .bin
      refine ⟨by omega, _, ?_, ⟨rfl, rfl, rfl, rfl, trivial⟩⟩
      obtain ⟨-, hc, hu⟩ := hs22 i1 (byt x1) (by omega)
      refine ⟨by omega, hc _ (by rw [mkP_len, mkP_len]) ?_, hU1.trans hu⟩
      intro j y hj hy
      rw [mkP_len] at hj
      rw [mkP_at hj, mkP_at hj]
      dsimp only
      by_cases e : j = i0 ∧ y = i1
      · obtain ⟨rfl, rfl⟩ := e
        rw [if_pos ⟨Nat.lt_succ_self _, hy⟩, if_pos ⟨rfl, rfl⟩, hx1]
      · by_cases h : j * 8 + y < i0 * 8 + i1
        · rw [if_pos ⟨Nat.lt_succ_of_lt h, hy⟩, if_neg e, if_pos ⟨h, hy⟩]
        · rw [if_neg (fun q => by have := q.1; omega), if_neg e, if_neg (fun q => h q.1)]
    · replace h14 := of_decide_eq_false h14
      have e1 : 8 = i1 := by omega
      subst e1
      refine ⟨((i0 + 1 : Nat) : Int), w64_id _ (by omega) (by omega), ?_⟩   -- 12 .bin
      refine ⟨by omega, _, ?_, ⟨rfl, rfl, rfl, trivial⟩⟩
      refine ⟨by omega, ?_, hU1⟩
      rw [show (i0 + 1) * 8 = i0 * 8 + 8 by omega]
      exact .inr hV1
  · replace h10 := of_decide_eq_false h10
    have e0 : L.length = i0 := by omega
    subst e0
    refine ⟨rfl, by rw [hx0]; rfl, ?_, hU0⟩
    have e : mkP k L (L.length * 8) = mkP k L (L.length * 8) := rfl
    rcases hV0 with ⟨h1, h2⟩ | hV0
    · have h3 := congrArg List.length h2
      rw [mkP_len] at h3
      exact .inl ⟨h1, by rw [h3]; rfl⟩
    · exact .inr (hV0.congr (by rw [mkL_len, mkP_len]) fun i x hi hx => by rw [mkP_len] at hi; rw [mkP_at hi, mkL_at hi]; dsimp only; rw [if_pos ⟨by omega, hx⟩])

theorem l_heldVectorS_ok (B : Bs P ρ) (E : F_l_heldVectorS P ρ) {H : List Blk} {a : At} {n : Nat} {k : Int} (hA : VS H a (mkL k n)) (hlen : n ≤ 1000) (hk : 0 ≤ k) (hk2 : k ≤ 1000) :
    CallR P ρ 249 [a, .i .i64 k] H (fun u G => u = .one (.i .i64 (k + ((n * 8 : Nat) : Int))) ∧ G = H) := by
  refine call_of_q B.fn B.mo E rfl (fun hAr hHp => ?_) (by simp only [List.all_cons, List.all_nil, hA.lt]; rfl)
  refine ⟨Int, (fun a0 (i0 : Nat) (x0 : Int) => [(0, a0), (1, .one (.i .i64 x0)), (5, .one (.i .i64 ((i0 : Nat) : Int)))]) _ , fun (i0 : Nat) (x0 : Int) (G0 : List Blk) => (x0 = k + ((i0 * 8 : Nat) : Int) ∧ G0 = H), n, ⟨k, ⟨by omega, rfl⟩, ⟨rfl, rfl, rfl, trivial⟩⟩, ?_⟩
  rintro i0 x0 G0 hi0 ⟨hx0, rfl⟩
  refine ⟨n, by rw [hA.len, mkL_len], ?_⟩
  refine ⟨fun h10 => ?_, fun h10 => ?_⟩
  · replace h10 := of_decide_eq_true h10
    refine ⟨Int, (fun a0 a5 (i1 : Nat) (x1 : Int) => [(0, a0), (1, .one (.i .i64 x1)), (5, a5), (6, .one (.i .i64 ((i1 : Nat) : Int)))]) _ _ , fun (i1 : Nat) (x1 : Int) (G1 : List Blk) => (x1 = k + ((i0 * 8 + i1 : Nat) : Int) ∧ G1 = G0), 8, ⟨_, ⟨by omega, rfl⟩, ⟨rfl, rfl, rfl, rfl, trivial⟩⟩, ?_⟩
    rintro i1 x1 G1 hi1 ⟨hx1, rfl⟩
    refine ⟨fun h14 => ?_, fun h14 => ?_⟩
    · replace h14 := of_decide_eq_true h14
      obtain ⟨k20, o20, n20, c20, q20, ea20, hl20, hq20, r20, N20, f20, hk20, hN20, hf20⟩ := hA.at i0 (by rw [mkL_len]; omega)
      refine ⟨k20, o20, n20, c20, i0, q20, ea20, rfl, hl20, hq20, ?_⟩
      refine ⟨i1, q20 + i1, rfl, by omega, by omega, ?_⟩
      refine ⟨_, .u (byt x1), hk20, ?_, ?_⟩
      · rw [cat_u (by omega), ← hf20 i1 (by omega), mkL_at (by omega), hx1]
      refine brB_f' (by simp) ?_
      refine ⟨_, w64_id _ (by omega) (by omega), ?_⟩   -- 27 .bin
      refine ⟨((i1 + 1 : Nat) : Int), w64_id _ (by omega) (by omega), ?_⟩   -- 16 .bin
      exact ⟨by omega, _, ⟨by omega, rfl⟩, ⟨rfl, rfl, rfl, rfl, trivial⟩⟩
    · replace h14 := of_decide_eq_false h14
      have e1 : 8 = i1 := by omega
      subst e1
      refine ⟨((i0 + 1 : Nat) : Int), w64_id _ (by omega) (by omega), ?_⟩   -- 12 .bin
      exact ⟨by omega, _, ⟨by omega, rfl⟩, ⟨rfl, rfl, rfl, trivial⟩⟩
  · replace h10 := of_decide_eq_false h10
    have e0 : n = i0 := by omega
    subst e0
    refine ⟨rfl, by rw [hx0]; rfl, rfl⟩

end Hf
namespace Hf
open Go Classical
variable {P : Program} {ρ : Nat → FuncId}
theorem x_Clone_B_ok (B : Bs P ρ) (E : F_x_Clone_B P ρ) {H : List Blk} {k off n cap : Nat} {r : Bool} {N : Nat} {f : By} (hk : H[k]? = some ⟨r, .by [] N f⟩) (hN : off + n ≤ N) (hn : n ≤ 1000) :
    CallR P ρ 289 [.sl k off n cap] H (fun u G => ∃ b, u = .one b ∧ RowC H.length G n b (fun x => f (off + x)) ∧ Ext H G) := by
  refine call_of_q B.fn B.mo E rfl (fun hAr hHp => ?_) (by simp [At.lt, lt_of hk])
  refine brB_f ?_
  refine ⟨[], _, rfl, rfl, ?_⟩   -- 5 .bsy ('L', [])
  refine ⟨_, rowc_app (n := 0) (v := z0) (M := n) (g := fun x => f (off + x)) ⟨_, _, _, _, rfl, get_new, ⟨Nat.le_refl _, Nat.le_refl _, Nat.le_refl _⟩, fun x hx => by omega⟩ ⟨rfl, r, N, f, app_old hk, by omega, fun x hx => rfl⟩ (by omega) (by simp), ?_⟩   -- 7 .apb 1
  rintro a7 G7 ⟨hv7, hu7, hl7⟩
  refine ⟨rfl, a7, rfl, ?_, ?_⟩
  · obtain ⟨k', cap', N', f', h1, h2, h3, h4⟩ := hv7
    refine ⟨k', cap', N', f', by rw [h1, Nat.zero_add], h2, by omega, fun x hx => ?_⟩
    have := h4 x (by omega)
    rw [this]; simp
  · exact Upto.ext Ext.app hu7 (Nat.le_refl _)

theorem i_reduced_ok (B : Bs P ρ) (E : F_i_reduced P ρ) {H : List Blk} {p : Int} {a : At} {L : List By} (hp : Pr p) (hL : VS H a L) (hv : ∀ v ∈ L, Vp 8 p v) (hlen : L.length ≤ 100000) :
    CallR P ρ 267 [.i .i64 p, a] H (fun u G => ∃ b, u = .one b ∧ Ext H G ∧ VW H.length G b (redL p L)) := by
  have hp2 := hp.1
  have hp3 := hp.2.1
  refine call_of_q B.fn B.mo E.1 rfl (fun hAr hHp => ?_) (by simp only [List.all_cons, List.all_nil, hL.lt]; rfl)
  refine ⟨_, i_newSystem_ok B E.2.1 , ?_⟩   -- 12 .call 271
  rintro _ _ ⟨rfl, rfl⟩
  refine ⟨_, (hL).len, ?_⟩   -- 14 .len ['.t', 13]
  refine ⟨Unit, (fun a5 a13 a14 (i0 : Nat) (x0 : Unit) => [(5, a5), (13, a13), (14, a14), (15, .one (.i .i64 ((i0 : Nat) : Int)))]) _ _ _ , fun (i0 : Nat) (x0 : Unit) (G0 : List Blk) => (SY H.length G0 H.length p 0 8 (L.take i0) [] ∧ Ext H G0), L.length, ⟨(), ?_, ⟨rfl, rfl, rfl, rfl, trivial⟩⟩, ?_⟩
  · refine ⟨⟨.sn, [], .sn, get_new, .inl ⟨rfl, rfl⟩, ⟨rfl, fun i h => by simp at h⟩, .inl ⟨rfl, rfl⟩, by simp [OwnT, spB], by simp [OwnT, spB]⟩, Ext.app⟩
  rintro i0 _ G0 hi0 ⟨hS0, hE0⟩
  refine ⟨fun h16 => ?_, fun h16 => ?_⟩
  · replace h16 := of_decide_eq_true h16
    obtain ⟨k17, o17, n17, c17, q17, ea17, hl17, hq17, r17, N17, f17, hk17, hN17, hf17⟩ := (hL.ext hE0).at i0 (by omega)   -- 17 .ids ['.t', 13]
    refine ⟨k17, o17, n17, c17, i0, q17, ea17, rfl, hl17, hq17, ?_⟩
    refine ⟨_, _, _, _, _, hk17, ⟨by simp, hN17⟩, hf17, ?_⟩   -- 18 .lda ['.t', 17]
    refine ⟨_, rfl, ?_⟩
    refine ⟨_, _, _, get_new, cputs_by (by simp) (by omega), eqBk_rfl, ?_⟩
    obtain ⟨ra, As, pa, hs, hra, hR, hpa, hnd, hge⟩ := hS0
    have hlt0 := lt_of hs
    rw [app_set0]
    refine ⟨_, _, app_old hs, rfl, ?_⟩
    refine ⟨0, 8, rfl, rfl, ⟨by omega, by omega, by omega⟩, ?_⟩
    refine ⟨?_, ?_⟩
    · skip
      refine ⟨_, x_Clone_B_ok B E.2.2.1 (k := G0.length) (off := 0 + 0 * 1) (n := 8 - 0) get_new (by omega) (by omega), ?_⟩   -- 25 .call 289
      rintro _ G25 ⟨b25, rfl, hc25, hE25⟩
      refine ⟨⟨kept1 (app_old hs) (hE25 _ _ (app_old hs)), trivial⟩, ?_⟩
      refine ⟨[0], _, rfl, rfl, ?_⟩   -- 26 .bsy ('L', [['.c', ['.u', 0]]])
      refine ⟨⟨kept1 (hE25 _ _ (app_old hs)) (app_old (hE25 _ _ (app_old hs))), trivial⟩, ?_⟩
      refine ⟨_, rowc_app (m := G0.length) (g := fun _ => 0) (M := 1) ((hc25.mono (by simp)).ext Ext.app) ⟨rfl, _, _, _, get_new, by simp, fun x hx => by have e : x = 0 := (by omega); subst e; rfl⟩ (by omega) (by have := hE25.len; simp at this ⊢; omega), ?_⟩   -- 27 .apb 1
      rintro a27 G27 ⟨hv27, hu27, hl27⟩
      have hE27 : Ext G0 G27 := Upto.ext (Ext.app.trans (hE25.trans Ext.app)) hu27 (Nat.le_refl _)
      refine ⟨⟨kept1 (B := sysB p 0 8 ra pa) (by first | exact hE25 _ _ (app_old (app_old hs)) | exact app_old (hE25 _ _ (app_old hs))) (hE27 _ _ hs), trivial⟩, ?_⟩
      obtain ⟨k27, cap27, N27, f27, rfl, hk27, hc27, hf27⟩ := hv27
      have hx27 : RowC G0.length G27 9 (.sl k27 0 (8 - 0 + 1) cap27) (L.getD i0 z0) := ⟨k27, cap27, N27, f27, rfl, hk27, hc27, fun x hx => by
        rw [hf27 x (by omega)]
        dsimp only
        by_cases h8 : x < 8
        · rw [if_pos (by omega)]; simp [spl, h8]
        · rw [if_neg (by omega)]; exact ((hv _ (getD_mem (L := L) (i := i0) (by omega))).2 x (by omega)).symm⟩
      refine ⟨_, rfl, ?_⟩   -- 28 .bsa
      refine ⟨⟨kept1 (hE27 _ _ hs) (app_old (hE27 _ _ hs)), trivial⟩, ?_⟩
      refine ⟨_, spn_app (x := .sl k27 0 (8 - 0 + 1) cap27) (hra.fr (l := []) (hE27.trans Ext.app).fr (by simp)) ⟨false, _, get_new, by simp, rfl⟩ (by have := hR.1; simp at this; omega) (by omega), ?_⟩   -- 29 .apr .sn
      rintro a29 G29 ⟨hp29, hf29, hb29, hl29⟩
      obtain ⟨hs29, hS29, hF29⟩ := sy_add hs hra hR hpa hnd hge hE0.len (hE27.trans Ext.app) (hx27.ext Ext.app) hp29 hf29 (app_hb hb29)
      refine ⟨_, _, _, hs29, cput_rw (by simp) hp29.cell, eqBk_rfl, ?_⟩
      refine ⟨((i0 + 1 : Nat) : Int), w64_id _ (by omega) (by omega), ?_⟩   -- 32 .bin
      refine ⟨by omega, (), ?_, ⟨rfl, rfl, rfl, rfl, trivial⟩⟩
      refine ⟨?_, ?_⟩
      · have e : L.take (i0 + 1) = L.take i0 ++ [L.getD i0 z0] := by rw [List.take_add_one]; simp [show i0 < L.length by omega]
        rw [e]; exact hS29
      · exact Upto.ext hE0 (hF29.upto fun k hk => hge k (by simp only [List.mem_cons] at hk; rcases hk with h | h <;> simp [OwnT, h])) (Nat.le_refl _)
    · skip
      refine ⟨[0], _, rfl, rfl, ?_⟩   -- 26 .bsy ('L', [['.c', ['.u', 0]]])
      refine ⟨⟨kept1 (app_old hs) (app_old (app_old hs)), trivial⟩, ?_⟩
      refine ⟨_, x_Clone_B_ok B E.2.2.1 (k := G0.length) (off := 0 + 0 * 1) (n := 8 - 0) (app_old get_new) (by omega) (by omega), ?_⟩   -- 25 .call 289
      rintro _ G25 ⟨b25, rfl, hc25, hE25⟩
      refine ⟨⟨kept1 (app_old (app_old hs)) (hE25 _ _ (app_old (app_old hs))), trivial⟩, ?_⟩
      refine ⟨_, rowc_app (m := G0.length) (g := fun _ => 0) (M := 1) (hc25.mono (by simp)) ⟨rfl, _, _, _, hE25 _ _ get_new, by simp, fun x hx => by have e : x = 0 := (by omega); subst e; rfl⟩ (by omega) (by have := hE25.len; simp at this ⊢; omega), ?_⟩   -- 27 .apb 1
      rintro a27 G27 ⟨hv27, hu27, hl27⟩
      have hE27 : Ext G0 G27 := Upto.ext (Ext.app.trans (Ext.app.trans hE25)) hu27 (Nat.le_refl _)
      refine ⟨⟨kept1 (B := sysB p 0 8 ra pa) (by first | exact hE25 _ _ (app_old (app_old hs)) | exact app_old (hE25 _ _ (app_old hs))) (hE27 _ _ hs), trivial⟩, ?_⟩
      obtain ⟨k27, cap27, N27, f27, rfl, hk27, hc27, hf27⟩ := hv27
      have hx27 : RowC G0.length G27 9 (.sl k27 0 (8 - 0 + 1) cap27) (L.getD i0 z0) := ⟨k27, cap27, N27, f27, rfl, hk27, hc27, fun x hx => by
        rw [hf27 x (by omega)]
        dsimp only
        by_cases h8 : x < 8
        · rw [if_pos (by omega)]; simp [spl, h8]
        · rw [if_neg (by omega)]; exact ((hv _ (getD_mem (L := L) (i := i0) (by omega))).2 x (by omega)).symm⟩
      refine ⟨_, rfl, ?_⟩   -- 28 .bsa
      refine ⟨⟨kept1 (hE27 _ _ hs) (app_old (hE27 _ _ hs)), trivial⟩, ?_⟩
      refine ⟨_, spn_app (x := .sl k27 0 (8 - 0 + 1) cap27) (hra.fr (l := []) (hE27.trans Ext.app).fr (by simp)) ⟨false, _, get_new, by simp, rfl⟩ (by have := hR.1; simp at this; omega) (by omega), ?_⟩   -- 29 .apr .sn
      rintro a29 G29 ⟨hp29, hf29, hb29, hl29⟩
      obtain ⟨hs29, hS29, hF29⟩ := sy_add hs hra hR hpa hnd hge hE0.len (hE27.trans Ext.app) (hx27.ext Ext.app) hp29 hf29 (app_hb hb29)
      refine ⟨_, _, _, hs29, cput_rw (by simp) hp29.cell, eqBk_rfl, ?_⟩
      refine ⟨((i0 + 1 : Nat) : Int), w64_id _ (by omega) (by omega), ?_⟩   -- 32 .bin
      refine ⟨by omega, (), ?_, ⟨rfl, rfl, rfl, rfl, trivial⟩⟩
      refine ⟨?_, ?_⟩
      · have e : L.take (i0 + 1) = L.take i0 ++ [L.getD i0 z0] := by rw [List.take_add_one]; simp [show i0 < L.length by omega]
        rw [e]; exact hS29
      · exact Upto.ext hE0 (hF29.upto fun k hk => hge k (by simp only [List.mem_cons] at hk; rcases hk with h | h <;> simp [OwnT, h])) (Nat.le_refl _)
  · replace h16 := of_decide_eq_false h16
    have e0 : L.length = i0 := by omega
    subst e0
    refine ⟨_, i_system_solve_ok B E.2.2.2 (p := p) (n0 := 0) (m0 := H.length) (m := 8) (R := L) (T0 := []) (by omega) (by omega) (by omega) (by rw [List.take_length] at hS0; exact hS0) (by omega) hE0.len, ?_⟩   -- 34 .call 287
    rintro _ G34 ⟨rfl, hS34, hU34⟩
    have hred := sol_red hp hv
    rw [hred] at hS34
    obtain ⟨ra, As, pa, hs, hra, hR, hpa, hnd, hge⟩ := hS34
    have hAl := hR.1
    have hE34 := Upto.ext hE0 hU34 (Nat.le_refl _)
    have hrl := (redL_rr hp hv).1.len
    refine ⟨_, rfl, ?_⟩
    refine ⟨_, _, app_old hs, rfl, ?_⟩
    refine ⟨_, (hra).len, ?_⟩   -- 40 .len ['.t', 39]
    refine ⟨At, (fun a39 a40 (i1 : Nat) (x1 : At) => [(8, .one x1), (39, a39), (40, a40), (41, .one (.i .i64 ((i1 : Nat) : Int)))]) _ _ , fun (i1 : Nat) (x1 : At) (G1 : List Blk) => (VW G34.length G1 x1 ((redL p L).take i1) ∧ Upto G34.length G34 G1), As.length, ⟨_, ⟨VW.nil (Nat.le_refl _), Ext.app.upto⟩, ⟨rfl, rfl, rfl, rfl, trivial⟩⟩, ?_⟩
    rintro i1 x1 G1 hi1 ⟨hW1, hU1⟩
    have hE1 : Ext G34 G1 := fun k B e => hU1 k B (lt_of e) e
    refine ⟨fun h42 => ?_, fun h42 => ?_⟩
    · replace h42 := of_decide_eq_true h42
      obtain ⟨k43, o43, n43, c43, q43, ea43, hl43, hq43, r43, l43, hk43, hi43⟩ := rdR_at ((hra.fr (l := []) hE1.fr (by simp)).rd) i1 (by omega)   -- 43 .ids ['.t', 39]
      refine ⟨k43, o43, n43, c43, i1, q43, ea43, rfl, hl43, hq43, ?_⟩
      obtain ⟨kr, cr, Nr, fr, ea, hkr, hNr, hfr⟩ := (hR.fr (l := []) hE1.fr (by simp)).at i1 (by omega)
      rw [ea] at hi43
      refine ⟨_, _, hk43, hi43, ?_⟩   -- 44 .ld1 ['.t', 43]
      refine ⟨0, 8, rfl, rfl, ⟨by omega, by omega⟩, ?_⟩
      refine ⟨by omega, ?_⟩   -- 48 .sap ['.t', 47]
      have ho : (if cr = 0 then 0 else 0 + 0 * 1) = 0 := by split <;> rfl
      have hg49 : ∀ x, x < 8 → (redL p L).getD i1 z0 x = fr ((if cr = 0 then 0 else 0 + 0 * 1) + x) := by
        intro x hx
        rw [ho, Nat.zero_add]; exact (hfr x (by omega)).symm
      have hb49 : (if cr = 0 then 0 else 0 + 0 * 1) + 8 ≤ Nr := by rw [ho]; omega
      refine ⟨_, _, _, _, (redL p L).getD i1 z0, hkr, ⟨Nat.zero_le _, hb49⟩, hg49, ?_⟩
      refine ⟨_, rfl, ?_⟩   -- 50 .bsb
      refine ⟨_, vw_app (hW1.ext Ext.app) (VS.one (v := (redL p L).getD i1 z0)) (by simp; omega) (by have := hE1.len; simp; omega), ?_⟩   -- 51 .apb 8
      rintro a51 G51 ⟨hv51, hu51⟩
      refine ⟨((i1 + 1 : Nat) : Int), w64_id _ (by omega) (by omega), ?_⟩   -- 52 .bin
      refine ⟨by omega, _, ?_, ⟨rfl, rfl, rfl, rfl, trivial⟩⟩
      have e : (redL p L).take (i1 + 1) = (redL p L).take i1 ++ [(redL p L).getD i1 z0] := by rw [List.take_add_one]; simp [show i1 < (redL p L).length by omega]
      dsimp only; rw [e]
      exact ⟨hv51, hU1.trans ((Ext.app (G := _)).upto.trans hu51)⟩
    · replace h42 := of_decide_eq_false h42
      have e1 : As.length = i1 := by omega
      subst e1
      refine ⟨rfl, x1, rfl, ?_, ?_⟩
      · exact hE34.trans hE1
      · have := hW1.mono hE34.len
        rw [hAl, List.take_length] at this
        exact this

end Hf
namespace Hf
open Go Classical
variable {P : Program} {ρ : Nat → FuncId}
theorem x_Clone_V_ok (B : Bs P ρ) (E : F_x_Clone_V P ρ) {H : List Blk} {k off n cap : Nat} {L : List By} (hA : VS H (.sl k off n cap) L) (hlen : L.length ≤ 1000000) :
    CallR P ρ 285 [.sl k off n cap] H (fun u G => ∃ b, u = .one b ∧ VW H.length G b L ∧ Ext H G) := by
  refine call_of_q B.fn B.mo E rfl (fun hAr hHp => ?_) (by simp only [List.all_cons, List.all_nil, hA.lt]; rfl)
  refine brB_f ?_
  refine ⟨_, rfl, ?_⟩   -- 5 .bsb
  refine ⟨_, vw_app (VW.nil (Nat.le_refl _)) (hA.ext Ext.app) (by simp; omega) (by simp), ?_⟩   -- 7 .apb 8
  rintro a7 G7 ⟨hv7, hu7⟩
  refine ⟨rfl, a7, rfl, by simpa using hv7, Upto.ext Ext.app hu7 (Nat.le_refl _)⟩

theorem i_legs_ok (B : Bs P ρ) (E : F_i_legs P ρ) {H : List Blk} {g : By} :
    CallR P ρ 260 [.ag [] 64 g] H (fun u G => ∃ b, u = .one b ∧ VW H.length G b (rows8 g ++ rows8 (trT g)) ∧ Ext H G) := by
  refine call_of_q B.fn B.mo E.1 rfl (fun hAr hHp => ?_) rfl
  refine ⟨H.length, rfl, ?_⟩
  refine ⟨_, CallOK.at1 get_new (i_transposed_ok B E.2.1 (F := g)) rfl rfl, ?_⟩
  rintro _ _ ⟨rfl, rfl⟩
  refine ⟨_, rfl, ?_⟩
  refine ⟨_, _, _, get_new, cputs_by (by simp) (by omega), eqBk_rfl, ?_⟩
  rw [app_set0]
  refine ⟨0, 8, rfl, rfl, ⟨by omega, by omega, by omega⟩, ?_⟩
  refine ⟨0, 8, rfl, rfl, ⟨by omega, by omega, by omega⟩, ?_⟩
  refine ⟨_, x_Clone_V_ok B E.2.2 (L := rows8 g) (VS.ag (app_old get_new)) (by simp [rows8]), ?_⟩   -- 6 .call 285
  rintro _ G6 ⟨b6, rfl, hV6, hE6⟩
  have hV1 : VS (H ++ [⟨false, .by [] 64 g⟩] ++ [⟨false, .by [] 64 (spl (fun _ => 0) 0 64 (trT g))⟩]) (.sl (H ++ [(⟨false, .by [] 64 g⟩ : Blk)]).length 0 8 8) (rows8 (trT g)) := by
    have := VS.ag (H := H ++ [⟨false, .by [] 64 g⟩] ++ [⟨false, .by [] 64 (spl (fun _ => 0) 0 64 (trT g))⟩]) get_new
    have e : rows8 (spl (fun _ => 0) 0 64 (trT g)) = rows8 (trT g) := List.map_congr_left fun i hi => by
      funext x
      have := List.mem_range.1 hi
      simp only [rw8]
      split
      · simp [spl]; omega
      · rfl
    rwa [e] at this
  refine ⟨_, vw_app hV6 (hV1.ext hE6) (by simp [rows8]) hE6.len, ?_⟩   -- 8 .apb 8
  rintro a8 G8 ⟨hv8, hu8⟩
  exact ⟨rfl, a8, rfl, hv8.mono (by simp), Upto.ext (Ext.app.trans (Ext.app.trans hE6)) (fun k B hk e => hu8 k B (by simp; omega) e) (Nat.le_refl _)⟩

theorem i_Hopf_span_ok (B : Bs P ρ) (E : F_i_Hopf_span P ρ) {H : List Blk} {k : Nat} {r : Bool} {p n : Int} {f : By} {a : At} {L : List By} (hk : H[k]? = some ⟨r, .by [p, n] 1106 f⟩) (hp : Pr p) (hL : VS H a L) (hv : ∀ v ∈ L, Vp 8 p v) (hlen : L.length ≤ 100000) :
    CallR P ρ 261 [.pt k 0, a] H (fun u G => ∃ b, u = .one b ∧ Ext H G ∧ VW H.length G b (redL p L)) := by
  refine call_of_q B.fn B.mo E.1 rfl (fun hAr hHp => ?_) (by simp only [List.all_cons, List.all_nil, hL.lt]; simp [At.lt, lt_of hk])
  refine ⟨_, _, hk, rfl, ?_⟩
  refine ⟨_, i_reduced_ok B E.2 hp hL hv hlen, ?_⟩   -- 10 .call 267
  rintro _ G10 ⟨b, rfl, hE, hV⟩
  exact ⟨rfl, b, rfl, hE, hV⟩

/-- one place's row and column laid in -/
def colN (n : Nat) (m : By) (j : Nat) : By := fun k => if k < n then m (k * 8 + j) else 0
def legS (p : Int) (n : Nat) (m : By) (i : Nat) : List By := (List.range i).foldl (fun L j => putL p (putL p L (rw8 m j)) (colN n m j)) []
theorem legS_succ {p : Int} {n i : Nat} {m : By} : legS p n m (i + 1) = putL p (putL p (legS p n m i) (rw8 m i)) (colN n m i) := by
  unfold legS; rw [List.range_succ, List.foldl_append]; rfl
theorem legS_red {p : Int} {n : Nat} {m : By} : ∀ {i : Nat}, legS p n m i = redL p ((List.range i).flatMap fun j => [rw8 m j, colN n m j])
  | 0 => rfl
  | i + 1 => by
    rw [legS_succ, @legS_red p n m i, List.range_succ, List.flatMap_append]
    simp [redL, List.foldl_append]
theorem s_l07Legs_ok (B : Bs P ρ) (E : F_s_l07Legs P ρ) {H : List Blk} {p : Int} {n : Nat} {f v : By} (hp : Pr p) (hn : n ≤ 8) :
    CallR P ρ 259 [.ag [p, (n : Int)] 1106 f, .ag [] 8 v] H (fun u G => ∃ b, u = .one b ∧ Ext H G ∧ VS G b (legS p n (vec 64 p (cop n f 530 v)) n)) := by
  have hp2 := hp.1
  have hp3 := hp.2.1
  refine call_of_q B.fn B.mo E.1 rfl (fun hAr hHp => ?_) rfl
  refine ⟨H.length, rfl, ?_⟩
  refine ⟨_, rfl, ?_⟩
  refine .inl ⟨_, _, _, _, app_old get_new, ⟨rfl, by omega⟩, ?_⟩
  refine ⟨_, _, _, _, v, get_new, ⟨by simp, by omega⟩, fun x _ => congrArg _ (Nat.zero_add x).symm, ?_⟩
  refine ⟨_, s_l03Coproduct_ok B E.2.1 (by omega) (by omega) hn, rfl, ?_⟩   -- 12 .calp 54
  refine ⟨_, rfl, ?_⟩
  refine ⟨_, rfl, ?_⟩
  refine ⟨_, _, _, get_new, cputs_by (by simp) (by omega), eqBk_rfl, ?_⟩
  rw [app_set0]
  generalize hm : vec 64 p (cop n f 530 v) = m
  have hmv : ∀ x, x < 64 → spl (fun _ => 0) 0 64 m x = m x := fun x hx => by simp [spl, hx]
  refine ⟨At, (fun a2 a5 (i0 : Nat) (x0 : At) => [(2, a2), (5, a5), (6, .one x0), (7, .one (.i .i64 ((i0 : Nat) : Int)))]) _ _ , fun (i0 : Nat) (x0 : At) (G0 : List Blk) => (VS G0 x0 (legS p n m i0) ∧ Ext (H ++ [⟨false, .by [p, (n : Int)] 1106 f⟩] ++ [⟨false, .by [] 8 v⟩] ++ [⟨false, .by [] (0 * 8) fun _ => 0⟩] ++ [⟨false, .by [] 64 (spl (fun _ => 0) 0 64 m)⟩]) G0), n, ⟨_, ⟨(VW.nil (m := 0) (Nat.zero_le _)).vs.ext Ext.app, Ext.refl⟩, ⟨rfl, rfl, rfl, rfl, trivial⟩⟩, ?_⟩
  rintro i0 x0 G0 hi0 ⟨hV0, hE0⟩
  have hb2 := hE0 _ _ (app_old (app_old (app_old get_new)))
  have hb5 := hE0 _ _ get_new
  refine ⟨_, _, hb2, rfl, ?_⟩
  refine ⟨fun h17 => ?_, fun h17 => ?_⟩
  · replace h17 := of_decide_eq_true h17
    refine ⟨_, rfl, ?_⟩
    refine ⟨_, _, _, get_new, cputs_by (by simp) (by omega), eqBk_rfl, ?_⟩
    rw [app_set0]
    refine ⟨Unit, (fun a2 a5 a6 a7 a8 (i1 : Nat) (x1 : Unit) => [(2, a2), (5, a5), (6, a6), (7, a7), (8, a8), (9, .one (.i .i64 ((i1 : Nat) : Int)))]) _ _ _ _ _ , fun (i1 : Nat) (x1 : Unit) (G1 : List Blk) => (∃ w, G1 = G0 ++ [⟨false, .by [] 8 w⟩] ∧ ∀ y, y < 8 → w y = if y < i1 then colN n m i0 y else 0), n, ⟨(), ⟨_, rfl, fun y hy => by simp [spl, hy]⟩, ⟨rfl, rfl, rfl, rfl, rfl, rfl, trivial⟩⟩, ?_⟩
    rintro i1 _ G1 hi1 ⟨w, rfl, hw⟩
    refine ⟨_, _, app_old hb2, rfl, ?_⟩
    refine ⟨fun h24 => ?_, fun h24 => ?_⟩
    · replace h24 := of_decide_eq_true h24
      refine ⟨i1, _, rfl, by omega, rfl, ?_⟩   -- 30 .idx
      refine ⟨i0, _, rfl, by omega, rfl, ?_⟩   -- 31 .idx
      refine ⟨_, _, app_old hb5, cat_u (by omega), ?_⟩
      refine ⟨i1, _, rfl, by omega, rfl, ?_⟩   -- 33 .idx
      refine ⟨_, _, _, get_new, cput_u (by simp) (by omega), eqBk_rfl, ?_⟩
      refine ⟨((i1 + 1 : Nat) : Int), w64_id _ (by omega) (by omega), ?_⟩   -- 26 .bin
      refine ⟨by omega, (), ?_, ⟨rfl, rfl, rfl, rfl, rfl, rfl, trivial⟩⟩
      refine ⟨_, app_set0, fun y hy => ?_⟩
      by_cases e : y = i1
      · subst e
        rw [show 0 + y * 1 = y by omega, upd_same, if_pos (by omega), hmv _ (by omega)]
        unfold colN
        rw [if_pos (by omega), show 0 + y * 8 + i0 * 1 = y * 8 + i0 by omega]
      · rw [upd_ne _ _ _ _ (by omega), hw y hy]
        by_cases h : y < i1
        · rw [if_pos h, if_pos (by omega)]
        · rw [if_neg h, if_neg (by omega)]
    · replace h24 := of_decide_eq_false h24
      have e1 : n = i1 := by omega
      subst e1
      refine ⟨_, _, app_old hb2, rfl, ?_⟩
      refine ⟨_, _, app_old hb2, rfl, ?_⟩
      refine ⟨i0, _, rfl, by omega, rfl, ?_⟩   -- 40 .idx
      refine ⟨_, _, _, _, rw8 m i0, app_old hb5, ⟨by simp, by omega⟩, fun x hx => by rw [hmv _ (by omega), rw8, if_pos hx]; congr 1; omega, ?_⟩
      refine ⟨_, _, _, _, colN n m i0, get_new, ⟨by simp, by omega⟩, fun x hx => by rw [Nat.zero_add, hw x hx]; unfold colN; split <;> rfl, ?_⟩
      have hvm : ∀ x, bz m x < p := fun x => by rw [← hm]; exact bz_vec_lt (by omega) (by omega)
      have hz1 : Vp 8 p (rw8 m i0) := ⟨fun x => by unfold bz rw8; split; exact hvm _; simp; omega, fun x hx => if_neg (by omega)⟩
      have hz2 : Vp 8 p (colN n m i0) := ⟨fun x => by unfold bz colN; split; exact hvm _; simp; omega, fun x hx => if_neg (by omega)⟩
      have hleg : ∀ i, RR 8 p (legS p n m i) := by
        intro i
        rw [legS_red]
        refine (redL_rr hp fun v hv => ?_).1
        obtain ⟨j, -, hj⟩ := List.mem_flatMap.1 hv
        simp only [List.mem_cons, List.not_mem_nil, or_false] at hj
        rcases hj with rfl | rfl
        · exact ⟨fun x => by unfold bz rw8; split; exact hvm _; simp; omega, fun x hx => if_neg (by omega)⟩
        · exact ⟨fun x => by unfold bz colN; split; exact hvm _; simp; omega, fun x hx => if_neg (by omega)⟩
      have hr1 := hleg i0
      have hr2 := (putL_rr hp hr1 hz1).1
      have hl1 := hr1.len
      have hl2 := hr2.len
      refine ⟨_, s_l01Put_ok B E.2.2 (by omega) (by omega) (hV0.ext Ext.app) hr1.fs (by omega), ?_⟩   -- 42 .call 266
      rintro _ G42 ⟨b42, rfl, hE42, hV42⟩
      refine ⟨⟨kept1 get_new (hE42 _ _ get_new), kept1 (app_old hb2) (hE42 _ _ (app_old hb2)), trivial⟩, ?_⟩
      refine ⟨_, s_l01Put_ok B E.2.2 (by omega) (by omega) hV42 hr2.fs (by omega), ?_⟩   -- 44 .call 266
      rintro _ G44 ⟨b44, rfl, hE44, hV44⟩
      refine ⟨((i0 + 1 : Nat) : Int), w64_id _ (by omega) (by omega), ?_⟩   -- 19 .bin
      refine ⟨by omega, _, ?_, ⟨rfl, rfl, rfl, rfl, trivial⟩⟩
      dsimp only
      rw [legS_succ]
      exact ⟨hV44, hE0.trans (Ext.app.trans (hE42.trans hE44))⟩
  · replace h17 := of_decide_eq_false h17
    have e0 : n = i0 := by omega
    subst e0
    exact ⟨rfl, x0, rfl, Ext.app.trans (Ext.app.trans (Ext.app.trans (Ext.app.trans hE0))), hV0⟩

def QV (p n : Int) (f v : By) : Prop := Hop p n f ∧ Vec p n v 0
theorem oc_0 {q : Prop} (h : oc q 1 = 0) : q := by
  apply Classical.byContradiction
  intro hq
  rw [oc_f hq] at h
  cases h
theorem QV_iff {p n : Int} {f v : By} : (Hop p n f ∧ ∀ i, i < 1 → Vec p n (spl (fun _ => 0) (0 * 8) 8 v) (i * 8)) ↔ QV p n f v := by
  have e : ∀ k : Nat, k < 8 → bz (spl (fun _ => 0) (0 * 8) 8 v) (0 * 8 + k) = bz v (0 + k) := fun k hk => by simp [bz, spl, hk]
  refine and_congr Iff.rfl ⟨fun h k hk => ?_, fun h i hi => ?_⟩
  · have := h 0 (by omega) k hk
    rwa [e k hk] at this
  · obtain rfl : i = 0 := by omega
    intro k hk
    have := h k hk
    rwa [← e k hk] at this
noncomputable def legsV (p n : Int) (f v : By) : List By := if QV p n f v then redL p (rows8 (vec 64 p (cop n.toNat f 530 v)) ++ rows8 (trT (vec 64 p (cop n.toNat f 530 v)))) else []
theorem rows8_vp {p : Int} {g : By} (h : ∀ x, x < 64 → bz g x < p) (hp : 1 ≤ p) : ∀ v ∈ rows8 g, Vp 8 p v := by
  intro v hv
  obtain ⟨i, hi, rfl⟩ := List.mem_map.1 hv
  have hi := List.mem_range.1 hi
  refine ⟨fun x => ?_, fun x hx => if_neg (by omega)⟩
  unfold bz rw8
  split
  · exact h _ (by omega)
  · simp; omega
theorem trT_lt {p : Int} {g : By} (h : ∀ x, x < 64 → bz g x < p) : ∀ x, x < 64 → bz (trT g) x < p := by
  intro x hx
  have e : trT g x = g (x % 8 * 8 + x / 8) := by
    have := trT_app (F := g) (a := x / 8) (b := x % 8) (by omega) (by omega)
    rwa [show x / 8 * 8 + x % 8 = x by omega] at this
  unfold bz
  rw [e]; exact h _ (by omega)
theorem i_LegsOf_ok (B : Bs P ρ) (E : F_i_LegsOf P ρ) {H : List Blk} {p n : Int} {f v : By} :
    CallR P ρ 252 [.ag [p, n] 1106 f, .ag [] 8 v] H (fun u G => ∃ b, u = .tup [b, .i .i64 (oc (QV p n f v) 1)] ∧ Ext H G ∧ VM H.length G b (legsV p n f v)) := by
  refine call_of_q B.fn B.mo E.1 rfl (fun hAr hHp => ?_) rfl
  refine ⟨_, rfl, ?_⟩
  refine ⟨_, rfl, ?_⟩
  refine ⟨_, _, _, _, v, get_new, ⟨by simp, by omega⟩, fun x _ => congrArg _ (Nat.zero_add x).symm, ?_⟩
  refine ⟨_, rfl, ?_⟩
  refine ⟨_, CallOK.at2 (app_old (app_old get_new)) get_new (i_Hopf_code_ok B E.2.1 (p := p) (n := n) (f := f) (len := 1) (cap := 1) (Nat.le_refl _) (by omega)) rfl rfl, ?_⟩
  rintro _ _ ⟨rfl, rfl⟩
  rw [show oc _ 1 = oc (QV p n f v) 1 from congrArg (fun q => oc q 1) (propext QV_iff)]
  refine ⟨fun h11 => ?_, fun h11 => ?_⟩
  · replace h11 := bne_t h11
    refine ⟨rfl, .sn, rfl, Ext.app.trans (Ext.app.trans Ext.app), .inl ⟨rfl, ?_⟩⟩
    unfold legsV
    rw [if_neg fun q => h11 (oc_t q)]
  · replace h11 := bne_f h11
    have hq : QV p n f v := oc_0 h11
    obtain ⟨hop, hvec⟩ := hq
    obtain ⟨m, rfl⟩ : ∃ m : Nat, n = (m : Int) := ⟨n.toNat, by have := hop.1.1.2.1; omega⟩
    have hpr := hop.1.1.1
    have hp2 := hpr.1
    have hp3 := hpr.2.1
    have hm8 : m ≤ 8 := by have := hop.1.1.2.2; omega
    refine ⟨_, _, _, _, v, (app_old get_new), ⟨by simp, by omega⟩, fun x _ => congrArg _ (Nat.zero_add x).symm, ?_⟩
    refine ⟨_, CallOK.at1 (app_old (app_old get_new)) (i_Hopf_coproduct_ok B E.2.2.1 (n := m) (by omega) (by omega) hm8 (fun i hi hi2 => by have := (hvec i hi2).2 (by omega); rwa [Nat.zero_add] at this)) rfl rfl, ?_⟩
    rintro _ _ ⟨rfl, rfl⟩
    refine ⟨_, i_legs_ok B E.2.2.2.1 , ?_⟩   -- 15 .call 260
    rintro _ G15 ⟨b15, rfl, hV15, hE15⟩
    have hlt : ∀ x, x < 64 → bz (vec 64 p (cop m f 530 v)) x < p := fun x _ => bz_vec_lt (by omega) (by omega)
    refine ⟨_, i_Hopf_span_ok B E.2.2.2.2 (hE15 _ _ (app_old (app_old get_new))) hpr hV15.vs (by   -- 16 .call 261
      intro w hw
      rcases List.mem_append.1 hw with h | h
      · exact rows8_vp hlt (by omega) w h
      · exact rows8_vp (trT_lt hlt) (by omega) w h) (by simp [rows8]), ?_⟩
    rintro _ G16 ⟨b16, rfl, hE16, hV16⟩
    have hE : Ext H G16 := Ext.app.trans (Ext.app.trans (Ext.app.trans (hE15.trans hE16)))
    refine ⟨rfl, b16, by rw [show oc (QV p m f v) 1 = 0 from oc_t ⟨hop, hvec⟩]; rfl, hE, .inr ?_⟩
    unfold legsV
    rw [if_pos ⟨hop, hvec⟩, Int.toNat_natCast]
    exact hV16.mono (by have := hE15.len; simp at this; omega)

theorem legs_same {p : Int} {n : Nat} {f v : By} (h : QV p n f v) : legS p n (vec 64 p (cop n f 530 v)) n = legsV p n f v := by
  have hs := h.1.1
  have hpr := hs.1.1
  have hp2 := hpr.1
  have hp3 := hpr.2.1
  have hn8 : n ≤ 8 := by have := hs.1.2.2; omega
  have hlt : ∀ x, x < 64 → bz (vec 64 p (cop n f 530 v)) x < p := fun x _ => bz_vec_lt (by omega) (by omega)
  have hz : ∀ j k, j < 8 → k < 8 → n ≤ j ∨ n ≤ k → vec 64 p (cop n f 530 v) (j * 8 + k) = 0 := fun j k hj hk hz => bz_eq0.1 (cop_z hs hj hk hz)
  rw [legS_red]
  unfold legsV
  rw [if_pos h, Int.toNat_natCast]
  generalize hm : vec 64 p (cop n f 530 v) = m at hlt hz
  have hcol : ∀ j, j < 8 → colN n m j = rw8 (trT m) j := by
    intro j hj
    funext k
    unfold colN rw8
    by_cases hk : k < 8
    · rw [if_pos hk, trT_app hj hk]
      by_cases hk2 : k < n
      · rw [if_pos hk2]
      · rw [if_neg hk2, hz k j hk hj (.inl (by omega))]
    · rw [if_neg hk, if_neg (by omega)]
  have hA : ∀ w ∈ (List.range n).flatMap (fun j => [rw8 m j, colN n m j]), w ∈ rows8 m ++ rows8 (trT m) := by
    intro w hw
    obtain ⟨j, hj, hw⟩ := List.mem_flatMap.1 hw
    have hj := List.mem_range.1 hj
    simp only [List.mem_cons, List.not_mem_nil, or_false] at hw
    rcases hw with rfl | rfl
    · exact List.mem_append_left _ (List.mem_map_of_mem (List.mem_range.2 (by omega)))
    · rw [hcol j (by omega)]
      exact List.mem_append_right _ (List.mem_map_of_mem (List.mem_range.2 (by omega)))
  have hvB : ∀ w ∈ rows8 m ++ rows8 (trT m), Vp 8 p w := by
    intro w hw
    rcases List.mem_append.1 hw with h | h
    · exact rows8_vp hlt (by omega) w h
    · exact rows8_vp (trT_lt hlt) (by omega) w h
  refine redL_eq hpr (fun w hw => hvB w (hA w hw)) hvB (fun w hw => .mem (by omega) (by omega) (hA w hw) (hvB w (hA w hw))) ?_
  intro w hw
  have hin : ∀ j, j < n → rw8 m j ∈ (List.range n).flatMap (fun j => [rw8 m j, colN n m j]) ∧ colN n m j ∈ (List.range n).flatMap (fun j => [rw8 m j, colN n m j]) := fun j hj =>
    ⟨List.mem_flatMap.2 ⟨j, List.mem_range.2 hj, by simp⟩, List.mem_flatMap.2 ⟨j, List.mem_range.2 hj, by simp⟩⟩
  have hvw := hvB w hw
  rcases List.mem_append.1 hw with h | h
  · obtain ⟨j, hj, rfl⟩ := List.mem_map.1 h
    have hj := List.mem_range.1 hj
    by_cases hjn : j < n
    · exact .mem (by omega) (by omega) (hin j hjn).1 hvw
    · have : rw8 m j = z0 := by
        funext x
        unfold rw8
        split
        · exact hz j x hj (by omega) (.inl (by omega))
        · rfl
      rw [this]; exact .z
  · obtain ⟨j, hj, rfl⟩ := List.mem_map.1 h
    have hj := List.mem_range.1 hj
    by_cases hjn : j < n
    · rw [← hcol j hj] at hvw ⊢
      exact .mem (by omega) (by omega) (hin j hjn).2 hvw
    · have : rw8 (trT m) j = z0 := by
        funext x
        unfold rw8
        split
        · rw [trT_app hj (by omega)]; exact hz x j (by omega) hj (.inr (by omega))
        · rfl
      rw [this]; exact .z
theorem s_LegsOf_ok (B : Bs P ρ) (E : F_s_LegsOf P ρ) {H : List Blk} {p n : Int} {f v : By} :
    CallR P ρ 251 [.ag [p, n] 1106 f, .ag [] 8 v] H (fun u G => ∃ b, u = .tup [b, .i .i64 (oc (QV p n f v) 1)] ∧ Ext H G ∧ VS G b (legsV p n f v)) := by
  refine call_of_q B.fn B.mo E.1 rfl (fun hAr hHp => ?_) rfl
  refine ⟨_, rfl, ?_⟩
  refine ⟨_, rfl, ?_⟩
  refine .inl ⟨_, _, _, _, app_old get_new, ⟨rfl, by omega⟩, ?_⟩
  refine ⟨_, _, _, _, v, get_new, ⟨by simp, by omega⟩, fun x _ => congrArg _ (Nat.zero_add x).symm, ?_⟩
  refine ⟨_, rfl, ?_⟩
  refine ⟨_, CallOK.at1 get_new (s_l03Code_ok B E.2.1 (p := p) (n := n) (f := f) (len := 1) (cap := 1) (Nat.le_refl _) (by omega)) rfl rfl, ?_⟩
  rintro _ _ ⟨rfl, rfl⟩
  rw [show oc _ 1 = oc (QV p n f v) 1 from congrArg (fun q => oc q 1) (propext QV_iff)]
  refine ⟨fun h12 => ?_, fun h12 => ?_⟩
  · replace h12 := bne_t h12
    refine ⟨rfl, .sn, rfl, Ext.app.trans (Ext.app.trans Ext.app), .inl ⟨rfl, ?_⟩⟩
    unfold legsV
    rw [if_neg fun q => h12 (oc_t q)]
  · replace h12 := bne_f h12
    have hq : QV p n f v := oc_0 h12
    obtain ⟨hop, hvec⟩ := hq
    obtain ⟨m, rfl⟩ : ∃ m : Nat, n = (m : Int) := ⟨n.toNat, by have := hop.1.1.2.1; omega⟩
    have hpr := hop.1.1.1
    have hp2 := hpr.1
    have hp3 := hpr.2.1
    have hm8 : m ≤ 8 := by have := hop.1.1.2.2; omega
    refine .inl ⟨_, _, _, _, app_old (app_old get_new), ⟨rfl, by omega⟩, ?_⟩
    refine ⟨_, _, _, _, v, (app_old get_new), ⟨by simp, by omega⟩, fun x _ => congrArg _ (Nat.zero_add x).symm, ?_⟩
    refine ⟨_, s_l07Legs_ok B E.2.2 hpr hm8, ?_⟩   -- 16 .call 259
    rintro _ G16 ⟨b16, rfl, hE16, hV16⟩
    rw [legs_same ⟨hop, hvec⟩] at hV16
    exact ⟨rfl, b16, by rw [show oc (QV p m f v) 1 = 0 from oc_t ⟨hop, hvec⟩]; rfl, Ext.app.trans (Ext.app.trans (Ext.app.trans hE16)), hV16⟩

end Hf
namespace Hf
open Go Classical
variable {P : Program} {ρ : Nat → FuncId}
theorem legsV_len {p n : Int} {f v : By} : (legsV p n f v).length ≤ 8 := by
  unfold legsV
  split
  · rename_i h
    have hpr := h.1.1.1.1
    have hlt : ∀ x, x < 64 → bz (vec 64 p (cop n.toNat f 530 v)) x < p := fun x _ => bz_vec_lt (by have := hpr.1; omega) (by have := hpr.2.1; omega)
    refine (redL_rr hpr ?_).1.len
    intro w hw
    rcases List.mem_append.1 hw with h | h
    · exact rows8_vp hlt (by have := hpr.1; omega) w h
    · exact rows8_vp (trT_lt hlt) (by have := hpr.1; omega) w h
  · simp
theorem l_FnExactLegsOf_ok (B : Bs P ρ) (E : F_l_FnExactLegsOf P ρ) {p n : Int} {f v : By} :
    CallOK P ρ 253 [.ag [p, n] 1106 f, .ag [] 8 v] [] (.one (.b true)) [] := by
  refine (CallR.pure (call_of_q B.fn B.mo E.1 rfl (fun _ _ => ?_) rfl) rfl).ok
  have hlen := legsV_len (p := p) (n := n) (f := f) (v := v)
  refine ⟨_, rfl, ?_⟩   -- 2 .box
  refine ⟨_, rfl, ?_⟩   -- 3 .box
  have hEx : Ext ([] ++ [(⟨false, .by [p, n] 1106 f⟩ : Blk)] ++ [(⟨false, .by [] 8 v⟩ : Blk)]) ([] ++ [(⟨false, .by [p, n] 1106 f⟩ : Blk)] ++ [(⟨false, .by [] 8 v⟩ : Blk)]) := Ext.refl
  refine .inl ⟨_, _, _, _, (hEx _ _ rfl), ⟨rfl, by omega⟩, ?_⟩   -- 14 .lda ['.t', 2]
  refine ⟨_, l_toHopf_ok B E.2.1 , rfl, ?_⟩   -- 15 .calp 0
  refine ⟨_, _, _, _, v, (hEx _ _ rfl), ⟨by simp, by omega⟩, fun x _ => congrArg _ (Nat.zero_add x).symm, ?_⟩   -- 16 .lda ['.t', 3]
  refine ⟨_, l_toVector_ok B E.2.2.1 , rfl, ?_⟩   -- 17 .calp 16
  refine ⟨_, s_LegsOf_ok B E.2.2.2.1 , ?_⟩   -- 18 .call 251
  rintro _ G1 ⟨b1, rfl, hE1, hV1⟩
  have hEx := hEx.trans hE1
  have hEx1 := hEx
  refine .inl ⟨_, _, _, _, (hEx _ _ rfl), ⟨rfl, by omega⟩, ?_⟩   -- 22 .lda ['.t', 2]
  refine ⟨_, l_toHopf_ok B E.2.1 , rfl, ?_⟩   -- 23 .calp 0
  refine ⟨_, _, _, _, v, (hEx _ _ rfl), ⟨by simp, by omega⟩, fun x _ => congrArg _ (Nat.zero_add x).symm, ?_⟩   -- 24 .lda ['.t', 3]
  refine ⟨_, l_toVector_ok B E.2.2.1 , rfl, ?_⟩   -- 25 .calp 16
  refine ⟨_, i_LegsOf_ok B E.2.2.2.2.1 , ?_⟩   -- 26 .call 252
  rintro _ G2 ⟨b2, rfl, hE2, hV2⟩
  have hEx := hEx.trans hE2
  refine ⟨_, l_eqVectorS_ok B E.2.2.2.2.2.1 hV2.vs (hV1.ext hE2) (by omega), ?_⟩   -- 31 .call 247
  rintro _ _ ⟨rfl, rfl⟩
  refine brB_f ?_
  refine brB_f ?_
  refine brB_f ?_
  refine brB_f ?_
  refine brB_f' (by simp) ?_
  refine ⟨_, l_markVectorS_ok B E.2.2.2.2.2.2.1 (m := G1.length) (k := 101) hV2 (by omega) (by omega) (by omega), ?_⟩   -- 40 .call 248
  rintro _ G3 ⟨rfl, hV3, hU3⟩
  have hE3 : Ext G1 G3 := Upto.ext hE2 hU3 (Nat.le_refl _)
  have hEx := hEx1.trans hE3
  refine ⟨_, l_heldVectorS_ok B E.2.2.2.2.2.2.2 (k := 101) hV3.vs (by omega) (by omega) (by omega), ?_⟩   -- 43 .call 249
  rintro _ _ ⟨rfl, rfl⟩
  refine brB_f' (decide_eq_false (by omega)) ?_
  refine brB_f' (by simp) ?_
  refine .inl ⟨_, _, _, _, (hEx _ _ rfl), ⟨rfl, by omega⟩, ?_⟩   -- 50 .lda ['.t', 2]
  refine ⟨_, l_toHopf_ok B E.2.1 , rfl, ?_⟩   -- 51 .calp 0
  refine ⟨_, _, _, _, v, (hEx _ _ rfl), ⟨by simp, by omega⟩, fun x _ => congrArg _ (Nat.zero_add x).symm, ?_⟩   -- 52 .lda ['.t', 3]
  refine ⟨_, l_toVector_ok B E.2.2.1 , rfl, ?_⟩   -- 53 .calp 16
  refine ⟨_, i_LegsOf_ok B E.2.2.2.2.1 , ?_⟩   -- 54 .call 252
  rintro _ G4 ⟨b4, rfl, hE4, hV4⟩
  have hEx := hEx.trans hE4
  refine ⟨_, l_eqVectorS_ok B E.2.2.2.2.2.1 hV4.vs (hV1.ext (hE3.trans hE4)) (by omega), ?_⟩   -- 59 .call 247
  rintro _ _ ⟨rfl, rfl⟩
  refine brB_f ?_
  refine brB_f ?_
  refine brB_f ?_
  refine brB_f ?_
  refine brB_f' (by simp) ?_
  refine ⟨_, l_heldVectorS_ok B E.2.2.2.2.2.2.2 (k := 101) (hV3.vs.ext hE4) (by omega) (by omega) (by omega), ?_⟩   -- 68 .call 249
  rintro _ _ ⟨rfl, rfl⟩
  refine brB_f' (decide_eq_false (by omega)) ?_
  refine brB_f' (by simp) ?_
  exact ⟨rfl, rfl, Ext.nil⟩

end Hf
